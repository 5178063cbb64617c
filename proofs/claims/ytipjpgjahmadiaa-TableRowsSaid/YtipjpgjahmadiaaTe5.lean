/- THE TABLE: its rows, in the order of the clients. -/
import Derived.Test.YtipjpgjahmadiaaTe4
set_option linter.unusedVariables false
set_option linter.unusedSimpArgs false
set_option maxRecDepth 100000
namespace Go.Proofs.Ytipjpgjahmadiaa
open Go Go.Sx Go.Proofs Go.Sort Go.Lib
def rowOf (p : Int × Last) : Row := ⟨p.1, p.2.serial, p.2.result⟩
def rowsOf (T : List (Int × Last)) : List Row := T.map rowOf
set_option maxHeartbeats 1000000 in
theorem cmp_calls (x y : Row × kRow.Y) (W : World) : Calls Try.prog 28 (#[.agg (kRow.cells x.1 x.2).toArray, .agg (kRow.cells y.1 y.2).toArray] ++ #[]) W fun e w' => e = .returned (.int .i64 (Lib.compareInt x.1.client y.1.client)) ∧ ∃ q os', w' = grow (W.drewN q) os' := by
  obtain ⟨⟨c1, s1, d1, l1⟩, ⟨⟨⟩, ⟨⟩, ⟨⟩, A1, p1⟩⟩ := x
  obtain ⟨⟨c2, s2, d2, l2⟩, ⟨⟨⟩, ⟨⟩, ⟨⟩, A2, p2⟩⟩ := y
  have hcon := fun W' => AnyG.cmp_Compare_int Try.cmpInt c1 c2 W'
  change ∀ W', Calls Try.prog 29 _ _ _ at hcon
  show Calls Try.prog 28 #[.agg #[.int .i64 c1, .int .i64 s1, .int .u8 d1, .slice A1 l1.length p1], .agg #[.int .i64 c2, .int .i64 s2, .int .u8 d2, .slice A2 l2.length p2]] W fun e w' => e = .returned (.int .i64 (Lib.compareInt c1 c2)) ∧ ∃ q os', w' = grow (W.drewN q) os'
  generalize Lib.compareInt c1 c2 = r at hcon ⊢
  go_enter Try.func28, Try.ntmps28
  go_wp2_with (go_at_call 29; refine (hcon _).mono ?_; rintro e w' ⟨rfl, rfl⟩)
  go_ret
  exact ⟨rfl, 0, _, by rw [alloc_eq_grow, alloc_eq_grow, grow_grow]; rfl⟩
theorem cmp_lt (x y : Int) : (Lib.compareInt x y < 0) ↔ x < y := by
  unfold Lib.compareInt
  by_cases h1 : x < y
  · simp [h1]
  · by_cases h2 : y < x <;> simp [h1, h2]
theorem cmp_swo {β : Type} (f : β → Int) : SWO (ltOf fun x y : β => Lib.compareInt (f x) (f y)) where
  irrefl x := by simp only [ltOf, cmp_lt]; simp
  trans x y z h1 h2 := by simp only [ltOf, cmp_lt, decide_eq_true_eq] at *; omega
  ntrans x y z h1 h2 := by simp only [ltOf, cmp_lt, decide_eq_false_iff_not] at *; omega
instance : Inhabited kRow.Y := ⟨((), (), (), none, 0)⟩
theorem sortRows_ct (A : Option Addr) (n cp : Nat) (cs : List Value) (xs : List Row) (hn : xs.length = n) (hbig : n < 4611686018427387904) :
    Ct Try.prog 27 [.slice A n cp, .func (.func 28) #[] #[]] [.row (.slice A n cp) 68 4 n cs] [Pers.reps kRow xs cs]
      (fun u G Q => ∃ ys cs', (ys.Perm xs ∧ ys.Pairwise fun x y => ¬ Lib.compareInt y.client x.client < 0) ∧ u = .tuple #[] ∧ G = [.row (.slice A n cp) 68 4 n cs'] ∧ Q = [Pers.reps kRow ys cs']) :=
  ct_sortFunc kRow (by decide) Try.sortRow (fun w => run_aggB ag_68 w) (fun w => run_sizeB sz_68 w) (fun x y => Lib.compareInt x.client y.client) (cmp_swo fun p : Row × kRow.Y => p.1.client) 28 #[] fn_28 cmp_calls A n cp _ cs xs hn hbig
theorem rem_le {α : Type} (T : List (Int × α)) (es : List MapEntry) (s : Array Nat) : (rem T es s).length ≤ T.length := by
  unfold rem
  rw [List.length_map]
  refine Nat.le_trans (List.length_filter_le _ _) ?_
  rw [List.length_zip]; omega
theorem rem_nil' {α : Type} : ∀ {T : List (Int × α)} {es : List MapEntry}, es.length = T.length → rem T es #[] = T := by
  intro T es h
  unfold rem
  rw [List.filter_eq_self.2 (by simp)]
  exact List.map_fst_zip (by omega)
theorem rem_mem {α : Type} {T : List (Int × α)} {es : List MapEntry} {s : Array Nat} {A B : List (Int × α)} {p : Int × α} (h : rem T es s = A ++ p :: B) : p ∈ T := by
  have : p ∈ rem T es s := by rw [h]; simp
  simp only [rem, List.mem_map, List.mem_filter] at this
  obtain ⟨q, ⟨hq, _⟩, rfl⟩ := this
  exact (List.of_mem_zip hq).1
theorem rows_step {acc X : List Row} {A B : List (Int × Last)} {p : Int × Last} (h : (acc ++ rowsOf (A ++ p :: B)).Perm X) : (acc ++ [rowOf p] ++ rowsOf (A ++ B)).Perm X := by
  refine List.Perm.trans ?_ h
  simp only [rowsOf, List.map_append, List.map_cons, List.append_assoc]
  refine List.Perm.append_left acc ?_
  simp only [List.singleton_append]
  exact (List.perm_middle).symm
theorem rows_ct (p m : Nat) (es : Array MapEntry) (ck : Nat) (T : List (Int × Last)) (hT : ∀ q ∈ T, q.2.result.data.length ≤ 262144) (hl : T.length ≤ 1000000) :
    Ct Try.prog 15 [.pointer (some ⟨p, 0, none⟩)] (tabG p m es ck) [Pers.map kLast true T es ck]
      (fun u G Q => ∃ A cp ys cs, (ys.Perm (rowsOf T) ∧ ys.Pairwise fun x y => x.client ≤ y.client) ∧ ys.length ≤ cp ∧ cp ≤ 9223372036854775807 ∧ u = .slice A ys.length cp ∧ G = .row (.slice A ys.length cp) 68 4 ys.length cs :: tabG p m es ck ∧ Q = [Pers.reps kRow ys cs]) := by
  refine Ct.pure (p := es.toList.length = T.length) (fun w S h => MapReps.length (h.per _ (List.mem_singleton.2 rfl)).1) fun hes => ?_
  refine Ct.intro Try.func15 rfl rfl rfl (fun c hc => ?_)
  refine GC.seq' ?_
  refine GC.region ?_
  refine GL.pure rfl (p_assign rfl) ?_
  refine GL.nil (?_ : GC _ _ _ _)
  refine GC.seq' ?_
  refine GC.seq' ?_
  refine GC.region ?_
  refine GL.pure rfl (p_move rfl) ?_
  refine GL.step rfl (t_call rfl fn_25 rfl (is := [0]) (js := []) rfl rfl (by exact made_ct _ _)) (GL.ret ?_)
  rintro _ _ _ ⟨rfl, rfl, rfl⟩
  refine GL.pure rfl (p_not rfl) ?_
  refine GL.nil (?_ : GC _ _ _ _)
  refine GC.cond_false rfl ?_
  refine GC.skip (?_ : GC _ _ _ _)
  refine GC.seq' ?_
  refine GC.region ?_
  refine GL.pure rfl (p_assign rfl) ?_
  refine GL.nil (?_ : GC _ _ _ _)
  refine GC.seq' ?_
  refine GC.seq' ?_
  refine GC.region ?_
  refine GL.nilrow 68 4 ?_
  refine GL.know (q := Pers.reps kRow [] []) (fun _ _ _ => rfl) ?_
  refine GL.pure rfl (p_move rfl) ?_
  refine GL.pure rfl (p_nilCheck rfl) ?_
  refine GL.pure rfl (p_fieldAddr fo_43_0 rfl) ?_
  refine GL.step rfl (t_mem rfl (m_load (i := 1) rfl rfl ag_41 rfl)) ?_
  refine GL.step rfl (t_range (i := 2) rfl rfl rfl Try.underlying41) (GL.ex fun r_it13 => ?_)
  refine GL.nil (?_ : GC _ _ _ _)
  refine GC.block ?_
  refine GC.loopK4 (ks := [13]) (is := [2, 3]) (js := [1]) (fun (acc : List Row) (V : Value) (cs : List Value) (s : Array Nat) => (acc ++ rowsOf (rem T es.toList s)).Perm (rowsOf T)) (fun (acc : List Row) (V : Value) (cs : List Value) (s : Array Nat) => [(3, V)]) (fun (acc : List Row) (V : Value) (cs : List Value) (s : Array Nat) => [.row V 68 4 acc.length cs, .blk r_it13 (.mapIter (some m) ck s ck)]) (fun (acc : List Row) (V : Value) (cs : List Value) (s : Array Nat) => [Pers.reps kRow acc cs]) (fun (acc : List Row) (V : Value) (cs : List Value) (s : Array Nat) => (rem T es.toList s).length) ([]) (_) ([]) (#[]) rfl rfl rfl (fun a w h => ⟨by rw [rem_nil' hes]; exact List.Perm.refl _, h.cutK (is := [1, 0, 0, 0]) (js := [0, 1]) (ks := [13]) (by exact ⟨rfl, trivial⟩) rfl rfl rfl⟩) ?_
  intro acc V cs s hI
  try dsimp only [List.cons_append, List.nil_append] at hI ⊢
  refine GC.seq' ?_
  refine GC.region ?_
  refine GL.step rfl (t_next (i := 3) (l := 1) (j := 1) rfl rfl rfl rfl rfl (fun _ => rfl)) (GL.or (GL.and fun n_n14 => ?_) (GL.ex fun k_n14 => GL.ex fun u_n14 => GL.ex fun r_n14 => GL.ex fun s_n14 => GL.ex fun A_n14 => GL.ex fun B_n14 => GL.and fun ok_n14 => ?_))
  · refine GL.pure rfl (p_extract rfl rfl) ?_
    refine GL.nil (?_ : GC _ _ _ _)
    refine GC.seq' ?_
    refine GC.cond_false rfl ?_
    refine GC.exit (?_ : GC _ _ _ _)
    refine GC.seq' ?_
    refine GC.region ?_
    rw [n_n14, show rowsOf [] = [] from rfl, List.append_nil] at hI
    have hpl := hI.length_eq
    refine GL.pure rfl (p_move rfl) ?_
    refine GL.shape (i := 0) rfl (fun A_D c_D e_D l_D k_D => ?_)
    subst e_D
    refine GL.step rfl (t_call rfl fn_27 rfl (is := [0]) (js := [0]) rfl rfl (by exact sortRows_ct _ _ _ _ acc rfl (by have hpl := hI.length_eq; simp [rowsOf] at hpl; omega))) (GL.ret ?_)
    rintro _ _ _ ⟨ys30, cs30, hs30, rfl, rfl, rfl⟩
    refine GL.nil (?_ : GC _ _ _ _)
    refine GC.seq' ?_
    refine GC.region ?_
    refine GL.pure rfl (p_move rfl) ?_
    refine GL.pure rfl (p_assign rfl) ?_
    refine GL.nil (?_ : GC _ _ _ _)
    have e := hs30.1.length_eq
    rw [← e] at l_D ⊢
    refine GC.ret ?_
    refine fun a w h => Fin.back (rs := [.tmp 2]) (vs := [_]) (is := [0, 1, 1]) (js := [0]) rfl ⟨rfl, trivial⟩ rfl rfl ?_ h
    clear h
    exact ⟨_, _, ys30, _, ⟨hs30.1.trans hI, hs30.2.imp fun hh => by rw [cmp_lt] at hh; omega⟩, l_D, k_D, rfl, rfl, rfl⟩
  · rcases r_n14 with ⟨_, ⟨_, ⟨An14_0, cpn14_0⟩⟩⟩
    refine GL.pure rfl (p_extract rfl rfl) ?_
    refine GL.nil (?_ : GC _ _ _ _)
    refine GC.seq' ?_
    refine GC.cond_true rfl ?_
    refine GC.skip (?_ : GC _ _ _ _)
    refine GC.block ?_
    refine GC.seq' ?_
    refine GC.region ?_
    refine GL.step rfl (t_mem rfl (m_entry (i := 3) (l := 1) rfl rfl rfl ok_n14.2.2.2)) ?_
    refine GL.pure rfl (p_extract rfl rfl) ?_
    refine GL.pure rfl (p_extract rfl rfl) ?_
    refine GL.step rfl (t_alloc rfl ze_64) (GL.ex fun b_t5 => ?_)
    refine GL.pure rfl (p_assign rfl) ?_
    refine GL.step rfl (t_storeN (i := 0) rfl rfl rfl sz_64 rfl rfl rfl) ?_
    refine GL.nil (?_ : GC _ _ _ _)
    refine GC.regionC (m := 11) (is := [0, 1, 1, 1]) (js := [0, 1, 2]) wide_ rfl rfl rfl ?_
    refine GA.take 0 rfl (by kernel_rfl) (by kernel_rfl) (by kernel_rfl) rfl (fun a w h => h.mem (is := [0, 1, 1, 1]) (js := [0, 1, 2]) rfl rfl) (i_pure (p_move rfl)) ?_
    refine GA.take 1 rfl (by kernel_rfl) (by kernel_rfl) (by kernel_rfl) rfl (fun a w h => h.mem (is := [0, 1, 1, 1]) (js := [0, 1, 2]) rfl rfl) (i_pure (p_move rfl)) ?_
    refine GA.take 2 rfl (by kernel_rfl) (by kernel_rfl) (by kernel_rfl) rfl (fun a w h => h.mem (is := [0, 1, 1, 1]) (js := [0, 1, 2]) rfl rfl) (i_pure (p_fieldAddr fo_64_0 rfl)) ?_
    refine GA.take 3 rfl (by kernel_rfl) (by kernel_rfl) (by kernel_rfl) rfl (fun a w h => h.mem (is := [0, 1, 1, 1]) (js := [0, 1, 2]) rfl rfl) (i_mem (m_load (i := 0) rfl rfl ag_3 rfl)) ?_
    refine GA.take 4 rfl (by kernel_rfl) (by kernel_rfl) (by kernel_rfl) rfl (fun a w h => h.mem (is := [0, 1, 1, 1]) (js := [0, 1, 2]) rfl rfl) (i_pure (p_fieldAddr fo_64_1 rfl)) ?_
    refine GA.take 5 rfl (by kernel_rfl) (by kernel_rfl) (by kernel_rfl) rfl (fun a w h => h.mem (is := [0, 1, 1, 1]) (js := [0, 1, 2]) rfl rfl) (i_mem (m_loadN (i := 0) rfl rfl ag_29 (vs := [_, _]) sz_29 ⟨rfl, rfl, trivial⟩)) ?_
    refine GA.all (rs := [6]) (by kernel_rfl) (by simp) ?_
    refine GAs.cons (i := 6) rfl rfl (t_call rfl fn_24 rfl (is := []) (js := [0]) rfl rfl (by exact own_ct _ _ _ _ (Nat.le_trans (hT _ (rem_mem ok_n14.2.1)) (by decide)))) (by rintro a w ⟨_, _, _, ⟨A25, cp25, l25, k25, rfl, rfl, rfl⟩, h⟩; exact h.mem (is := [1, 2, 2, 2]) (js := [0, 1, 2]) rfl rfl) (GA.ret ?_) ?_
    · rintro _ _ _ ⟨A25, cp25, l25, k25, rfl, rfl, rfl⟩
      refine GA.take 7 rfl (by kernel_rfl) (by kernel_rfl) (by kernel_rfl) rfl (fun a w h => h.mem (is := [1, 2, 2, 2]) (js := [0, 1, 2]) rfl rfl) (i_pure (p_build ze_68 of_68 rfl rfl)) ?_
      refine GA.freezeB (i := 0) rfl ?_
      refine GA.all (rs := [8]) (by kernel_rfl) (by simp) ?_
      refine GAs.cons (i := 8) rfl rfl (t_buildSlice rfl Try.underlying47 sz_68 ze_68 rfl rfl rfl rfl rfl rfl) (by rintro a w ⟨_, h⟩; exact h.mem (is := [1, 2, 2, 2]) (js := [1, 2, 3]) rfl rfl) (GA.ex fun b_t27 => ?_) ?_
      · refine GA.snoc (j := 2) (js := [0]) (⟨k_n14, u_n14.serial, u_n14.result⟩ : Row) ((), ((), ((), (A25, cp25)))) rfl rfl ⟨trivial, trivial, trivial, l25, k25⟩ ?_
        refine GA.all (rs := [9]) (by kernel_rfl) (by simp) ?_
        refine GAs.cons (i := 9) rfl rfl (t_append (i := 2) (k := 0) rfl el_47 rfl rfl rfl rfl rfl (allOne_mem rfl) (by have hle := rem_le T es.toList s; have hpl := hI.length_eq; simp [rowsOf] at hpl; omega) (fun _ => rfl)) (by rintro a w ⟨_, h⟩; exact h.mem (is := [1, 2, 2, 2]) (js := [2, 3, 4]) rfl rfl) (GA.ex fun v28 => ?_) ?_
        · refine GA.take 10 rfl (by kernel_rfl) (by kernel_rfl) (by kernel_rfl) rfl (fun a w h => h.mem (is := [1, 2, 2, 2]) (js := [2, 3, 4]) rfl rfl) (i_pure (p_assign rfl)) ?_
          refine GA.done (by kernel_rfl) ?_
          exact fun a w h => ⟨(acc ++ [⟨k_n14, u_n14.serial, u_n14.result⟩]), (_), (_), (s_n14), by rw [ok_n14.2.1, ok_n14.2.2.1]; simp, by rw [ok_n14.2.2.1]; exact rows_step (p := (k_n14, u_n14)) (by rw [← ok_n14.2.1]; exact hI), by rw [List.length_append]; exact h.cut (is := [2, 2, 2, 2]) (js := [0, 4]) ⟨rfl, rfl, trivial⟩ rfl rfl⟩
        exact GAs.nil
      exact GAs.nil
    exact GAs.nil
end Go.Proofs.Ytipjpgjahmadiaa
