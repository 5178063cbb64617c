/- GROUPS: the group of the next epoch: walks of both. -/
import Derived.Test.YtoofbjclockcdaaGb3
import Derived.Test.YtoofbjclockcdaaLy
set_option linter.unusedVariables false
set_option linter.unusedSimpArgs false
set_option maxRecDepth 100000
namespace Go.Proofs.Ytoofbjclockcdaa
open Go Go.Sx Go.Proofs
/-! ### the library -/
theorem sortI_ct (A : Option Addr) (n cp : Nat) (xs : List Int) (hn : xs.length = n) (hbig : n < 4611686018427387904) : Ct Try.prog 31 [.slice A n cp] [.row (.slice A n cp) 3 1 n (xs.map iv)] []
    (fun u G Q => u = .tuple #[] ∧ G = [.row (.slice A n cp) 3 1 n ((xs.mergeSort fun x y => decide (x ≤ y)).map iv)] ∧ Q = []) := ct_sortI Try.sortInt A n cp _ xs hn hbig
theorem compact_succ {zs : List Int} {m : Nat} (hm : m < zs.length) : Lib.compactUpTo zs.toArray (m + 1) = Lib.compactUpTo zs.toArray m ++ (if Lib.keeps zs.toArray m then [gt zs (m : Int)] else []) := by
  rw [Lib.compactUpTo_succ]
  have : zs.toArray[m]! = gt zs (m : Int) := by
    rw [gt_get hm, getElem!_pos zs.toArray m (by simpa using hm)]; simp
  rw [this]
theorem compact_le (zs : List Int) : ∀ m, (Lib.compactUpTo zs.toArray m).length ≤ m := by
  intro m
  unfold Lib.compactUpTo
  rw [List.length_map]
  exact Nat.le_trans (List.length_filter_le _ _) (by simp)
theorem compactI_ct (A : Option Addr) (n cp : Nat) (xs : List Int) (hn : xs.length = n) : Ct Try.prog 32 [.slice A n cp] [.row (.slice A n cp) 3 1 n (xs.map iv)] []
    (fun u G Q => u = .slice A (Lib.compact xs).length cp ∧ G = [.row (.slice A (Lib.compact xs).length cp) 3 1 (Lib.compact xs).length ((Lib.compact xs).map iv)] ∧ Q = []) := ct_compactI Try.compactInt A n cp _ xs hn (compact_le xs xs.length)
/-! ### the closure -/
theorem next1_ct (cb : Nat) (D : Option Addr) (drop : List Int) (dcp : Nat) (x : Int) (hd : drop.length ≤ 140737488355328) : Ct Try.prog 29 [.int .i64 x, .pointer (some ⟨cb, 0, none⟩)] [.cells cb [.slice D drop.length dcp] 22] [Pers.row kI D drop] (fun u G Q => u = .bool ((fun x => decide (x ∈ drop)) x) ∧ G = [.cells cb [.slice D drop.length dcp] 22] ∧ Q = []) := by
  refine Ct.intro Try.func29 rfl rfl rfl (fun c hc => ?_)
  refine GC.seq' ?_
  refine GC.region ?_
  refine GL.pure rfl (p_assign rfl) ?_
  refine GL.nil (?_ : GC _ _ _ _)
  refine GC.seq' ?_
  refine GC.region ?_
  refine GL.step rfl (t_mem rfl (m_load (i := 0) rfl rfl ag_22 rfl)) ?_
  refine GL.pure rfl (p_move rfl) ?_
  refine GL.step rfl (t_call rfl fn_30 rfl (is := []) (js := [0]) rfl rfl (by exact contains_i _ _ _ _ (by first | assumption | omega))) (GL.ret ?_)
  rintro _ _ _ ⟨rfl, rfl, rfl⟩
  refine GL.pure rfl (p_assign rfl) ?_
  refine GL.nil (?_ : GC _ _ _ _)
  refine GC.ret ?_
  refine fun a w h => Fin.back (rs := [.tmp 3]) (vs := [_]) (is := [0]) (js := []) rfl ⟨rfl, trivial⟩ rfl rfl ?_ h
  clear h
  exact ⟨rfl, rfl, rfl⟩

theorem idx_nx (cb : Nat) (D : Option Addr) (drop : List Int) (dcp : Nat) (hd : drop.length ≤ 140737488355328) (b : Nat) (xs : List Int) (sp : List Value) (cp : Nat) (hl : xs.length ≤ 140737488355328) : Ct Try.prog 39 [.slice (some ⟨b, 0, none⟩) xs.length cp, .func (.func 29) #[] #[.pointer (some ⟨cb, 0, none⟩)]] [.cells b (xs.map iv ++ sp) 3, .cells cb [.slice D drop.length dcp] 22] [Pers.row kI D drop]
    (fun u G Q => ∃ i : Int, ((i = -1 ∧ ∀ j : Nat, j < xs.length → (fun x => decide (x ∈ drop)) (gt xs (j : Int)) = false) ∨ (0 ≤ i ∧ i < xs.length ∧ (fun x => decide (x ∈ drop)) (gt xs i) = true ∧ ∀ j : Nat, (j : Int) < i → (fun x => decide (x ∈ drop)) (gt xs (j : Int)) = false)) ∧ u = .int .i64 i ∧ G = [.cells b (xs.map iv ++ sp) 3, .cells cb [.slice D drop.length dcp] 22] ∧ Q = []) := by
  refine Ct.intro Try.func39 rfl rfl rfl (fun c hc => ?_)
  refine GC.seq' ?_
  refine GC.region ?_
  refine GL.pure rfl (p_assign rfl) ?_
  refine GL.nil (?_ : GC _ _ _ _)
  refine GC.seq' ?_
  refine GC.seq' ?_
  refine GC.region ?_
  refine GL.pure rfl (p_move rfl) ?_
  refine GL.pure rfl (p_len Try.underlying22 rfl) ?_
  refine GL.pure rfl (p_move rfl) ?_
  refine GL.nil (?_ : GC _ _ _ _)
  refine GC.block ?_
  refine GC.loopK1 (ks := [0, 1, 7]) (is := [0, 1]) (js := [0]) (fun (k : Nat) => k ≤ xs.length ∧ ∀ j : Nat, j < k → (fun x => decide (x ∈ drop)) (gt xs (j : Int)) = false) (fun (k : Nat) => [(8, .int .i64 (k : Int))]) (fun (k : Nat) => []) (fun (k : Nat) => []) (fun (k : Nat) => xs.length - k) (0) rfl rfl rfl (fun a w h => ⟨⟨by omega, fun j hj => by omega⟩, h.cutK (is := [0, 0]) (js := [0]) (ks := [0, 1, 7]) ⟨rfl, trivial⟩ rfl rfl rfl⟩) ?_
  intro k hk
  try dsimp only [List.cons_append, List.nil_append] at hk ⊢
  obtain ⟨hk, hn⟩ := hk
  refine GC.seq' ?_
  refine GC.region ?_
  refine GL.pure rfl (p_lss rfl rfl) ?_
  refine GL.nil (?_ : GC _ _ _ _)
  refine GC.seq' ?_
  refine GC.cond rfl (fun h1 => ?_) (fun h1 => ?_)
  · try simp only [decide_eq_true_eq, decide_eq_false_iff_not, Bool.not_eq_true', Bool.not_eq_false', Bool.not_true, Bool.not_false, Bool.not_not, ne_eq, Decidable.not_not, Int.not_lt, Int.not_le, gt_iff_lt, ge_iff_le, bool_true_eq_, bool_false_eq_] at h1
    refine GC.skip (?_ : GC _ _ _ _)
    refine GC.seq' ?_
    refine GC.block ?_
    refine GC.seq' ?_
    refine GC.region ?_
    refine GL.pure rfl (p_move rfl) ?_
    refine GL.pure rfl (p_assign rfl) ?_
    refine GL.nil (?_ : GC _ _ _ _)
    refine GC.seq' ?_
    refine GC.region ?_
    refine GL.pure rfl (p_move rfl) ?_
    refine GL.pure rfl (p_move rfl) ?_
    refine GL.pure rfl (p_move rfl) ?_
    refine GL.pure rfl (p_indexB rfl rfl Try.underlying22 sz_3 (by omega) (by omega)) ?_
    refine GL.step rfl (t_mem rfl (m_load (i := 0) rfl rfl ag_3 (nth_mapS _ (by omega) (by omega)))) ?_
    refine GL.step rfl (t_callv rfl fn_29 rfl rfl (is := [1]) (js := [0]) rfl rfl (by exact next1_ct _ _ _ _ _ (by assumption))) (GL.ret ?_)
    rintro _ _ _ ⟨rfl, rfl, rfl⟩
    refine GL.nil (?_ : GC _ _ _ _)
    refine GC.cond rfl (fun h2 => ?_) (fun h2 => ?_)
    · try simp only [decide_eq_true_eq, decide_eq_false_iff_not, Bool.not_eq_true', Bool.not_eq_false', Bool.not_true, Bool.not_false, Bool.not_not, ne_eq, Decidable.not_not, Int.not_lt, Int.not_le, gt_iff_lt, ge_iff_le, bool_true_eq_, bool_false_eq_] at h2
      refine GC.seq' ?_
      refine GC.region ?_
      refine GL.pure rfl (p_move rfl) ?_
      refine GL.pure rfl (p_assign rfl) ?_
      refine GL.nil (?_ : GC _ _ _ _)
      refine GC.ret ?_
      refine fun a w h => Fin.back (rs := [.tmp 4]) (vs := [_]) (is := [1, 0]) (js := []) rfl ⟨rfl, trivial⟩ rfl rfl ?_ h
      clear h
      exact ⟨_, .inr ⟨by omega, by omega, by simpa using h2, fun j hj => hn j (by omega)⟩, rfl, rfl, rfl⟩
    · try simp only [decide_eq_true_eq, decide_eq_false_iff_not, Bool.not_eq_true', Bool.not_eq_false', Bool.not_true, Bool.not_false, Bool.not_not, ne_eq, Decidable.not_not, Int.not_lt, Int.not_le, gt_iff_lt, ge_iff_le, bool_true_eq_, bool_false_eq_] at h2
      refine GC.skip (?_ : GC _ _ _ _)
      refine GC.region ?_
      refine GL.pure rfl (p_add rfl rfl (w64 (by omega) (by omega))) ?_
      refine GL.pure rfl (p_move rfl) ?_
      refine GL.nil ?_
      exact fun a w h => ⟨(k + 1), (by omega), ⟨by omega, fun j hj => (Nat.lt_succ_iff_lt_or_eq.1 hj).elim (hn j) (fun e => by subst e; simpa using h2)⟩, h.cut (is := [1, 0]) (js := [0]) ⟨rfl, rfl, rfl, rfl, trivial⟩ rfl rfl⟩
  · try simp only [decide_eq_true_eq, decide_eq_false_iff_not, Bool.not_eq_true', Bool.not_eq_false', Bool.not_true, Bool.not_false, Bool.not_not, ne_eq, Decidable.not_not, Int.not_lt, Int.not_le, gt_iff_lt, ge_iff_le, bool_true_eq_, bool_false_eq_] at h1
    refine GC.exit (?_ : GC _ _ _ _)
    refine GC.seq' ?_
    refine GC.region ?_
    refine GL.pure rfl (p_assign rfl) ?_
    refine GL.nil (?_ : GC _ _ _ _)
    refine GC.ret ?_
    refine fun a w h => Fin.back (rs := [.tmp 4]) (vs := [_]) (is := [0, 0]) (js := []) rfl ⟨rfl, trivial⟩ rfl rfl ?_ h
    clear h
    exact ⟨_, .inl ⟨rfl, fun j hj => hn j (by omega)⟩, rfl, rfl, rfl⟩
theorem idx0_nx (cb : Nat) (D : Option Addr) (drop : List Int) (dcp : Nat) (hd : drop.length ≤ 140737488355328) (A : Option Addr) (cp : Nat) : Ct Try.prog 39 [.slice A 0 cp, .func (.func 29) #[] #[.pointer (some ⟨cb, 0, none⟩)]] [.cells cb [.slice D drop.length dcp] 22] [Pers.row kI D drop] (fun u G Q => u = .int .i64 (-1) ∧ G = [.cells cb [.slice D drop.length dcp] 22] ∧ Q = []) := by
  refine Ct.intro Try.func39 rfl rfl rfl (fun c hc => ?_)
  refine GC.seq' ?_
  refine GC.region ?_
  refine GL.pure rfl (p_assign rfl) ?_
  refine GL.nil (?_ : GC _ _ _ _)
  refine GC.seq' ?_
  refine GC.seq' ?_
  refine GC.region ?_
  refine GL.pure rfl (p_move rfl) ?_
  refine GL.pure rfl (p_len Try.underlying22 rfl) ?_
  refine GL.pure rfl (p_move rfl) ?_
  refine GL.nil (?_ : GC _ _ _ _)
  refine GC.block ?_
  refine GC.loopK1 (ks := [0, 1, 7]) (is := [0]) (js := [0]) (fun (k : Nat) => k = 0) (fun (k : Nat) => [(8, .int .i64 (k : Int))]) (fun (k : Nat) => []) (fun (k : Nat) => []) (fun (k : Nat) => 0) (0) rfl rfl rfl (fun a w h => ⟨rfl, h.cutK (is := [0]) (js := [0]) (ks := [0, 1, 7]) ⟨rfl, trivial⟩ rfl rfl rfl⟩) ?_
  intro k hk
  try dsimp only [List.cons_append, List.nil_append] at hk ⊢
  refine GC.seq' ?_
  refine GC.region ?_
  refine GL.pure rfl (p_lss rfl rfl) ?_
  refine GL.nil (?_ : GC _ _ _ _)
  refine GC.seq' ?_
  refine GC.cond rfl (fun h1 => ?_) (fun h1 => ?_)
  · try simp only [decide_eq_true_eq, decide_eq_false_iff_not, Bool.not_eq_true', Bool.not_eq_false', Bool.not_true, Bool.not_false, Bool.not_not, ne_eq, Decidable.not_not, Int.not_lt, Int.not_le, gt_iff_lt, ge_iff_le, bool_true_eq_, bool_false_eq_] at h1
    exact absurd h1 (by omega)
  · try simp only [decide_eq_true_eq, decide_eq_false_iff_not, Bool.not_eq_true', Bool.not_eq_false', Bool.not_true, Bool.not_false, Bool.not_not, ne_eq, Decidable.not_not, Int.not_lt, Int.not_le, gt_iff_lt, ge_iff_le, bool_true_eq_, bool_false_eq_] at h1
    refine GC.exit (?_ : GC _ _ _ _)
    refine GC.seq' ?_
    refine GC.region ?_
    refine GL.pure rfl (p_assign rfl) ?_
    refine GL.nil (?_ : GC _ _ _ _)
    refine GC.ret ?_
    refine fun a w h => Fin.back (rs := [.tmp 4]) (vs := [_]) (is := [0]) (js := []) rfl ⟨rfl, trivial⟩ rfl rfl ?_ h
    clear h
    exact ⟨rfl, rfl, rfl⟩
theorem del_nx (cb : Nat) (D : Option Addr) (drop : List Int) (dcp : Nat) (hd : drop.length ≤ 140737488355328) (A : Option Addr) (n cp : Nat) (xs : List Int) (hn : xs.length = n) (hl : n ≤ 140737488355328) : Ct Try.prog 28 [.slice A n cp, .func (.func 29) #[] #[.pointer (some ⟨cb, 0, none⟩)]] [.row (.slice A n cp) 3 1 n (xs.map iv), .cells cb [.slice D drop.length dcp] 22] [Pers.row kI D drop]
    (fun u G Q => ∃ A' cp', (xs.filter fun x => !(fun x => decide (x ∈ drop)) x).length ≤ cp' ∧ cp' ≤ 9223372036854775807 ∧ u = .slice A' (xs.filter fun x => !(fun x => decide (x ∈ drop)) x).length cp' ∧ G = [.row (.slice A' (xs.filter fun x => !(fun x => decide (x ∈ drop)) x).length cp') 3 1 (xs.filter fun x => !(fun x => decide (x ∈ drop)) x).length ((xs.filter fun x => !(fun x => decide (x ∈ drop)) x).map iv), .cells cb [.slice D drop.length dcp] 22] ∧ Q = []) := by
  subst hn
  refine Ct.unrow (fun h0 => ?_) (fun b sp hne hA hlen hcp hmax => ?_)
  · have hx : xs = [] := List.eq_nil_of_length_eq_zero h0
    subst hx
    refine Ct.intro Try.func28 rfl rfl rfl (fun c hc => ?_)
    refine GC.seq' ?_
    refine GC.region ?_
    refine GL.pure rfl (p_assign rfl) ?_
    refine GL.nil (?_ : GC _ _ _ _)
    refine GC.seq' ?_
    refine GC.region ?_
    refine GL.pure rfl (p_move rfl) ?_
    refine GL.pure rfl (p_move rfl) ?_
    refine GL.step rfl (t_call rfl fn_39 rfl (is := [1]) (js := [0]) rfl rfl (by exact idx0_nx cb D drop dcp hd _ _)) (GL.ret ?_)
    rintro _ _ _ ⟨rfl, rfl, rfl⟩
    refine GL.pure rfl (p_assign rfl) ?_
    refine GL.nil (?_ : GC _ _ _ _)
    refine GC.seq' ?_
    refine GC.seq' ?_
    refine GC.region ?_
    refine GL.pure rfl (p_move rfl) ?_
    refine GL.pure rfl (p_eql rfl rfl) ?_
    refine GL.nil (?_ : GC _ _ _ _)
    refine GC.cond_true rfl ?_
    refine GC.seq' ?_
    refine GC.region ?_
    refine GL.pure rfl (p_move rfl) ?_
    refine GL.pure rfl (p_assign rfl) ?_
    refine GL.nil (?_ : GC _ _ _ _)
    refine GC.shape (i := 1) rfl (fun A1 c1 e1 l1 l2 => ?_)
    refine GC.ret ?_
    refine fun a w h => Fin.back (rs := [.tmp 4]) (vs := [_]) (is := [1, 0]) (js := []) rfl ⟨rfl, trivial⟩ rfl rfl ?_ h
    clear h
    cases e1
    exact ⟨_, _, by simp, l2, rfl, rfl, rfl⟩
  · subst hA
    have hsl : sp.length = cp - xs.length := by simp at hlen; omega
    refine Ct.intro Try.func28 rfl rfl rfl (fun c hc => ?_)
    refine GC.seq' ?_
    refine GC.region ?_
    refine GL.pure rfl (p_assign rfl) ?_
    refine GL.nil (?_ : GC _ _ _ _)
    refine GC.seq' ?_
    refine GC.region ?_
    refine GL.pure rfl (p_move rfl) ?_
    refine GL.pure rfl (p_move rfl) ?_
    refine GL.step rfl (t_call rfl fn_39 rfl (is := [0, 0]) (js := [0]) rfl rfl (by exact idx_nx cb D drop dcp hd _ xs sp _ hl)) (GL.ret ?_)
    rintro _ _ _ ⟨i10, hi10, rfl, rfl, rfl⟩
    refine GL.pure rfl (p_assign rfl) ?_
    refine GL.nil (?_ : GC _ _ _ _)
    refine GC.seq' ?_
    refine GC.seq' ?_
    refine GC.region ?_
    refine GL.pure rfl (p_move rfl) ?_
    refine GL.pure rfl (p_eql rfl rfl) ?_
    refine GL.nil (?_ : GC _ _ _ _)
    refine GC.cond rfl (fun h1 => ?_) (fun h1 => ?_)
    · try simp only [decide_eq_true_eq, decide_eq_false_iff_not, Bool.not_eq_true', Bool.not_eq_false', Bool.not_true, Bool.not_false, Bool.not_not, ne_eq, Decidable.not_not, Int.not_lt, Int.not_le, gt_iff_lt, ge_iff_le, bool_true_eq_, bool_false_eq_] at h1
      first
      | (exfalso; omega)
      | (skip
         refine GC.seq' ?_
         refine GC.region ?_
         refine GL.pure rfl (p_move rfl) ?_
         refine GL.pure rfl (p_assign rfl) ?_
         refine GL.nil (?_ : GC _ _ _ _)
         have hall : xs.filter (fun x => !(fun x => decide (x ∈ drop)) x) = xs := by
           rcases hi10 with ⟨_, g⟩ | ⟨g, _⟩
           · exact del_none g
           · omega
         refine GC.rerow (i := 0) (sz := 1) (xs.map iv) sp rfl rfl (by simp) hlen hcp hmax rfl ?_
         refine GC.ret ?_
         refine fun a w h => Fin.back (rs := [.tmp 4]) (vs := [_]) (is := [0, 0]) (js := []) rfl ⟨rfl, trivial⟩ rfl rfl ?_ h
         clear h
         rw [hall]; exact ⟨_, _, hcp, hmax, rfl, rfl, rfl⟩)
    · try simp only [decide_eq_true_eq, decide_eq_false_iff_not, Bool.not_eq_true', Bool.not_eq_false', Bool.not_true, Bool.not_false, Bool.not_not, ne_eq, Decidable.not_not, Int.not_lt, Int.not_le, gt_iff_lt, ge_iff_le, bool_true_eq_, bool_false_eq_] at h1
      first
      | (exfalso; omega)
      | (skip
         refine GC.skip (?_ : GC _ _ _ _)
         refine GC.seq' ?_
         refine GC.seq' ?_
         refine GC.region ?_
         have hi0 : 0 ≤ i10 ∧ i10 < xs.length ∧ (fun x => decide (x ∈ drop)) (gt xs i10) = true ∧ ∀ j : Nat, (j : Int) < i10 → (fun x => decide (x ∈ drop)) (gt xs (j : Int)) = false := by rcases hi10 with ⟨g, _⟩ | g <;> first | omega | exact g
         obtain ⟨i0, rfl⟩ := Int.eq_ofNat_of_zero_le hi0.1
         have hil : i0 < xs.length := by omega
         refine GL.pure rfl (p_move rfl) ?_
         refine GL.pure rfl (p_add rfl rfl (w64 (by (first | omega | (rw [hk.2.1]; omega))) (by (first | omega | (rw [hk.2.1]; omega))))) ?_
         refine GL.pure rfl (p_assign rfl) ?_
         refine GL.nil (?_ : GC _ _ _ _)
         refine GC.block ?_
         refine GC.loopK3 (ks := [0, 1]) (is := [1]) (js := [0]) (fun (i : Nat) (k : Nat) (ys : List Int) => k ≤ xs.length ∧ ys.length = xs.length ∧ i < k ∧ ys.take i = (xs.take k).filter (fun x => !(fun x => decide (x ∈ drop)) x) ∧ ys.drop k = xs.drop k) (fun (i : Nat) (k : Nat) (ys : List Int) => [(5, .int .i64 (i : Int)), (6, .int .i64 (k : Int))]) (fun (i : Nat) (k : Nat) (ys : List Int) => [.cells b (ys.map iv ++ sp) 3]) (fun (i : Nat) (k : Nat) (ys : List Int) => []) (fun (i : Nat) (k : Nat) (ys : List Int) => xs.length - k) (i0) (i0 + 1) (xs) rfl rfl rfl (fun a w h => ⟨⟨by omega, rfl, by omega, del_first hil hi0.2.2.1 (fun j hj => hi0.2.2.2 j (by omega)), rfl⟩, h.cutK (is := [0, 0]) (js := [0]) (ks := [0, 1]) ⟨rfl, rfl, trivial⟩ rfl rfl rfl⟩) ?_
         intro i k ys hk
         try dsimp only [List.cons_append, List.nil_append] at hk ⊢
         refine GC.seq' ?_
         refine GC.seq' ?_
         refine GC.region ?_
         refine GL.pure rfl (p_move rfl) ?_
         refine GL.pure rfl (p_move rfl) ?_
         refine GL.pure rfl (p_len Try.underlying22 rfl) ?_
         refine GL.pure rfl (p_lss rfl rfl) ?_
         refine GL.nil (?_ : GC _ _ _ _)
         refine GC.cond rfl (fun h2 => ?_) (fun h2 => ?_)
         · try simp only [decide_eq_true_eq, decide_eq_false_iff_not, Bool.not_eq_true', Bool.not_eq_false', Bool.not_true, Bool.not_false, Bool.not_not, ne_eq, Decidable.not_not, Int.not_lt, Int.not_le, gt_iff_lt, ge_iff_le, bool_true_eq_, bool_false_eq_] at h2
           first
           | (exfalso; omega)
           | (skip
              refine GC.skip (?_ : GC _ _ _ _)
              refine GC.seq' ?_
              refine GC.block ?_
              refine GC.seq' ?_
              refine GC.region ?_
              refine GL.pure rfl (p_move rfl) ?_
              refine GL.pure rfl (p_move rfl) ?_
              refine GL.pure rfl (p_indexB rfl rfl Try.underlying22 sz_3 (by (first | omega | (rw [hk.2.1]; omega))) (by (first | omega | (rw [hk.2.1]; omega)))) ?_
              refine GL.step rfl (t_mem rfl (m_load (i := 0) rfl rfl ag_3 (nth_mapS _ (by (first | omega | (rw [hk.2.1]; omega))) (by (first | omega | (rw [hk.2.1]; omega)))))) ?_
              refine GL.pure rfl (p_assign rfl) ?_
              refine GL.nil (?_ : GC _ _ _ _)
              refine GC.seq' ?_
              have hgt := del_gt (show k < xs.length by omega) hk.2.1 hk.2.2.2.2
              refine GC.region ?_
              rw [hgt]
              refine GL.pure rfl (p_move rfl) ?_
              refine GL.pure rfl (p_move rfl) ?_
              refine GL.step rfl (t_callv rfl fn_29 rfl rfl (is := [1]) (js := [0]) rfl rfl (by exact next1_ct _ _ _ _ _ (by assumption))) (GL.ret ?_)
              rintro _ _ _ ⟨rfl, rfl, rfl⟩
              refine GL.pure rfl (p_not rfl) ?_
              refine GL.nil (?_ : GC _ _ _ _)
              refine GC.cond rfl (fun h3 => ?_) (fun h3 => ?_)
              · try simp only [decide_eq_true_eq, decide_eq_false_iff_not, Bool.not_eq_true', Bool.not_eq_false', Bool.not_true, Bool.not_false, Bool.not_not, ne_eq, Decidable.not_not, Int.not_lt, Int.not_le, gt_iff_lt, ge_iff_le, bool_true_eq_, bool_false_eq_] at h3
                first
                | (exfalso; omega)
                | (skip
                   refine GC.seq' ?_
                   refine GC.region ?_
                   refine GL.pure rfl (p_move rfl) ?_
                   refine GL.pure rfl (p_move rfl) ?_
                   refine GL.pure rfl (p_move rfl) ?_
                   refine GL.pure rfl (p_indexB rfl rfl Try.underlying22 sz_3 (by (first | omega | (rw [hk.2.1]; omega))) (by (first | omega | (rw [hk.2.1]; omega)))) ?_
                   refine GL.step rfl (t_store (i := 1) rfl rfl rfl rfl sz_3 rfl (upd_mapS _ (by (first | omega | (rw [hk.2.1]; omega))) (by (first | omega | (rw [hk.2.1]; omega)))) rfl) ?_
                   refine GL.nil (?_ : GC _ _ _ _)
                   refine GC.region ?_
                   refine GL.pure rfl (p_move rfl) ?_
                   refine GL.pure rfl (p_add rfl rfl (w64 (by (first | omega | (rw [hk.2.1]; omega))) (by (first | omega | (rw [hk.2.1]; omega))))) ?_
                   refine GL.pure rfl (p_assign rfl) ?_
                   refine GL.nil (?_ : GC _ _ _ _)
                   refine GC.region ?_
                   refine GL.pure rfl (p_move rfl) ?_
                   refine GL.pure rfl (p_add rfl rfl (w64 (by (first | omega | (rw [hk.2.1]; omega))) (by (first | omega | (rw [hk.2.1]; omega))))) ?_
                   refine GL.pure rfl (p_assign rfl) ?_
                   refine GL.nil ?_
                   exact fun a w h => ⟨(i + 1), (k + 1), (_), (by omega), ⟨by omega, by rw [List.length_set]; exact hk.2.1, by omega, del_keep (by omega) (by omega) hk.2.1 hk.2.2.2.1 (by simpa using h3), del_drop hk.2.2.1 hk.2.2.2.2⟩, h.cut (is := [1, 0]) (js := [0]) ⟨rfl, rfl, rfl, rfl, trivial⟩ rfl rfl⟩)
              · try simp only [decide_eq_true_eq, decide_eq_false_iff_not, Bool.not_eq_true', Bool.not_eq_false', Bool.not_true, Bool.not_false, Bool.not_not, ne_eq, Decidable.not_not, Int.not_lt, Int.not_le, gt_iff_lt, ge_iff_le, bool_true_eq_, bool_false_eq_] at h3
                first
                | (exfalso; omega)
                | (skip
                   refine GC.skip (?_ : GC _ _ _ _)
                   refine GC.region ?_
                   refine GL.pure rfl (p_move rfl) ?_
                   refine GL.pure rfl (p_add rfl rfl (w64 (by (first | omega | (rw [hk.2.1]; omega))) (by (first | omega | (rw [hk.2.1]; omega))))) ?_
                   refine GL.pure rfl (p_assign rfl) ?_
                   refine GL.nil ?_
                   exact fun a w h => ⟨(i), (k + 1), (_), (by omega), ⟨by omega, hk.2.1, by omega, del_skip (by omega) hk.2.2.2.1 (by simpa using h3), drop_next hk.2.2.2.2⟩, h.cut (is := [1, 0]) (js := [0]) ⟨rfl, rfl, rfl, rfl, trivial⟩ rfl rfl⟩))
         · try simp only [decide_eq_true_eq, decide_eq_false_iff_not, Bool.not_eq_true', Bool.not_eq_false', Bool.not_true, Bool.not_false, Bool.not_not, ne_eq, Decidable.not_not, Int.not_lt, Int.not_le, gt_iff_lt, ge_iff_le, bool_true_eq_, bool_false_eq_] at h2
           first
           | (exfalso; omega)
           | (skip
              refine GC.exit (?_ : GC _ _ _ _)
              refine GC.seq' ?_
              refine GC.region ?_
              obtain rfl : k = xs.length := by omega
              refine GL.pure rfl (p_move rfl) ?_
              refine GL.pure rfl (p_move rfl) ?_
              refine GL.pure rfl (p_cut_l rfl rfl Try.underlying22 sz_3 (by (first | omega | (rw [hk.2.1]; omega))) (by (first | omega | (rw [hk.2.1]; omega))) rfl rfl (slA_blk (by (first | omega | (rw [hk.2.1]; omega))))) ?_
              refine GL.step rfl (t_clearB (i := 0) rfl rfl Try.underlying22 ze_3 rfl (by simp [hk.2.1]; omega) rfl rfl) ?_
              refine GL.nil (?_ : GC _ _ _ _)
              refine GC.seq' ?_
              refine GC.region ?_
              refine GL.pure rfl (p_move rfl) ?_
              refine GL.pure rfl (p_move rfl) ?_
              refine GL.pure rfl (p_cut_h rfl rfl Try.underlying22 sz_3 (by (first | omega | (rw [hk.2.1]; omega))) (by (first | omega | (rw [hk.2.1]; omega))) rfl rfl (slA_blk (by (first | omega | (rw [hk.2.1]; omega))))) ?_
              refine GL.pure rfl (p_assign rfl) ?_
              refine GL.nil (?_ : GC _ _ _ _)
              have hkept : xs.filter (fun x => !(fun x => decide (x ∈ drop)) x) = ys.take i := by rw [hk.2.2.2.1, List.take_length]
              have hti : (ys.take i).length = i := by simp; omega
              refine GC.rerow (i := 0) (sz := 1) (m := i) ((ys.take i).map iv) (List.replicate (xs.length - i) (iv 0) ++ sp) rfl (clear_tail (i := i) hk.2.1 (by omega)) (by simp; omega) (by rw [clear_tail (i := i) hk.2.1 (by omega)]; simp; omega) (by omega) hmax rfl ?_
              refine GC.ret ?_
              refine fun a w h => Fin.back (rs := [.tmp 4]) (vs := [_]) (is := [0, 0]) (js := []) rfl ⟨rfl, trivial⟩ rfl rfl ?_ h
              clear h
              rw [hkept, hti]; exact ⟨some ⟨b, 0, none⟩, cp, by omega, hmax, rfl, rfl, rfl⟩))

/-! ### the next group -/
def outF (l add drop : List Int) : List Int := Lib.compact (((l ++ add).filter fun x => !decide (x ∈ drop)).mergeSort fun x y => decide (x ≤ y))
def nextF (e : Int) (l add drop : List Int) : Int × List Int × Int :=
  if groupOk e l = true then
    if e = 4611686018427387904 then (0, [], 130)
    else if groupOk (e + 1) (outF l add drop) = true then (e + 1, outF l add drop, 0) else (0, [], 130)
  else (0, [], 130)
abbrev nextV (r : Int × List Int × Int) (A : Option Addr) (cp : Nat) : Value := .tuple #[grpV r.1 A r.2.1.length cp, .int .i64 r.2.2]
theorem next_ct (e : Int) (A : Option Addr) (l : List Int) (cp : Nat) (B : Option Addr) (add : List Int) (cq : Nat) (D : Option Addr) (drop : List Int) (cr : Nat) (hl : l.length ≤ 1000000) (ha : add.length ≤ 1000000) (hd : drop.length ≤ 1000000) :
    Ct Try.prog 10 [grpV e A l.length cp, .slice B add.length cq, .slice D drop.length cr] [] [Pers.row kI A l, Pers.row kI B add, Pers.row kI D drop]
      (fun u G Q => ∃ R cs, u = nextV (nextF e l add drop) R cs ∧ G = [] ∧ Q = [Pers.row kI R (nextF e l add drop).2.1]) := by
  have hd' : drop.length ≤ 140737488355328 := by omega
  refine Ct.intro Try.func10 rfl rfl rfl (fun c hc => ?_)
  refine GC.know (q := Pers.row kI none []) (fun _ _ _ => .inl rfl) ?_
  refine GC.seq' ?_
  refine GC.region ?_
  refine GL.step rfl (t_box rfl rfl rfl) (GL.ex fun b_t3 => ?_)
  refine GL.step rfl (t_box rfl rfl rfl) (GL.ex fun b_t5 => ?_)
  refine GL.step rfl (t_alloc rfl ze_24) (GL.ex fun b_t6 => ?_)
  refine GL.pure rfl (p_assign rfl) ?_
  refine GL.nil (?_ : GC _ _ _ _)
  refine GC.seq' ?_
  refine GC.seq' ?_
  refine GC.region ?_
  refine GL.step rfl (t_mem rfl (m_loadN (i := 2) rfl rfl ag_24 (vs := [_, _]) sz_24 ⟨rfl, rfl, trivial⟩)) ?_
  refine GL.step rfl (t_call rfl fn_22 rfl (is := []) (js := [1]) rfl rfl (by exact check_ct _ _ _ _ (by first | assumption | omega))) (GL.ret ?_)
  rintro _ _ _ ⟨rfl, rfl, rfl⟩
  refine GL.pure rfl (p_assign rfl) ?_
  refine GL.nil (?_ : GC _ _ _ _)
  refine GC.seq' ?_
  refine GC.region ?_
  refine GL.pure rfl (p_move rfl) ?_
  refine GL.pure rfl (p_neq rfl rfl) ?_
  refine GL.nil (?_ : GC _ _ _ _)
  refine GC.cond rfl (fun h1 => ?_) (fun h1 => ?_)
  · try simp only [decide_eq_true_eq, decide_eq_false_iff_not, Bool.not_eq_true', Bool.not_eq_false', Bool.not_true, Bool.not_false, Bool.not_not, ne_eq, Decidable.not_not, Int.not_lt, Int.not_le, gt_iff_lt, ge_iff_le, bool_true_eq_, bool_false_eq_, chkE_iff] at h1
    first
    | (exfalso; first | omega | (simp at h1; done))
    | (skip
       refine GC.seq' ?_
       refine GC.region ?_
       refine GL.pure rfl (p_build ze_24 of_24 rfl rfl) ?_
       refine GL.pure rfl (p_move rfl) ?_
       refine GL.step rfl (t_storeN (i := 0) rfl rfl rfl sz_24 rfl rfl rfl) ?_
       refine GL.pure rfl (p_assign rfl) ?_
       refine GL.nil (?_ : GC _ _ _ _)
       refine GC.ret ?_
       refine fun a w h => Fin.back (rs := [.cell 6 24, .tmp 7]) (vs := [_, _]) (is := []) (js := [0]) rfl ⟨⟨0, _, _, _, _, rfl, rfl, .inr ⟨[_, _], rfl, ag_24, sz_24, ⟨rfl, rfl, trivial⟩⟩⟩, rfl, trivial⟩ rfl rfl ?_ h
       clear h
       have e1 : nextF e l add drop = (0, [], 130) := by unfold nextF; rw [if_neg (by assumption)]
       rw [e1]; exact ⟨none, 0, by rw [show chkE e l = 130 from if_neg (by assumption)]; rfl, rfl, rfl⟩)
  · try simp only [decide_eq_true_eq, decide_eq_false_iff_not, Bool.not_eq_true', Bool.not_eq_false', Bool.not_true, Bool.not_false, Bool.not_not, ne_eq, Decidable.not_not, Int.not_lt, Int.not_le, gt_iff_lt, ge_iff_le, bool_true_eq_, bool_false_eq_, chkE_iff] at h1
    first
    | (exfalso; first | omega | (simp at h1; done))
    | (skip
       refine GC.skip (?_ : GC _ _ _ _)
       refine GC.seq' ?_
       refine GC.seq' ?_
       refine GC.region ?_
       have hg := grp_len (by assumption : groupOk e l = true)
       refine GL.pure rfl (p_fieldAddr fo_24_0 rfl) ?_
       refine GL.step rfl (t_mem rfl (m_load (i := 2) rfl rfl ag_3 rfl)) ?_
       refine GL.pure rfl (p_eql rfl rfl) ?_
       refine GL.nil (?_ : GC _ _ _ _)
       refine GC.cond rfl (fun h2 => ?_) (fun h2 => ?_)
       · try simp only [decide_eq_true_eq, decide_eq_false_iff_not, Bool.not_eq_true', Bool.not_eq_false', Bool.not_true, Bool.not_false, Bool.not_not, ne_eq, Decidable.not_not, Int.not_lt, Int.not_le, gt_iff_lt, ge_iff_le, bool_true_eq_, bool_false_eq_, chkE_iff] at h2
         first
         | (exfalso; first | omega | (simp at h2; done))
         | (skip
            refine GC.seq' ?_
            refine GC.region ?_
            refine GL.pure rfl (p_build ze_24 of_24 rfl rfl) ?_
            refine GL.step rfl (t_storeN (i := 0) rfl rfl rfl sz_24 rfl rfl rfl) ?_
            refine GL.pure rfl (p_assign rfl) ?_
            refine GL.nil (?_ : GC _ _ _ _)
            refine GC.ret ?_
            refine fun a w h => Fin.back (rs := [.cell 6 24, .tmp 7]) (vs := [_, _]) (is := []) (js := [0]) rfl ⟨⟨0, _, _, _, _, rfl, rfl, .inr ⟨[_, _], rfl, ag_24, sz_24, ⟨rfl, rfl, trivial⟩⟩⟩, rfl, trivial⟩ rfl rfl ?_ h
            clear h
            have e1 : nextF e l add drop = (0, [], 130) := by unfold nextF; rw [if_pos (by assumption), if_pos (by assumption)]
            rw [e1]; exact ⟨none, 0, rfl, rfl, rfl⟩)
       · try simp only [decide_eq_true_eq, decide_eq_false_iff_not, Bool.not_eq_true', Bool.not_eq_false', Bool.not_true, Bool.not_false, Bool.not_not, ne_eq, Decidable.not_not, Int.not_lt, Int.not_le, gt_iff_lt, ge_iff_le, bool_true_eq_, bool_false_eq_, chkE_iff] at h2
         first
         | (exfalso; first | omega | (simp at h2; done))
         | (skip
            refine GC.skip (?_ : GC _ _ _ _)
            refine GC.seq' ?_
            refine GC.region ?_
            refine GL.pure rfl (p_fieldAddr fo_24_1 rfl) ?_
            refine GL.step rfl (t_mem rfl (m_load (i := 2) rfl rfl ag_22 rfl)) ?_
            refine GL.step rfl (t_call rfl fn_27 rfl (is := []) (js := [1]) rfl rfl (by exact clone_i _ _ _ (by first | assumption | omega))) (GL.ret ?_)
            rintro _ _ _ ⟨A24, cp24, l24, k24, rfl, rfl, rfl⟩
            refine GL.pure rfl (p_move rfl) ?_
            refine GL.step rfl (t_appendS (i := 0) (k := 2) rfl el_22 rfl rfl rfl rfl (by omega) (fun _ => rfl)) (GL.ex fun v26 => ?_)
            refine GL.pure rfl (p_assign rfl) ?_
            refine GL.nil (?_ : GC _ _ _ _)
            refine GC.seq' ?_
            refine GC.region ?_
            refine GL.pure rfl (p_move rfl) ?_
            skip
            refine GL.pure rfl (p_makeFunc rfl rfl) ?_
            rw [← List.map_append, ← List.length_append]
            refine GL.shape (i := 0) rfl (fun A_u c_u e_u l_u k_u => ?_)
            subst e_u
            refine GL.step rfl (t_call rfl fn_28 rfl (is := [0, 1]) (js := [3]) rfl rfl (by exact del_nx _ _ drop _ hd' _ _ _ (l ++ add) rfl (by simp; omega))) (GL.ret ?_)
            rintro _ _ _ ⟨A29, cp29, l29, k29, rfl, rfl, rfl⟩
            refine GL.pure rfl (p_assign rfl) ?_
            refine GL.nil (?_ : GC _ _ _ _)
            refine GC.seq' ?_
            refine GC.region ?_
            refine GL.pure rfl (p_move rfl) ?_
            refine GL.step rfl (t_call rfl fn_31 rfl (is := [0]) (js := []) rfl rfl (by exact sortI_ct _ _ _ ((l ++ add).filter fun x => !decide (x ∈ drop)) rfl (by have := List.length_filter_le (fun x => !decide (x ∈ drop)) (l ++ add); simp at this; simp; omega))) (GL.ret ?_)
            rintro _ _ _ ⟨rfl, rfl, rfl⟩
            refine GL.nil (?_ : GC _ _ _ _)
            refine GC.seq' ?_
            refine GC.regionC (m := 8) (is := [1, 1, 1]) (js := [0, 1, 2, 3]) wide_ rfl rfl rfl ?_
            refine GA.take 0 rfl (by kernel_rfl) (by kernel_rfl) (by kernel_rfl) rfl (fun a w h => h.mem (is := [1, 1, 1]) (js := [0, 1, 2, 3]) rfl rfl) (i_pure (p_fieldAddr fo_24_0 rfl)) ?_
            refine GA.take 1 rfl (by kernel_rfl) (by kernel_rfl) (by kernel_rfl) rfl (fun a w h => h.mem (is := [1, 1, 1]) (js := [0, 1, 2, 3]) rfl rfl) (i_mem (m_load (i := 2) rfl rfl ag_3 rfl)) ?_
            refine GA.take 2 rfl (by kernel_rfl) (by kernel_rfl) (by kernel_rfl) rfl (fun a w h => h.mem (is := [1, 1, 1]) (js := [0, 1, 2, 3]) rfl rfl) (i_pure (p_add rfl rfl (w64 (by omega) (by omega)))) ?_
            refine GA.take 3 rfl (by kernel_rfl) (by kernel_rfl) (by kernel_rfl) rfl (fun a w h => h.mem (is := [1, 1, 1]) (js := [0, 1, 2, 3]) rfl rfl) (i_pure (p_move rfl)) ?_
            refine GA.all (rs := [4, 6]) (by kernel_rfl) (by simp) ?_
            refine GAs.cons (i := 4) rfl rfl (t_call rfl fn_32 rfl (is := [0]) (js := []) rfl rfl (by exact compactI_ct _ _ _ (((l ++ add).filter fun x => !decide (x ∈ drop)).mergeSort fun x y => decide (x ≤ y)) (by simp))) (by rintro a w ⟨_, _, _, ⟨rfl, rfl, rfl⟩, h⟩; exact h.mem (is := [1, 1, 1]) (js := [0, 1, 2, 3]) rfl rfl) (GA.ret ?_) ?_
            · rintro _ _ _ ⟨rfl, rfl, rfl⟩
              refine GA.take 5 rfl (by kernel_rfl) (by kernel_rfl) (by kernel_rfl) rfl (fun a w h => h.mem (is := [1, 1, 1]) (js := [0, 1, 2, 3]) rfl rfl) (i_pure (p_build ze_24 of_24 rfl rfl)) ?_
              refine GA.all (rs := [6]) (by kernel_rfl) (by simp) ?_
              refine GAs.cons (i := 6) rfl rfl (t_alloc rfl ze_24) (by rintro a w ⟨_, h⟩; exact h.mem (is := [2, 2, 2]) (js := [0, 1, 2, 3]) rfl rfl) (GA.ex fun b_t10 => ?_) ?_
              · refine GA.all (rs := [7]) (by kernel_rfl) (by simp) ?_
                refine GAs.cons (i := 7) rfl rfl (t_storeN (i := 0) rfl rfl rfl sz_24 rfl rfl rfl) (by rintro a w h; exact h.mem (is := [2, 2, 2]) (js := [0, 1, 2, 3]) rfl rfl) ?_ ?_
                · refine GA.done (by kernel_rfl) (?_ : GC _ _ _ _)
                  refine GC.seq' ?_
                  refine GC.seq' ?_
                  refine GC.region ?_
                  refine GL.freezeI (i := 1) rfl ?_
                  refine GL.step rfl (t_mem rfl (m_loadN (i := 0) rfl rfl ag_24 (vs := [_, _]) sz_24 ⟨rfl, rfl, trivial⟩)) ?_
                  refine GL.step rfl (t_call rfl fn_22 rfl (is := []) (js := [0]) rfl rfl (by exact check_ct _ _ (outF l add drop) _ (by have h1 := compact_le (((l ++ add).filter fun x => !decide (x ∈ drop)).mergeSort fun x y => decide (x ≤ y)) ; have h2 := h1 (((l ++ add).filter fun x => !decide (x ∈ drop)).mergeSort fun x y => decide (x ≤ y)).length; rw [List.length_mergeSort] at h2; have := List.length_filter_le (fun x => !decide (x ∈ drop)) (l ++ add); simp at this; simp [outF, Lib.compact]; simp at h2; omega))) (GL.ret ?_)
                  rintro _ _ _ ⟨rfl, rfl, rfl⟩
                  refine GL.pure rfl (p_assign rfl) ?_
                  refine GL.nil (?_ : GC _ _ _ _)
                  refine GC.seq' ?_
                  refine GC.region ?_
                  refine GL.pure rfl (p_move rfl) ?_
                  refine GL.pure rfl (p_neq rfl rfl) ?_
                  refine GL.nil (?_ : GC _ _ _ _)
                  refine GC.cond rfl (fun h3 => ?_) (fun h3 => ?_)
                  · try simp only [decide_eq_true_eq, decide_eq_false_iff_not, Bool.not_eq_true', Bool.not_eq_false', Bool.not_true, Bool.not_false, Bool.not_not, ne_eq, Decidable.not_not, Int.not_lt, Int.not_le, gt_iff_lt, ge_iff_le, bool_true_eq_, bool_false_eq_, chkE_iff] at h3
                    first
                    | (exfalso; first | omega | (simp at h3; done))
                    | (skip
                       refine GC.seq' ?_
                       refine GC.region ?_
                       refine GL.pure rfl (p_build ze_24 of_24 rfl rfl) ?_
                       refine GL.pure rfl (p_move rfl) ?_
                       refine GL.step rfl (t_storeN (i := 2) rfl rfl rfl sz_24 rfl rfl rfl) ?_
                       refine GL.pure rfl (p_assign rfl) ?_
                       refine GL.nil (?_ : GC _ _ _ _)
                       refine GC.ret ?_
                       refine fun a w h => Fin.back (rs := [.cell 6 24, .tmp 7]) (vs := [_, _]) (is := []) (js := [1]) rfl ⟨⟨2, _, _, _, _, rfl, rfl, .inr ⟨[_, _], rfl, ag_24, sz_24, ⟨rfl, rfl, trivial⟩⟩⟩, rfl, trivial⟩ rfl rfl ?_ h
                       clear h
                       have e1 : nextF e l add drop = (0, [], 130) := by unfold nextF; rw [if_pos (by assumption), if_neg (by omega), if_neg (by assumption)]
                       rw [e1]; exact ⟨none, 0, by rw [show chkE (e + 1) (outF l add drop) = 130 from if_neg (by assumption)]; rfl, rfl, rfl⟩)
                  · try simp only [decide_eq_true_eq, decide_eq_false_iff_not, Bool.not_eq_true', Bool.not_eq_false', Bool.not_true, Bool.not_false, Bool.not_not, ne_eq, Decidable.not_not, Int.not_lt, Int.not_le, gt_iff_lt, ge_iff_le, bool_true_eq_, bool_false_eq_, chkE_iff] at h3
                    first
                    | (exfalso; first | omega | (simp at h3; done))
                    | (skip
                       refine GC.skip (?_ : GC _ _ _ _)
                       refine GC.seq' ?_
                       refine GC.region ?_
                       refine GL.step rfl (t_mem rfl (m_loadN (i := 0) rfl rfl ag_24 (vs := [_, _]) sz_24 ⟨rfl, rfl, trivial⟩)) ?_
                       refine GL.step rfl (t_storeN (i := 2) rfl rfl rfl sz_24 rfl rfl rfl) ?_
                       refine GL.pure rfl (p_assign rfl) ?_
                       refine GL.nil (?_ : GC _ _ _ _)
                       refine GC.ret ?_
                       refine fun a w h => Fin.back (rs := [.cell 6 24, .tmp 7]) (vs := [_, _]) (is := []) (js := [0]) rfl ⟨⟨2, _, _, _, _, rfl, rfl, .inr ⟨[_, _], rfl, ag_24, sz_24, ⟨rfl, rfl, trivial⟩⟩⟩, rfl, trivial⟩ rfl rfl ?_ h
                       clear h
                       have e1 : nextF e l add drop = (e + 1, outF l add drop, 0) := by unfold nextF; rw [if_pos (by assumption), if_neg (by omega), if_pos (by assumption)]
                       rw [e1]; exact ⟨_, _, rfl, rfl, rfl⟩)
                exact GAs.nil
              exact GAs.nil
            refine GAs.cons (i := 6) rfl rfl (t_alloc rfl ze_24) (by rintro a w ⟨_, h⟩; exact h.mem (is := [2, 2, 2]) (js := [0, 1, 2, 3]) rfl rfl) (GA.ex fun b_t10 => ?_) ?_
            · refine GA.all (rs := [4]) (by kernel_rfl) (by simp) ?_
              refine GAs.cons (i := 4) rfl rfl (t_call rfl fn_32 rfl (is := [1]) (js := []) rfl rfl (by exact compactI_ct _ _ _ (((l ++ add).filter fun x => !decide (x ∈ drop)).mergeSort fun x y => decide (x ≤ y)) (by simp))) (by rintro a w ⟨_, _, _, ⟨rfl, rfl, rfl⟩, h⟩; exact h.mem (is := [2, 2, 2]) (js := [0, 1, 2, 3]) rfl rfl) (GA.ret ?_) ?_
              · rintro _ _ _ ⟨rfl, rfl, rfl⟩
                refine GA.take 5 rfl (by kernel_rfl) (by kernel_rfl) (by kernel_rfl) rfl (fun a w h => h.mem (is := [2, 2, 2]) (js := [0, 1, 2, 3]) rfl rfl) (i_pure (p_build ze_24 of_24 rfl rfl)) ?_
                refine GA.all (rs := [7]) (by kernel_rfl) (by simp) ?_
                refine GAs.cons (i := 7) rfl rfl (t_storeN (i := 1) rfl rfl rfl sz_24 rfl rfl rfl) (by rintro a w h; exact h.mem (is := [2, 2, 2]) (js := [0, 1, 2, 3]) rfl rfl) ?_ ?_
                · refine GA.done (by kernel_rfl) (?_ : GC _ _ _ _)
                  refine GC.seq' ?_
                  refine GC.seq' ?_
                  refine GC.region ?_
                  refine GL.freezeI (i := 0) rfl ?_
                  refine GL.step rfl (t_mem rfl (m_loadN (i := 0) rfl rfl ag_24 (vs := [_, _]) sz_24 ⟨rfl, rfl, trivial⟩)) ?_
                  refine GL.step rfl (t_call rfl fn_22 rfl (is := []) (js := [0]) rfl rfl (by exact check_ct _ _ (outF l add drop) _ (by have h1 := compact_le (((l ++ add).filter fun x => !decide (x ∈ drop)).mergeSort fun x y => decide (x ≤ y)) ; have h2 := h1 (((l ++ add).filter fun x => !decide (x ∈ drop)).mergeSort fun x y => decide (x ≤ y)).length; rw [List.length_mergeSort] at h2; have := List.length_filter_le (fun x => !decide (x ∈ drop)) (l ++ add); simp at this; simp [outF, Lib.compact]; simp at h2; omega))) (GL.ret ?_)
                  rintro _ _ _ ⟨rfl, rfl, rfl⟩
                  refine GL.pure rfl (p_assign rfl) ?_
                  refine GL.nil (?_ : GC _ _ _ _)
                  refine GC.seq' ?_
                  refine GC.region ?_
                  refine GL.pure rfl (p_move rfl) ?_
                  refine GL.pure rfl (p_neq rfl rfl) ?_
                  refine GL.nil (?_ : GC _ _ _ _)
                  refine GC.cond rfl (fun h3 => ?_) (fun h3 => ?_)
                  · try simp only [decide_eq_true_eq, decide_eq_false_iff_not, Bool.not_eq_true', Bool.not_eq_false', Bool.not_true, Bool.not_false, Bool.not_not, ne_eq, Decidable.not_not, Int.not_lt, Int.not_le, gt_iff_lt, ge_iff_le, bool_true_eq_, bool_false_eq_, chkE_iff] at h3
                    first
                    | (exfalso; first | omega | (simp at h3; done))
                    | (skip
                       refine GC.seq' ?_
                       refine GC.region ?_
                       refine GL.pure rfl (p_build ze_24 of_24 rfl rfl) ?_
                       refine GL.pure rfl (p_move rfl) ?_
                       refine GL.step rfl (t_storeN (i := 2) rfl rfl rfl sz_24 rfl rfl rfl) ?_
                       refine GL.pure rfl (p_assign rfl) ?_
                       refine GL.nil (?_ : GC _ _ _ _)
                       refine GC.ret ?_
                       refine fun a w h => Fin.back (rs := [.cell 6 24, .tmp 7]) (vs := [_, _]) (is := []) (js := [1]) rfl ⟨⟨2, _, _, _, _, rfl, rfl, .inr ⟨[_, _], rfl, ag_24, sz_24, ⟨rfl, rfl, trivial⟩⟩⟩, rfl, trivial⟩ rfl rfl ?_ h
                       clear h
                       have e1 : nextF e l add drop = (0, [], 130) := by unfold nextF; rw [if_pos (by assumption), if_neg (by omega), if_neg (by assumption)]
                       rw [e1]; exact ⟨none, 0, by rw [show chkE (e + 1) (outF l add drop) = 130 from if_neg (by assumption)]; rfl, rfl, rfl⟩)
                  · try simp only [decide_eq_true_eq, decide_eq_false_iff_not, Bool.not_eq_true', Bool.not_eq_false', Bool.not_true, Bool.not_false, Bool.not_not, ne_eq, Decidable.not_not, Int.not_lt, Int.not_le, gt_iff_lt, ge_iff_le, bool_true_eq_, bool_false_eq_, chkE_iff] at h3
                    first
                    | (exfalso; first | omega | (simp at h3; done))
                    | (skip
                       refine GC.skip (?_ : GC _ _ _ _)
                       refine GC.seq' ?_
                       refine GC.region ?_
                       refine GL.step rfl (t_mem rfl (m_loadN (i := 0) rfl rfl ag_24 (vs := [_, _]) sz_24 ⟨rfl, rfl, trivial⟩)) ?_
                       refine GL.step rfl (t_storeN (i := 2) rfl rfl rfl sz_24 rfl rfl rfl) ?_
                       refine GL.pure rfl (p_assign rfl) ?_
                       refine GL.nil (?_ : GC _ _ _ _)
                       refine GC.ret ?_
                       refine fun a w h => Fin.back (rs := [.cell 6 24, .tmp 7]) (vs := [_, _]) (is := []) (js := [0]) rfl ⟨⟨2, _, _, _, _, rfl, rfl, .inr ⟨[_, _], rfl, ag_24, sz_24, ⟨rfl, rfl, trivial⟩⟩⟩, rfl, trivial⟩ rfl rfl ?_ h
                       clear h
                       have e1 : nextF e l add drop = (e + 1, outF l add drop, 0) := by unfold nextF; rw [if_pos (by assumption), if_neg (by omega), if_pos (by assumption)]
                       rw [e1]; exact ⟨_, _, rfl, rfl, rfl⟩)
                exact GAs.nil
              exact GAs.nil
            exact GAs.nil))
end Go.Proofs.Ytoofbjclockcdaa
