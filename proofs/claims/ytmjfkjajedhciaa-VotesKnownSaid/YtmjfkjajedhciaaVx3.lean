/- VOTES: what the laws call beside. -/
import Derived.Test.YtmjfkjajedhciaaVx2
import Derived.Laws.StructEq
set_option linter.unusedVariables false
set_option linter.unusedSimpArgs false
set_option maxRecDepth 100000
namespace Go.Proofs.Ytmjfkjajedhciaa
open Go Go.Sx Go.Proofs
abbrev agV (a b : Int) : Value := .agg #[.int .i64 a, .int .i64 b]
theorem run_eqAck (w : World) (a b c d : Int) : (Op.equalIn 10000 44 (.agg #[.int .i64 a, .int .i64 b]) (.agg #[.int .i64 c, .int .i64 d])).run Try.prog w = .ok (decide (a = c) && decide (b = d)) w := by
  have h1 : Try.prog.fieldsOf 44 = (match Try.prog.underlying 44 with | some (.struct fs) => fs | _ => #[]) := rfl
  rw [run_equalIn_agg w 9999 _ _ _ (by rw [h1, Try.underlying44]) (by kernel_rfl), h1, Try.underlying44]
  have p1 : ∀ (l : List Value) (v : Value) (o : Nat) (w : World), nth l o = some v → (part 3 l.toArray o).run Try.prog w = .ok v w := fun l v o w h => part_one ag_3 h w
  have e0 : ∀ w, (part 3 #[.int .i64 a, .int .i64 b] 0).run Try.prog w = .ok (.int .i64 a) w := fun w => p1 [_, _] _ 0 w rfl
  have e1 : ∀ w, (part 3 #[.int .i64 a, .int .i64 b] 1).run Try.prog w = .ok (.int .i64 b) w := fun w => p1 [_, _] _ 1 w rfl
  have e2 : ∀ w, (part 3 #[.int .i64 c, .int .i64 d] 0).run Try.prog w = .ok (.int .i64 c) w := fun w => p1 [_, _] _ 0 w rfl
  have e3 : ∀ w, (part 3 #[.int .i64 c, .int .i64 d] 1).run Try.prog w = .ok (.int .i64 d) w := fun w => p1 [_, _] _ 1 w rfl
  have q : ∀ (x y : Int) (w : World), (Op.equalIn 9999 3 (.int .i64 x) (.int .i64 y)).run Try.prog w = .ok (x == y) w := fun x y w => run_equalIn_int w 9998 _ _ _ _ _ Try.underlying3
  simp only [Op.eqFields, Sem.run_bind, Sem.run_ite, e0, e1, e2, e3, q, Result.andThen_ok]
  by_cases h : a = c <;> by_cases h' : b = d <;> subst_vars <;> simp [Sem.run_ite, e0, e1, e2, e3, q, Result.andThen, *]
section
variable {n : Nat} {env : List (Nat × Value)} {dst : Nat} {ty : TypeId} {pos : String} {aft : Array Edge} {g : Option (Nat × Bool)} {x y : Operand} {u : TypeId}
theorem p_ackNeq {a b c d : Int} (hx : ev env x = some (agV a b)) (hy : ev env y = some (agV c d)) : Pv Try.prog n env ⟨some dst, .binOp .neq 44 x y u, ty, pos, aft, g⟩ (.bool (!(decide (a = c) && decide (b = d)))) := fun act w he => by
  simp only [execOp, he.eval hx, he.eval hy, run_eqGuard_agg w _ _ _ _ _ _ (show Try.prog.eqGuardType Try.prog.depth 44 = false by kernel_rfl), Sem.run_bind, Result.andThen_ok, run_neq_struct, run_eqAck, Sem.run_pure]
theorem p_ackEql {a b c d : Int} (hx : ev env x = some (agV a b)) (hy : ev env y = some (agV c d)) : Pv Try.prog n env ⟨some dst, .binOp .eql 44 x y u, ty, pos, aft, g⟩ (.bool (decide (a = c) && decide (b = d))) := fun act w he => by
  simp only [execOp, he.eval hx, he.eval hy, run_eqGuard_agg w _ _ _ _ _ _ (show Try.prog.eqGuardType Try.prog.depth 44 = false by kernel_rfl), Sem.run_bind, Result.andThen_ok, run_eql_struct, run_eqAck, Sem.run_pure]
end
theorem ack1 : ackF [] 1 3 = [⟨1, 3⟩] := by
  have h : nodesF (alA [] 1 3) = [1] := by
    show addF [] 1 = [1]
    exact inc_extI (addF_inc _ _) (by simp) fun y => by rw [addF_mem]; simp
  rw [ackF, h]; decide
theorem ack2 : ackF [⟨1, 3⟩] 0 5 = [⟨0, 5⟩, ⟨1, 3⟩] := by
  have h1 : addF [] 1 = [1] := inc_extI (addF_inc _ _) (by simp) fun y => by rw [addF_mem]; simp
  have h : nodesF (alA [⟨1, 3⟩] 0 5) = [0, 1] := by
    show addF (addF [] 1) 0 = [0, 1]
    rw [h1]
    exact inc_extI (addF_inc _ _) (by simp) fun y => by rw [addF_mem]; simp; omega
  rw [ackF, h]; decide
theorem hv2 : hvF [⟨0, 5⟩, ⟨1, 3⟩] [0, 1, 2] = [5, 3] := by decide
theorem srt2 : srt [5, 3] = [3, 5] := by simp [srt, List.mergeSort]
theorem com2 : commitF 3 (hvF [⟨0, 5⟩, ⟨1, 3⟩] [0, 1, 2]) = 3 := by rw [hv2, commitF, srt2]; decide
theorem beh2 : (([0, 1, 2] : List Int).filter fun x => !decide (x = 0)).filter (fun x => !hasP [⟨0, 5⟩, ⟨1, 3⟩] 4 x) = [1, 2] := by decide
theorem add2 : addF [2, 1] 2 = [1, 2] := inc_extI (addF_inc _ _) (by simp) fun y => by rw [addF_mem]; simp; omega
theorem ackA_ct (A : Option Addr) (cp : Nat) : Ct Try.prog 13 [.slice none 0 0, .int .i64 1, .int .i64 3] [] [Pers.row kAck none []] (fun u G Q => ∃ R cs, u = .slice R 1 cs ∧ G = [] ∧ Q = [Pers.row kAck R [⟨1, 3⟩]]) := by
  have h := ack_ct none [] 0 1 3 (by decide)
  rw [ack1] at h; exact h
theorem ackB_ct (A : Option Addr) (cp : Nat) : Ct Try.prog 13 [.slice A 1 cp, .int .i64 0, .int .i64 5] [] [Pers.row kAck A [⟨1, 3⟩]] (fun u G Q => ∃ R cs, u = .slice R 2 cs ∧ G = [] ∧ Q = [Pers.row kAck R [⟨0, 5⟩, ⟨1, 3⟩]]) := by
  have h := ack_ct A [⟨1, 3⟩] cp 0 5 (by decide)
  rw [ack2] at h; exact h
theorem comA_ct (A : Option Addr) (cp : Nat) (B : Option Addr) (cq : Nat) : Ct Try.prog 17 [grpV 0 A 3 cp, .slice B 2 cq] [] [Pers.row kI A [0, 1, 2], Pers.row kAck B [⟨0, 5⟩, ⟨1, 3⟩]] (fun u G Q => u = .int .i64 3 ∧ G = [] ∧ Q = []) := by
  have h := commit_ct 0 A [0, 1, 2] cp B [⟨0, 5⟩, ⟨1, 3⟩] cq (by decide) (by decide)
  rw [show ([0, 1, 2] : List Int).length = 3 from rfl, com2] at h; exact h
theorem addA_ct (A : Option Addr) (cp : Nat) : Ct Try.prog 10 [.slice A 2 cp, .int .i64 2] [] [Pers.row kI A [2, 1]] (fun u G Q => ∃ R cs, u = .slice R 2 cs ∧ G = [] ∧ Q = [Pers.row kI R [1, 2]]) := by
  have h := add_ct A [2, 1] cp 2 (by decide)
  rw [add2] at h; exact h
theorem behA_ct (A : Option Addr) (cp : Nat) (B : Option Addr) (cq : Nat) : Ct Try.prog 31 [grpV 0 A 3 cp, .int .i64 0, .int .i64 4, .slice B 2 cq] [] [Pers.row kI A [0, 1, 2], Pers.row kAck B [⟨0, 5⟩, ⟨1, 3⟩]] (fun u G Q => ∃ R cs, u = .slice R 2 cs ∧ G = [.row (.slice R 2 cs) 3 1 2 [.int .i64 1, .int .i64 2]] ∧ Q = []) := by
  have h := behind_ct 0 A [0, 1, 2] cp 0 4 B [⟨0, 5⟩, ⟨1, 3⟩] cq (by decide) (by decide)
  rw [beh2] at h; exact h
theorem awake_ct : Ct Try.prog 15 [] [] [] (fun v G Q => v = .bool true ∧ G = [] ∧ Q = []) := by
  refine Ct.intro Try.func15 rfl rfl rfl (fun c hc => ?_)
  refine GC.know (q := Pers.row kAck none []) (fun _ _ _ => .inl rfl) ?_
  refine GC.seq' ?_
  refine GC.region ?_
  refine GL.pure rfl (p_assign rfl) ?_
  refine GL.nil (?_ : GC _ _ _ _)
  refine GC.seq' ?_
  refine GC.region ?_
  refine GL.step rfl (t_buildSlice rfl Try.underlying22 sz_3 ze_3 rfl rfl rfl rfl rfl rfl) (GL.ex fun b_t3 => ?_)
  refine GL.freezeC (enc := Value.int .i64) (xs := [0, 1, 2]) (h1 := fun _ => rfl) (i := 0) rfl ?_
  refine GL.pure rfl (p_build ze_34 of_34 rfl rfl) ?_
  refine GL.step rfl (t_alloc rfl ze_34) (GL.ex fun b_t1 => ?_)
  refine GL.step rfl (t_storeN (i := 0) rfl rfl rfl sz_34 rfl rfl rfl) ?_
  refine GL.nil (?_ : GC _ _ _ _)
  refine GC.seq' ?_
  refine GC.region ?_
  refine GL.step rfl (t_call rfl fn_13 rfl (is := []) (js := [1]) rfl rfl (by exact ackA_ct none 0)) (GL.ret ?_)
  rintro _ _ _ ⟨A5, cp5, rfl, rfl, rfl⟩
  refine GL.step rfl (t_call rfl fn_13 rfl (is := []) (js := [0]) rfl rfl (by exact ackB_ct _ _)) (GL.ret ?_)
  rintro _ _ _ ⟨A6, cp6, rfl, rfl, rfl⟩
  refine GL.pure rfl (p_assign rfl) ?_
  refine GL.nil (?_ : GC _ _ _ _)
  refine GC.seq' ?_
  refine GC.region ?_
  refine GL.step rfl (t_mem rfl (m_loadN (i := 0) rfl rfl ag_34 (vs := [_, _]) sz_34 ⟨rfl, rfl, trivial⟩)) ?_
  refine GL.pure rfl (p_move rfl) ?_
  refine GL.step rfl (t_call rfl fn_17 rfl (is := []) (js := [2, 0]) rfl rfl (by exact comA_ct _ _ _ _)) (GL.ret ?_)
  rintro _ _ _ ⟨rfl, rfl, rfl⟩
  refine GL.pure rfl (p_eql rfl rfl) ?_
  refine GL.pure rfl (p_move rfl) ?_
  refine GL.stepG rfl (s := 11) rfl rfl (t_buildSlice rfl Try.underlying22 sz_3 ze_3 rfl rfl rfl rfl rfl rfl) (GL.ex fun b_t12 => ?_)
  refine GL.freezeC (enc := Value.int .i64) (xs := [2, 1]) (h1 := fun _ => rfl) (i := 0) rfl ?_
  refine GL.stepG rfl (s := 11) rfl rfl (t_call rfl fn_10 rfl (is := []) (js := [0]) rfl rfl (by exact addA_ct _ _)) (GL.ret ?_)
  rintro _ _ _ ⟨A13, cp13, rfl, rfl, rfl⟩
  refine GL.pureG (s := 11) rfl rfl rfl (p_len Try.underlying22 rfl) ?_
  refine GL.pureG (s := 11) rfl rfl rfl (p_eql rfl rfl) ?_
  refine GL.pure rfl (p_pick_true rfl rfl) ?_
  refine GL.pure rfl (p_move rfl) ?_
  refine GL.split (i := 17) rfl (fun h1 => ?_) (fun h1 => ?_)
  · try simp only [decide_eq_true_eq, decide_eq_false_iff_not, Bool.not_eq_true', Bool.not_eq_false', Bool.not_true, Bool.not_false, Bool.not_not, ne_eq, Decidable.not_not, Int.not_lt, Int.not_le, gt_iff_lt, ge_iff_le, bool_true_eq_, bool_false_eq_] at h1
    first
    | (exfalso; first | omega | (simp at h1; done))
    | (skip
       refine GL.stepG rfl (s := 17) rfl rfl (t_mem rfl (m_loadN (i := 0) rfl rfl ag_34 (vs := [_, _]) sz_34 ⟨rfl, rfl, trivial⟩)) ?_
       refine GL.pureG (s := 17) rfl rfl rfl (p_move rfl) ?_
       refine GL.stepG rfl (s := 17) rfl rfl (t_call rfl fn_31 rfl (is := []) (js := [4, 2]) rfl rfl (by exact behA_ct _ _ _ _)) (GL.ret ?_)
       rintro _ _ _ ⟨A20, cp20, rfl, rfl, rfl⟩
       refine GL.pureG (s := 17) rfl rfl rfl (p_len Try.underlying22 rfl) ?_
       refine GL.pureG (s := 17) rfl rfl rfl (p_eql rfl rfl) ?_
       refine GL.pure rfl (p_pick_true rfl rfl) ?_
       refine GL.pure rfl (p_assign rfl) ?_
       refine GL.nil (?_ : GC _ _ _ _)
       refine GC.ret ?_
       refine fun a w h => Fin.back (rs := [.tmp 0]) (vs := [_]) (is := []) (js := []) rfl ⟨rfl, trivial⟩ rfl rfl ?_ h
       clear h
       refine ⟨?_, rfl, rfl⟩
       first | rfl | (show Value.bool _ = _; simp; done) | (show Value.bool (decide _) = _; decide))
  · try simp only [decide_eq_true_eq, decide_eq_false_iff_not, Bool.not_eq_true', Bool.not_eq_false', Bool.not_true, Bool.not_false, Bool.not_not, ne_eq, Decidable.not_not, Int.not_lt, Int.not_le, gt_iff_lt, ge_iff_le, bool_true_eq_, bool_false_eq_] at h1
    first
    | (exfalso; first | omega | (simp at h1; done))
    | (skip
       refine GL.pass (s := 17) rfl rfl rfl ?_
       refine GL.pass (s := 17) rfl rfl rfl ?_
       refine GL.pass (s := 17) rfl rfl rfl ?_
       refine GL.pass (s := 17) rfl rfl rfl ?_
       refine GL.pass (s := 17) rfl rfl rfl ?_
       refine GL.pure rfl (p_pick_false rfl rfl) ?_
       refine GL.pure rfl (p_assign rfl) ?_
       refine GL.nil (?_ : GC _ _ _ _)
       refine GC.ret ?_
       refine fun a w h => Fin.back (rs := [.tmp 0]) (vs := [_]) (is := []) (js := []) rfl ⟨rfl, trivial⟩ rfl rfl ?_ h
       clear h
       refine ⟨?_, rfl, rfl⟩
       first | rfl | (show Value.bool _ = _; simp; done) | (show Value.bool (decide _) = _; decide))
theorem few_ct (A : Option Addr) (l : List Ack) (cp : Nat) (hl : l.length ≤ cp) : Ct Try.prog 6 [.slice A l.length cp] [] [Pers.row kAck A l] (fun u G Q => ∃ B cq, u = .slice B (l.take 60).length cq ∧ G = [] ∧ Q = [Pers.row kAck B (l.take 60)]) := by
  refine Ct.intro Try.func6 rfl rfl rfl (fun c hc => ?_)
  refine GC.seq' ?_
  refine GC.region ?_
  refine GL.pure rfl (p_assign rfl) ?_
  refine GL.nil (?_ : GC _ _ _ _)
  refine GC.seq' ?_
  refine GC.seq' ?_
  refine GC.region ?_
  refine GL.pure rfl (p_move rfl) ?_
  refine GL.pure rfl (p_len Try.underlying23 rfl) ?_
  refine GL.pure rfl (p_gtr rfl rfl) ?_
  refine GL.nil (?_ : GC _ _ _ _)
  refine GC.cond rfl (fun h1 => ?_) (fun h1 => ?_)
  · try simp only [decide_eq_true_eq, decide_eq_false_iff_not, Bool.not_eq_true', Bool.not_eq_false', Bool.not_true, Bool.not_false, Bool.not_not, ne_eq, Decidable.not_not, Int.not_lt, Int.not_le, gt_iff_lt, ge_iff_le, bool_true_eq_, bool_false_eq_] at h1
    refine GC.seq' ?_
    refine GC.region ?_
    refine GL.pure rfl (p_move rfl) ?_
    refine GL.step rfl (t_cut_h (j := 0) rfl rfl rfl rfl Try.underlying23 sz_44 (by omega) (by omega) (by omega)) ?_
    refine GL.pure rfl (p_assign rfl) ?_
    refine GL.nil (?_ : GC _ _ _ _)
    refine GC.ret ?_
    refine fun a w h => Fin.back (rs := [.tmp 2]) (vs := [_]) (is := []) (js := [0]) rfl ⟨rfl, trivial⟩ rfl rfl ?_ h
    clear h
    exact ⟨_, _, rfl, rfl, rfl⟩
  · try simp only [decide_eq_true_eq, decide_eq_false_iff_not, Bool.not_eq_true', Bool.not_eq_false', Bool.not_true, Bool.not_false, Bool.not_not, ne_eq, Decidable.not_not, Int.not_lt, Int.not_le, gt_iff_lt, ge_iff_le, bool_true_eq_, bool_false_eq_] at h1
    refine GC.skip (?_ : GC _ _ _ _)
    refine GC.seq' ?_
    refine GC.region ?_
    refine GL.pure rfl (p_move rfl) ?_
    refine GL.pure rfl (p_assign rfl) ?_
    refine GL.nil (?_ : GC _ _ _ _)
    refine GC.ret ?_
    refine fun a w h => Fin.back (rs := [.tmp 2]) (vs := [_]) (is := []) (js := [0]) rfl ⟨rfl, trivial⟩ rfl rfl ?_ h
    clear h
    rw [List.take_of_length_le (by omega)]; exact ⟨_, _, rfl, rfl, rfl⟩
theorem cut_ct (e : Int) (A : Option Addr) (l : List Int) (cp : Nat) (hl : l.length ≤ cp) : Ct Try.prog 16 [grpV e A l.length cp] [] [Pers.row kI A l] (fun u G Q => ∃ B cq, u = grpV e B (l.take 60).length cq ∧ G = [] ∧ Q = [Pers.row kI B (l.take 60)]) := by
  refine Ct.intro Try.func16 rfl rfl rfl (fun c hc => ?_)
  refine GC.seq' ?_
  refine GC.region ?_
  refine GL.step rfl (t_box rfl rfl rfl) (GL.ex fun b_t1 => ?_)
  refine GL.step rfl (t_alloc rfl ze_34) (GL.ex fun b_t2 => ?_)
  refine GL.nil (?_ : GC _ _ _ _)
  refine GC.seq' ?_
  refine GC.seq' ?_
  refine GC.region ?_
  refine GL.pure rfl (p_fieldAddr fo_34_1 rfl) ?_
  refine GL.step rfl (t_mem rfl (m_load (i := 1) rfl rfl ag_22 rfl)) ?_
  refine GL.pure rfl (p_len Try.underlying22 rfl) ?_
  refine GL.pure rfl (p_gtr rfl rfl) ?_
  refine GL.nil (?_ : GC _ _ _ _)
  refine GC.cond rfl (fun h1 => ?_) (fun h1 => ?_)
  · try simp only [decide_eq_true_eq, decide_eq_false_iff_not, Bool.not_eq_true', Bool.not_eq_false', Bool.not_true, Bool.not_false, Bool.not_not, ne_eq, Decidable.not_not, Int.not_lt, Int.not_le, gt_iff_lt, ge_iff_le, bool_true_eq_, bool_false_eq_] at h1
    refine GC.region ?_
    refine GL.pure rfl (p_fieldAddr fo_34_1 rfl) ?_
    refine GL.step rfl (t_mem rfl (m_load (i := 1) rfl rfl ag_22 rfl)) ?_
    refine GL.step rfl (t_cut_h (j := 0) rfl rfl rfl rfl Try.underlying22 sz_3 (by omega) (by omega) (by omega)) ?_
    refine GL.pure rfl (p_fieldAddr fo_34_1 rfl) ?_
    refine GL.step rfl (t_store (i := 1) rfl rfl rfl rfl sz_22 rfl rfl rfl) ?_
    refine GL.nil (?_ : GC _ _ _ _)
    refine GC.seq' ?_
    refine GC.region ?_
    refine GL.step rfl (t_mem rfl (m_loadN (i := 1) rfl rfl ag_34 (vs := [_, _]) sz_34 ⟨rfl, rfl, trivial⟩)) ?_
    refine GL.step rfl (t_storeN (i := 0) rfl rfl rfl sz_34 rfl rfl rfl) ?_
    refine GL.nil (?_ : GC _ _ _ _)
    refine GC.ret ?_
    refine fun a w h => Fin.back (rs := [.cell 2 34]) (vs := [_]) (is := []) (js := [0]) rfl ⟨⟨0, _, _, _, _, rfl, rfl, .inr ⟨[_, _], rfl, ag_34, sz_34, ⟨rfl, rfl, trivial⟩⟩⟩, trivial⟩ rfl rfl ?_ h
    clear h
    exact ⟨_, _, rfl, rfl, rfl⟩
  · try simp only [decide_eq_true_eq, decide_eq_false_iff_not, Bool.not_eq_true', Bool.not_eq_false', Bool.not_true, Bool.not_false, Bool.not_not, ne_eq, Decidable.not_not, Int.not_lt, Int.not_le, gt_iff_lt, ge_iff_le, bool_true_eq_, bool_false_eq_] at h1
    refine GC.skip (?_ : GC _ _ _ _)
    refine GC.seq' ?_
    refine GC.region ?_
    refine GL.step rfl (t_mem rfl (m_loadN (i := 1) rfl rfl ag_34 (vs := [_, _]) sz_34 ⟨rfl, rfl, trivial⟩)) ?_
    refine GL.step rfl (t_storeN (i := 0) rfl rfl rfl sz_34 rfl rfl rfl) ?_
    refine GL.nil (?_ : GC _ _ _ _)
    refine GC.ret ?_
    refine fun a w h => Fin.back (rs := [.cell 2 34]) (vs := [_]) (is := []) (js := [0]) rfl ⟨⟨0, _, _, _, _, rfl, rfl, .inr ⟨[_, _], rfl, ag_34, sz_34, ⟨rfl, rfl, trivial⟩⟩⟩, trivial⟩ rfl rfl ?_ h
    clear h
    rw [List.take_of_length_le (by omega)]; exact ⟨_, _, rfl, rfl, rfl⟩
theorem sameN_ct (A : Option Addr) (l : List Int) (cp : Nat) (B : Option Addr) (cq : Nat) (hl : l.length ≤ 140737488355328) : Ct Try.prog 9 [.slice A l.length cp, .slice B l.length cq] [] [Pers.row kI A l, Pers.row kI B l] (fun u G Q => u = .bool true ∧ G = [] ∧ Q = []) := by
  refine Ct.intro Try.func9 rfl rfl rfl (fun c hc => ?_)
  refine GC.seq' ?_
  refine GC.region ?_
  refine GL.pure rfl (p_assign rfl) ?_
  refine GL.nil (?_ : GC _ _ _ _)
  refine GC.seq' ?_
  refine GC.seq' ?_
  refine GC.region ?_
  refine GL.pure rfl (p_move rfl) ?_
  refine GL.pure rfl (p_len Try.underlying22 rfl) ?_
  refine GL.pure rfl (p_move rfl) ?_
  refine GL.pure rfl (p_len Try.underlying22 rfl) ?_
  refine GL.pure rfl (p_neq rfl rfl) ?_
  refine GL.nil (?_ : GC _ _ _ _)
  refine GC.cond rfl (fun h1 => ?_) (fun h1 => ?_)
  · try simp only [decide_eq_true_eq, decide_eq_false_iff_not, Bool.not_eq_true', Bool.not_eq_false', Bool.not_true, Bool.not_false, Bool.not_not, ne_eq, Decidable.not_not, Int.not_lt, Int.not_le, gt_iff_lt, ge_iff_le, bool_true_eq_, bool_false_eq_] at h1
    first
    | (exfalso; first | omega | (simp at h1; done))
    | (skip
       refine GC.seq' ?_
       refine GC.region ?_
       refine GL.pure rfl (p_assign rfl) ?_
       refine GL.nil (?_ : GC _ _ _ _)
       refine GC.ret ?_
       refine fun a w h => Fin.back (rs := [.tmp 4]) (vs := [_]) (is := []) (js := []) rfl ⟨rfl, trivial⟩ rfl rfl ?_ h
       clear h
       exact ⟨rfl, rfl, rfl⟩)
  · try simp only [decide_eq_true_eq, decide_eq_false_iff_not, Bool.not_eq_true', Bool.not_eq_false', Bool.not_true, Bool.not_false, Bool.not_not, ne_eq, Decidable.not_not, Int.not_lt, Int.not_le, gt_iff_lt, ge_iff_le, bool_true_eq_, bool_false_eq_] at h1
    first
    | (exfalso; first | omega | (simp at h1; done))
    | (skip
       refine GC.skip (?_ : GC _ _ _ _)
       refine GC.seq' ?_
       refine GC.seq' ?_
       refine GC.region ?_
       refine GL.pure rfl (p_assign rfl) ?_
       refine GL.nil (?_ : GC _ _ _ _)
       refine GC.block ?_
       refine GC.loopK1 (ks := [0, 1]) (is := []) (js := [0, 1]) (fun (k : Nat) => k ≤ l.length) (fun (k : Nat) => [(5, .int .i64 (k : Int))]) (fun (k : Nat) => []) (fun (k : Nat) => []) (fun (k : Nat) => l.length - k) (0) rfl rfl rfl (fun a w h => ⟨by omega, h.cutK (is := []) (js := [0, 1]) (ks := [0, 1]) ⟨rfl, trivial⟩ rfl rfl rfl⟩) ?_
       intro k hk
       try dsimp only [List.cons_append, List.nil_append] at hk ⊢
       refine GC.seq' ?_
       refine GC.seq' ?_
       refine GC.region ?_
       refine GL.pure rfl (p_move rfl) ?_
       refine GL.pure rfl (p_move rfl) ?_
       refine GL.pure rfl (p_len Try.underlying22 rfl) ?_
       refine GL.pure rfl (p_lss rfl rfl) ?_
       refine GL.nil (?_ : GC _ _ _ _)
       refine GC.cond rfl (fun h2 => ?_) (fun h2 => ?_)
       · try simp only [decide_eq_true_eq, decide_eq_false_iff_not, Bool.not_eq_true', Bool.not_eq_false', Bool.not_true, Bool.not_false, Bool.not_not, ne_eq, Decidable.not_not, Int.not_lt, Int.not_le, gt_iff_lt, ge_iff_le, bool_true_eq_, bool_false_eq_] at h2
         first
         | (exfalso; first | omega | (simp at h2; done))
         | (skip
            refine GC.skip (?_ : GC _ _ _ _)
            refine GC.seq' ?_
            refine GC.block ?_
            refine GC.seq' ?_
            refine GC.layQ (y := .tmp 5) (j := 0) rfl rfl (by omega) (gt_ok (by omega) (by omega)) (fun p_x19 r_x19 hA_x19 ok_x19 => ?_)
            rcases r_x19 with _
            refine GC.layQ (y := .tmp 5) (j := 2) rfl rfl (by omega) (gt_ok (by omega) (by omega)) (fun p_x23 r_x23 hA_x23 ok_x23 => ?_)
            rcases r_x23 with _
            refine GC.regionQ wide_ (by kernel_rfl) ?_
            refine GQ.step rfl (q_pure (p_move rfl)) ?_
            refine GQ.step rfl (q_pure (p_move rfl)) ?_
            refine GQ.step rfl (q_pure (p_indexL hA_x19 rfl rfl Try.underlying22 sz_3 (by omega) (by omega))) ?_
            refine GQ.step rfl (q_mem (m_loadP (i := 1) rfl rfl ag_3 rfl)) ?_
            refine GQ.step rfl (q_pure (p_move rfl)) ?_
            refine GQ.step rfl (q_pure (p_move rfl)) ?_
            refine GQ.step rfl (q_pure (p_indexL hA_x23 rfl rfl Try.underlying22 sz_3 (by omega) (by omega))) ?_
            refine GQ.step rfl (q_mem (m_loadP (i := 0) rfl rfl ag_3 rfl)) ?_
            refine GQ.step rfl (q_pure (p_neq rfl rfl)) ?_
            refine GQ.nil (?_ : GC _ _ _ _)
            refine GC.cond rfl (fun h3 => ?_) (fun h3 => ?_)
            · try simp only [decide_eq_true_eq, decide_eq_false_iff_not, Bool.not_eq_true', Bool.not_eq_false', Bool.not_true, Bool.not_false, Bool.not_not, ne_eq, Decidable.not_not, Int.not_lt, Int.not_le, gt_iff_lt, ge_iff_le, bool_true_eq_, bool_false_eq_] at h3
              first
              | (exfalso; first | omega | (simp at h3; done))
              | (skip
                 refine GC.seq' ?_
                 refine GC.region ?_
                 refine GL.pure rfl (p_assign rfl) ?_
                 refine GL.nil (?_ : GC _ _ _ _)
                 refine GC.ret ?_
                 refine fun a w h => Fin.back (rs := [.tmp 4]) (vs := [_]) (is := []) (js := []) rfl ⟨rfl, trivial⟩ rfl rfl ?_ h
                 clear h
                 exact ⟨rfl, rfl, rfl⟩)
            · try simp only [decide_eq_true_eq, decide_eq_false_iff_not, Bool.not_eq_true', Bool.not_eq_false', Bool.not_true, Bool.not_false, Bool.not_not, ne_eq, Decidable.not_not, Int.not_lt, Int.not_le, gt_iff_lt, ge_iff_le, bool_true_eq_, bool_false_eq_] at h3
              first
              | (exfalso; first | omega | (simp at h3; done))
              | (skip
                 refine GC.skip (?_ : GC _ _ _ _)
                 refine GC.region ?_
                 refine GL.pure rfl (p_move rfl) ?_
                 refine GL.pure rfl (p_add rfl rfl (w64 (by omega) (by omega))) ?_
                 refine GL.pure rfl (p_assign rfl) ?_
                 refine GL.nil ?_
                 exact fun a w h => ⟨(k + 1), (by omega), by omega, h.cut (is := []) (js := [2, 3]) ⟨rfl, rfl, rfl, trivial⟩ rfl rfl⟩))
       · try simp only [decide_eq_true_eq, decide_eq_false_iff_not, Bool.not_eq_true', Bool.not_eq_false', Bool.not_true, Bool.not_false, Bool.not_not, ne_eq, Decidable.not_not, Int.not_lt, Int.not_le, gt_iff_lt, ge_iff_le, bool_true_eq_, bool_false_eq_] at h2
         first
         | (exfalso; first | omega | (simp at h2; done))
         | (skip
            refine GC.exit (?_ : GC _ _ _ _)
            refine GC.seq' ?_
            refine GC.region ?_
            refine GL.pure rfl (p_assign rfl) ?_
            refine GL.nil (?_ : GC _ _ _ _)
            refine GC.ret ?_
            refine fun a w h => Fin.back (rs := [.tmp 4]) (vs := [_]) (is := []) (js := []) rfl ⟨rfl, trivial⟩ rfl rfl ?_ h
            clear h
            exact ⟨rfl, rfl, rfl⟩))
theorem sameA_ct (A : Option Addr) (l : List Ack) (cp : Nat) (B : Option Addr) (cq : Nat) (hl : l.length ≤ 140737488355328) : Ct Try.prog 12 [.slice A l.length cp, .slice B l.length cq] [] [Pers.row kAck A l, Pers.row kAck B l] (fun u G Q => u = .bool true ∧ G = [] ∧ Q = []) := by
  refine Ct.intro Try.func12 rfl rfl rfl (fun c hc => ?_)
  refine GC.seq' ?_
  refine GC.region ?_
  refine GL.pure rfl (p_assign rfl) ?_
  refine GL.nil (?_ : GC _ _ _ _)
  refine GC.seq' ?_
  refine GC.seq' ?_
  refine GC.region ?_
  refine GL.pure rfl (p_move rfl) ?_
  refine GL.pure rfl (p_len Try.underlying23 rfl) ?_
  refine GL.pure rfl (p_move rfl) ?_
  refine GL.pure rfl (p_len Try.underlying23 rfl) ?_
  refine GL.pure rfl (p_neq rfl rfl) ?_
  refine GL.nil (?_ : GC _ _ _ _)
  refine GC.cond rfl (fun h1 => ?_) (fun h1 => ?_)
  · try simp only [decide_eq_true_eq, decide_eq_false_iff_not, Bool.not_eq_true', Bool.not_eq_false', Bool.not_true, Bool.not_false, Bool.not_not, ne_eq, Decidable.not_not, Int.not_lt, Int.not_le, gt_iff_lt, ge_iff_le, bool_true_eq_, bool_false_eq_] at h1
    first
    | (exfalso; first | omega | (simp at h1; done))
    | (skip
       refine GC.seq' ?_
       refine GC.region ?_
       refine GL.pure rfl (p_assign rfl) ?_
       refine GL.nil (?_ : GC _ _ _ _)
       refine GC.ret ?_
       refine fun a w h => Fin.back (rs := [.tmp 4]) (vs := [_]) (is := []) (js := []) rfl ⟨rfl, trivial⟩ rfl rfl ?_ h
       clear h
       exact ⟨rfl, rfl, rfl⟩)
  · try simp only [decide_eq_true_eq, decide_eq_false_iff_not, Bool.not_eq_true', Bool.not_eq_false', Bool.not_true, Bool.not_false, Bool.not_not, ne_eq, Decidable.not_not, Int.not_lt, Int.not_le, gt_iff_lt, ge_iff_le, bool_true_eq_, bool_false_eq_] at h1
    first
    | (exfalso; first | omega | (simp at h1; done))
    | (skip
       refine GC.skip (?_ : GC _ _ _ _)
       refine GC.seq' ?_
       refine GC.seq' ?_
       refine GC.region ?_
       refine GL.pure rfl (p_assign rfl) ?_
       refine GL.nil (?_ : GC _ _ _ _)
       refine GC.block ?_
       refine GC.loopK1 (ks := [0, 1]) (is := []) (js := [0, 1]) (fun (k : Nat) => k ≤ l.length) (fun (k : Nat) => [(5, .int .i64 (k : Int))]) (fun (k : Nat) => []) (fun (k : Nat) => []) (fun (k : Nat) => l.length - k) (0) rfl rfl rfl (fun a w h => ⟨by omega, h.cutK (is := []) (js := [0, 1]) (ks := [0, 1]) ⟨rfl, trivial⟩ rfl rfl rfl⟩) ?_
       intro k hk
       try dsimp only [List.cons_append, List.nil_append] at hk ⊢
       refine GC.seq' ?_
       refine GC.seq' ?_
       refine GC.region ?_
       refine GL.pure rfl (p_move rfl) ?_
       refine GL.pure rfl (p_move rfl) ?_
       refine GL.pure rfl (p_len Try.underlying23 rfl) ?_
       refine GL.pure rfl (p_lss rfl rfl) ?_
       refine GL.nil (?_ : GC _ _ _ _)
       refine GC.cond rfl (fun h2 => ?_) (fun h2 => ?_)
       · try simp only [decide_eq_true_eq, decide_eq_false_iff_not, Bool.not_eq_true', Bool.not_eq_false', Bool.not_true, Bool.not_false, Bool.not_not, ne_eq, Decidable.not_not, Int.not_lt, Int.not_le, gt_iff_lt, ge_iff_le, bool_true_eq_, bool_false_eq_] at h2
         first
         | (exfalso; first | omega | (simp at h2; done))
         | (skip
            refine GC.skip (?_ : GC _ _ _ _)
            refine GC.seq' ?_
            refine GC.block ?_
            refine GC.seq' ?_
            refine GC.layQ (y := .tmp 5) (j := 0) rfl rfl (by omega) (gt_ok (by omega) (by omega)) (fun p_x19 r_x19 hA_x19 ok_x19 => ?_)
            rcases r_x19 with ⟨_, _⟩
            refine GC.layQ (y := .tmp 5) (j := 2) rfl rfl (by omega) (gt_ok (by omega) (by omega)) (fun p_x23 r_x23 hA_x23 ok_x23 => ?_)
            rcases r_x23 with ⟨_, _⟩
            refine GC.regionQ wide_ (by kernel_rfl) ?_
            refine GQ.step rfl (q_pure (p_move rfl)) ?_
            refine GQ.step rfl (q_pure (p_move rfl)) ?_
            refine GQ.step rfl (q_pure (p_indexL hA_x19 rfl rfl Try.underlying23 sz_44 (by omega) (by omega))) ?_
            refine GQ.step rfl (q_mem (m_loadPN (i := 1) rfl rfl ag_44 (vs := [_, _]) sz_44 ⟨rfl, rfl, trivial⟩)) ?_
            refine GQ.step rfl (q_pure (p_move rfl)) ?_
            refine GQ.step rfl (q_pure (p_move rfl)) ?_
            refine GQ.step rfl (q_pure (p_indexL hA_x23 rfl rfl Try.underlying23 sz_44 (by omega) (by omega))) ?_
            refine GQ.step rfl (q_mem (m_loadPN (i := 0) rfl rfl ag_44 (vs := [_, _]) sz_44 ⟨rfl, rfl, trivial⟩)) ?_
            refine GQ.step rfl (q_pure (p_ackNeq rfl rfl)) ?_
            refine GQ.nil (?_ : GC _ _ _ _)
            refine GC.cond rfl (fun h3 => ?_) (fun h3 => ?_)
            · try simp only [decide_eq_true_eq, decide_eq_false_iff_not, Bool.not_eq_true', Bool.not_eq_false', Bool.not_true, Bool.not_false, Bool.not_not, ne_eq, Decidable.not_not, Int.not_lt, Int.not_le, gt_iff_lt, ge_iff_le, bool_true_eq_, bool_false_eq_] at h3
              first
              | (exfalso; first | omega | (simp at h3; done))
              | (skip
                 refine GC.seq' ?_
                 refine GC.region ?_
                 refine GL.pure rfl (p_assign rfl) ?_
                 refine GL.nil (?_ : GC _ _ _ _)
                 refine GC.ret ?_
                 refine fun a w h => Fin.back (rs := [.tmp 4]) (vs := [_]) (is := []) (js := []) rfl ⟨rfl, trivial⟩ rfl rfl ?_ h
                 clear h
                 exact ⟨rfl, rfl, rfl⟩)
            · try simp only [decide_eq_true_eq, decide_eq_false_iff_not, Bool.not_eq_true', Bool.not_eq_false', Bool.not_true, Bool.not_false, Bool.not_not, ne_eq, Decidable.not_not, Int.not_lt, Int.not_le, gt_iff_lt, ge_iff_le, bool_true_eq_, bool_false_eq_] at h3
              first
              | (exfalso; first | omega | (simp at h3; done))
              | (skip
                 refine GC.skip (?_ : GC _ _ _ _)
                 refine GC.region ?_
                 refine GL.pure rfl (p_move rfl) ?_
                 refine GL.pure rfl (p_add rfl rfl (w64 (by omega) (by omega))) ?_
                 refine GL.pure rfl (p_assign rfl) ?_
                 refine GL.nil ?_
                 exact fun a w h => ⟨(k + 1), (by omega), by omega, h.cut (is := []) (js := [2, 3]) ⟨rfl, rfl, rfl, trivial⟩ rfl rfl⟩))
       · try simp only [decide_eq_true_eq, decide_eq_false_iff_not, Bool.not_eq_true', Bool.not_eq_false', Bool.not_true, Bool.not_false, Bool.not_not, ne_eq, Decidable.not_not, Int.not_lt, Int.not_le, gt_iff_lt, ge_iff_le, bool_true_eq_, bool_false_eq_] at h2
         first
         | (exfalso; first | omega | (simp at h2; done))
         | (skip
            refine GC.exit (?_ : GC _ _ _ _)
            refine GC.seq' ?_
            refine GC.region ?_
            refine GL.pure rfl (p_assign rfl) ?_
            refine GL.nil (?_ : GC _ _ _ _)
            refine GC.ret ?_
            refine fun a w h => Fin.back (rs := [.tmp 4]) (vs := [_]) (is := []) (js := []) rfl ⟨rfl, trivial⟩ rfl rfl ?_ h
            clear h
            exact ⟨rfl, rfl, rfl⟩))
end Go.Proofs.Ytmjfkjajedhciaa
