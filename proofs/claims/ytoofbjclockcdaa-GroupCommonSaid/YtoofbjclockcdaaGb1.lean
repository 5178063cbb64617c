/- ROWS OF NUMBERS: contracts of the library's functions over them; groups that may be. -/
import Derived.Test.YtoofbjclockcdaaSxt
import Derived.Test.YtoofbjclockcdaaSxR
import Derived.Test.YtoofbjclockcdaaSx17
set_option linter.unusedVariables false
set_option linter.unusedSimpArgs false
set_option maxRecDepth 100000
namespace Go.Proofs.Ytoofbjclockcdaa
open Go Go.Sx Go.Proofs
abbrev kI : Kd Int := Kd.int .i64
abbrev iv (x : Int) : Value := Value.int .i64 x
theorem gt_memI {α : Type} [Inhabited α] {l : List α} {k : Nat} (h : k < l.length) : gt l (k : Int) ∈ l := by
  have := gt_ok (xs := l) (i := (k : Int)) (by omega) (by omega)
  exact List.mem_of_getElem? this
theorem mem_gt {α : Type} [Inhabited α] {l : List α} {x : α} (h : x ∈ l) : ∃ k : Nat, k < l.length ∧ gt l (k : Int) = x := by
  obtain ⟨k, hk, rfl⟩ := List.getElem_of_mem h
  have g := gt_ok (xs := l) (i := (k : Int)) (by omega) (by omega)
  simp only [Int.toNat_natCast, List.getElem?_eq_getElem hk, Option.some.injEq] at g
  exact ⟨k, hk, g.symm⟩
theorem not_mem_gt {α : Type} [Inhabited α] {l : List α} {x : α} (h : ∀ j : Nat, j < l.length → gt l (j : Int) ≠ x) : x ∉ l := fun hm => by
  obtain ⟨k, hk, e⟩ := mem_gt hm
  exact h k hk e
theorem take_gtI {α : Type} [Inhabited α] {l : List α} {k : Nat} (h : k < l.length) : l.take (k + 1) = l.take k ++ [gt l (k : Int)] := by
  have := gt_ok (xs := l) (i := (k : Int)) (by omega) (by omega)
  simp only [Int.toNat_natCast] at this
  rw [List.take_add_one, this]; rfl
theorem ext_gtI {α : Type} [Inhabited α] {a b : List α} (hl : a.length = b.length) (h : ∀ j : Nat, j < a.length → gt a (j : Int) = gt b (j : Int)) : a = b := by
  apply List.ext_getElem hl
  intro i h1 h2
  have g1 := gt_ok (xs := a) (i := (i : Int)) (by omega) (by omega)
  have g2 := gt_ok (xs := b) (i := (i : Int)) (by omega) (by omega)
  simp only [Int.toNat_natCast, List.getElem?_eq_getElem h1, List.getElem?_eq_getElem h2, Option.some.injEq] at g1 g2
  rw [g1, g2, h i h1]
theorem index_i (A : Option Addr) (l : List Int) (cp : Nat) (x : Int) (hl : l.length ≤ 140737488355328) : Ct Try.prog 40 [.slice A l.length cp, .int .i64 x] [] [Pers.row kI A l] (fun u G Q => ∃ i : Int, ((i = -1 ∧ x ∉ l) ∨ (0 ≤ i ∧ x ∈ l)) ∧ u = .int .i64 i ∧ G = [] ∧ Q = []) := by
  refine Ct.intro Try.func40 rfl rfl rfl (fun c hc => ?_)
  refine GC.seq' ?_
  refine GC.region ?_
  refine GL.pure rfl (p_assign rfl) ?_
  refine GL.nil (?_ : GC _ _ _ _)
  refine GC.seq' ?_
  refine GC.seq' ?_
  refine GC.region ?_
  refine GL.pure rfl (p_move rfl) ?_
  refine GL.pure rfl (p_len Try.underlying22 rfl) ?_
  refine GL.pure rfl (p_move rfl) ?_
  refine GL.nil (?_ : GC _ _ _ _)
  refine GC.block ?_
  refine GC.loopK1 (ks := [0, 1, 7]) (is := []) (js := [0]) (fun (k : Nat) => k ≤ l.length ∧ ∀ j : Nat, j < k → gt l (j : Int) ≠ x) (fun (k : Nat) => [(8, .int .i64 (k : Int))]) (fun (k : Nat) => []) (fun (k : Nat) => []) (fun (k : Nat) => l.length - k) (0) rfl rfl rfl (fun a w h => ⟨⟨by omega, fun j hj => by omega⟩, h.cutK (is := []) (js := [0]) (ks := [0, 1, 7]) ⟨rfl, trivial⟩ rfl rfl rfl⟩) ?_
  intro k hk
  try dsimp only [List.cons_append, List.nil_append] at hk ⊢
  obtain ⟨hk, hn⟩ := hk
  refine GC.seq' ?_
  refine GC.region ?_
  refine GL.pure rfl (p_lss rfl rfl) ?_
  refine GL.nil (?_ : GC _ _ _ _)
  refine GC.seq' ?_
  refine GC.cond rfl (fun h1 => ?_) (fun h1 => ?_)
  · try simp only [decide_eq_true_eq, decide_eq_false_iff_not, Bool.not_eq_true', Bool.not_eq_false', Bool.not_true, Bool.not_false, Bool.not_not, ne_eq, Decidable.not_not, Int.not_lt, Int.not_le, gt_iff_lt, ge_iff_le, bool_true_eq_, bool_false_eq_] at h1
    refine GC.skip (?_ : GC _ _ _ _)
    refine GC.seq' ?_
    refine GC.block ?_
    refine GC.seq' ?_
    refine GC.region ?_
    refine GL.pure rfl (p_move rfl) ?_
    refine GL.pure rfl (p_assign rfl) ?_
    refine GL.nil (?_ : GC _ _ _ _)
    refine GC.seq' ?_
    refine GC.region ?_
    refine GL.pure rfl (p_move rfl) ?_
    refine GL.pure rfl (p_move rfl) ?_
    refine GL.pure rfl (p_move rfl) ?_
    refine GL.step rfl (t_index (i := 0) rfl rfl rfl rfl Try.underlying22 sz_3 (by omega) (gt_ok (by omega) (by omega))) (GL.ex fun p_x14 => GL.ex fun r_x14 => GL.and fun ok_x14 => ?_)
    rcases r_x14 with _
    refine GL.step rfl (t_mem rfl (m_loadP (i := 0) rfl rfl ag_3 rfl)) ?_
    refine GL.pure rfl (p_eql rfl rfl) ?_
    refine GL.nil (?_ : GC _ _ _ _)
    refine GC.cond rfl (fun h2 => ?_) (fun h2 => ?_)
    · try simp only [decide_eq_true_eq, decide_eq_false_iff_not, Bool.not_eq_true', Bool.not_eq_false', Bool.not_true, Bool.not_false, Bool.not_not, ne_eq, Decidable.not_not, Int.not_lt, Int.not_le, gt_iff_lt, ge_iff_le, bool_true_eq_, bool_false_eq_] at h2
      refine GC.seq' ?_
      refine GC.region ?_
      refine GL.pure rfl (p_move rfl) ?_
      refine GL.pure rfl (p_assign rfl) ?_
      refine GL.nil (?_ : GC _ _ _ _)
      refine GC.ret ?_
      refine fun a w h => Fin.back (rs := [.tmp 4]) (vs := [_]) (is := []) (js := []) rfl ⟨rfl, trivial⟩ rfl rfl ?_ h
      clear h
      exact ⟨_, .inr ⟨by omega, by have := gt_memI (l := l) (k := k) (by omega); rw [h2]; exact this⟩, rfl, rfl, rfl⟩
    · try simp only [decide_eq_true_eq, decide_eq_false_iff_not, Bool.not_eq_true', Bool.not_eq_false', Bool.not_true, Bool.not_false, Bool.not_not, ne_eq, Decidable.not_not, Int.not_lt, Int.not_le, gt_iff_lt, ge_iff_le, bool_true_eq_, bool_false_eq_] at h2
      refine GC.skip (?_ : GC _ _ _ _)
      refine GC.region ?_
      refine GL.pure rfl (p_add rfl rfl (w64 (by omega) (by omega))) ?_
      refine GL.pure rfl (p_move rfl) ?_
      refine GL.nil ?_
      exact fun a w h => ⟨(k + 1), (by omega), ⟨by omega, fun j hj => (Nat.lt_succ_iff_lt_or_eq.1 hj).elim (hn j) (fun e => by subst e; omega)⟩, h.cut (is := []) (js := [1]) ⟨rfl, rfl, rfl, rfl, trivial⟩ rfl rfl⟩
  · try simp only [decide_eq_true_eq, decide_eq_false_iff_not, Bool.not_eq_true', Bool.not_eq_false', Bool.not_true, Bool.not_false, Bool.not_not, ne_eq, Decidable.not_not, Int.not_lt, Int.not_le, gt_iff_lt, ge_iff_le, bool_true_eq_, bool_false_eq_] at h1
    refine GC.exit (?_ : GC _ _ _ _)
    refine GC.seq' ?_
    refine GC.region ?_
    refine GL.pure rfl (p_assign rfl) ?_
    refine GL.nil (?_ : GC _ _ _ _)
    refine GC.ret ?_
    refine fun a w h => Fin.back (rs := [.tmp 4]) (vs := [_]) (is := []) (js := []) rfl ⟨rfl, trivial⟩ rfl rfl ?_ h
    clear h
    exact ⟨_, .inl ⟨rfl, not_mem_gt fun j hj => hn j (by omega)⟩, rfl, rfl, rfl⟩
theorem contains_i (A : Option Addr) (l : List Int) (cp : Nat) (x : Int) (hl : l.length ≤ 140737488355328) : Ct Try.prog 30 [.slice A l.length cp, .int .i64 x] [] [Pers.row kI A l] (fun u G Q => u = .bool (decide (x ∈ l)) ∧ G = [] ∧ Q = []) := by
  refine Ct.intro Try.func30 rfl rfl rfl (fun c hc => ?_)
  refine GC.seq' ?_
  refine GC.region ?_
  refine GL.pure rfl (p_assign rfl) ?_
  refine GL.nil (?_ : GC _ _ _ _)
  refine GC.seq' ?_
  refine GC.region ?_
  refine GL.pure rfl (p_move rfl) ?_
  refine GL.pure rfl (p_move rfl) ?_
  refine GL.step rfl (t_call rfl fn_40 rfl (is := []) (js := [0]) rfl rfl (by exact index_i _ _ _ _ (by first | assumption | omega))) (GL.ret ?_)
  rintro _ _ _ ⟨i7, hi7, rfl, rfl, rfl⟩
  refine GL.pure rfl (p_geq rfl rfl) ?_
  refine GL.pure rfl (p_assign rfl) ?_
  refine GL.nil (?_ : GC _ _ _ _)
  refine GC.ret ?_
  refine fun a w h => Fin.back (rs := [.tmp 4]) (vs := [_]) (is := []) (js := []) rfl ⟨rfl, trivial⟩ rfl rfl ?_ h
  clear h
  refine ⟨congrArg Value.bool ?_, rfl, rfl⟩
  rcases hi7 with ⟨g1, g2⟩ | ⟨g1, g2⟩
  · rw [decide_eq_false g2, decide_eq_false (by omega)]
  · rw [decide_eq_true g2, decide_eq_true (by omega)]
theorem equal_i (A : Option Addr) (x : List Int) (cp : Nat) (B : Option Addr) (y : List Int) (cq : Nat) (hl : x.length ≤ 140737488355328) : Ct Try.prog 36 [.slice A x.length cp, .slice B y.length cq] [] [Pers.row kI A x, Pers.row kI B y] (fun u G Q => u = .bool (decide (x = y)) ∧ G = [] ∧ Q = []) := by
  refine Ct.intro Try.func36 rfl rfl rfl (fun c hc => ?_)
  refine GC.seq' ?_
  refine GC.region ?_
  refine GL.pure rfl (p_assign rfl) ?_
  refine GL.nil (?_ : GC _ _ _ _)
  refine GC.seq' ?_
  refine GC.seq' ?_
  refine GC.region ?_
  refine GL.pure rfl (p_move rfl) ?_
  refine GL.pure rfl (p_len Try.underlying22 rfl) ?_
  refine GL.pure rfl (p_move rfl) ?_
  refine GL.pure rfl (p_len Try.underlying22 rfl) ?_
  refine GL.pure rfl (p_neq rfl rfl) ?_
  refine GL.nil (?_ : GC _ _ _ _)
  refine GC.cond rfl (fun h1 => ?_) (fun h1 => ?_)
  · try simp only [decide_eq_true_eq, decide_eq_false_iff_not, Bool.not_eq_true', Bool.not_eq_false', Bool.not_true, Bool.not_false, Bool.not_not, ne_eq, Decidable.not_not, Int.not_lt, Int.not_le, gt_iff_lt, ge_iff_le, bool_true_eq_, bool_false_eq_] at h1
    refine GC.seq' ?_
    refine GC.region ?_
    refine GL.pure rfl (p_assign rfl) ?_
    refine GL.nil (?_ : GC _ _ _ _)
    refine GC.ret ?_
    refine fun a w h => Fin.back (rs := [.tmp 4]) (vs := [_]) (is := []) (js := []) rfl ⟨rfl, trivial⟩ rfl rfl ?_ h
    clear h
    exact ⟨congrArg Value.bool (decide_eq_false fun e => by subst e; omega).symm, rfl, rfl⟩
  · try simp only [decide_eq_true_eq, decide_eq_false_iff_not, Bool.not_eq_true', Bool.not_eq_false', Bool.not_true, Bool.not_false, Bool.not_not, ne_eq, Decidable.not_not, Int.not_lt, Int.not_le, gt_iff_lt, ge_iff_le, bool_true_eq_, bool_false_eq_] at h1
    refine GC.skip (?_ : GC _ _ _ _)
    refine GC.seq' ?_
    refine GC.seq' ?_
    refine GC.region ?_
    refine GL.pure rfl (p_move rfl) ?_
    refine GL.pure rfl (p_len Try.underlying22 rfl) ?_
    refine GL.pure rfl (p_move rfl) ?_
    refine GL.nil (?_ : GC _ _ _ _)
    refine GC.block ?_
    refine GC.loopK1 (ks := [0, 1, 12]) (is := []) (js := [0, 1]) (fun (k : Nat) => k ≤ x.length ∧ ∀ j : Nat, j < k → gt x (j : Int) = gt y (j : Int)) (fun (k : Nat) => [(13, .int .i64 (k : Int))]) (fun (k : Nat) => []) (fun (k : Nat) => []) (fun (k : Nat) => x.length - k) (0) rfl rfl rfl (fun a w h => ⟨⟨by omega, fun j hj => by omega⟩, h.cutK (is := []) (js := [0, 1]) (ks := [0, 1, 12]) ⟨rfl, trivial⟩ rfl rfl rfl⟩) ?_
    intro k hk
    try dsimp only [List.cons_append, List.nil_append] at hk ⊢
    obtain ⟨hk, he⟩ := hk
    refine GC.seq' ?_
    refine GC.region ?_
    refine GL.pure rfl (p_lss rfl rfl) ?_
    refine GL.nil (?_ : GC _ _ _ _)
    refine GC.seq' ?_
    refine GC.cond rfl (fun h2 => ?_) (fun h2 => ?_)
    · try simp only [decide_eq_true_eq, decide_eq_false_iff_not, Bool.not_eq_true', Bool.not_eq_false', Bool.not_true, Bool.not_false, Bool.not_not, ne_eq, Decidable.not_not, Int.not_lt, Int.not_le, gt_iff_lt, ge_iff_le, bool_true_eq_, bool_false_eq_] at h2
      refine GC.skip (?_ : GC _ _ _ _)
      refine GC.seq' ?_
      refine GC.block ?_
      refine GC.seq' ?_
      refine GC.region ?_
      refine GL.pure rfl (p_move rfl) ?_
      refine GL.pure rfl (p_assign rfl) ?_
      refine GL.nil (?_ : GC _ _ _ _)
      refine GC.seq' ?_
      refine GC.layQ (y := .tmp 5) (j := 0) rfl rfl (by omega) (gt_ok (by omega) (by omega)) (fun p_x18 r_x18 hA_x18 ok_x18 => ?_)
      rcases r_x18 with _
      refine GC.layQ (y := .tmp 5) (j := 2) rfl rfl (by omega) (gt_ok (by omega) (by omega)) (fun p_x22 r_x22 hA_x22 ok_x22 => ?_)
      rcases r_x22 with _
      refine GC.regionQ wide_ (by kernel_rfl) ?_
      refine GQ.step rfl (q_pure (p_move rfl)) ?_
      refine GQ.step rfl (q_pure (p_move rfl)) ?_
      refine GQ.step rfl (q_pure (p_indexL hA_x18 rfl rfl Try.underlying22 sz_3 (by omega) (by omega))) ?_
      refine GQ.step rfl (q_mem (m_loadP (i := 1) rfl rfl ag_3 rfl)) ?_
      refine GQ.step rfl (q_pure (p_move rfl)) ?_
      refine GQ.step rfl (q_pure (p_move rfl)) ?_
      refine GQ.step rfl (q_pure (p_indexL hA_x22 rfl rfl Try.underlying22 sz_3 (by omega) (by omega))) ?_
      refine GQ.step rfl (q_mem (m_loadP (i := 0) rfl rfl ag_3 rfl)) ?_
      refine GQ.step rfl (q_pure (p_neq rfl rfl)) ?_
      refine GQ.nil (?_ : GC _ _ _ _)
      refine GC.cond rfl (fun h3 => ?_) (fun h3 => ?_)
      · try simp only [decide_eq_true_eq, decide_eq_false_iff_not, Bool.not_eq_true', Bool.not_eq_false', Bool.not_true, Bool.not_false, Bool.not_not, ne_eq, Decidable.not_not, Int.not_lt, Int.not_le, gt_iff_lt, ge_iff_le, bool_true_eq_, bool_false_eq_] at h3
        refine GC.seq' ?_
        refine GC.region ?_
        refine GL.pure rfl (p_assign rfl) ?_
        refine GL.nil (?_ : GC _ _ _ _)
        refine GC.ret ?_
        refine fun a w h => Fin.back (rs := [.tmp 4]) (vs := [_]) (is := []) (js := []) rfl ⟨rfl, trivial⟩ rfl rfl ?_ h
        clear h
        exact ⟨congrArg Value.bool (decide_eq_false (fun e => by subst e; omega)).symm, rfl, rfl⟩
      · try simp only [decide_eq_true_eq, decide_eq_false_iff_not, Bool.not_eq_true', Bool.not_eq_false', Bool.not_true, Bool.not_false, Bool.not_not, ne_eq, Decidable.not_not, Int.not_lt, Int.not_le, gt_iff_lt, ge_iff_le, bool_true_eq_, bool_false_eq_] at h3
        refine GC.skip (?_ : GC _ _ _ _)
        refine GC.region ?_
        refine GL.pure rfl (p_add rfl rfl (w64 (by omega) (by omega))) ?_
        refine GL.pure rfl (p_move rfl) ?_
        refine GL.nil ?_
        exact fun a w h => ⟨(k + 1), (by omega), ⟨by omega, fun j hj => (Nat.lt_succ_iff_lt_or_eq.1 hj).elim (he j) (fun e => by subst e; omega)⟩, h.cut (is := []) (js := [2, 3]) ⟨rfl, rfl, rfl, rfl, trivial⟩ rfl rfl⟩
    · try simp only [decide_eq_true_eq, decide_eq_false_iff_not, Bool.not_eq_true', Bool.not_eq_false', Bool.not_true, Bool.not_false, Bool.not_not, ne_eq, Decidable.not_not, Int.not_lt, Int.not_le, gt_iff_lt, ge_iff_le, bool_true_eq_, bool_false_eq_] at h2
      refine GC.exit (?_ : GC _ _ _ _)
      refine GC.seq' ?_
      refine GC.region ?_
      refine GL.pure rfl (p_assign rfl) ?_
      refine GL.nil (?_ : GC _ _ _ _)
      refine GC.ret ?_
      refine fun a w h => Fin.back (rs := [.tmp 4]) (vs := [_]) (is := []) (js := []) rfl ⟨rfl, trivial⟩ rfl rfl ?_ h
      clear h
      exact ⟨congrArg Value.bool (decide_eq_true (ext_gtI (by omega) fun j hj => he j (by omega))).symm, rfl, rfl⟩
theorem clone_i (A : Option Addr) (xs : List Int) (cp : Nat) (hx : xs.length ≤ 17592186044416) : Ct Try.prog 27 [.slice A xs.length cp] [] [Pers.row kI A xs]
    (fun v G Q => ∃ A' cp', xs.length ≤ cp' ∧ cp' ≤ 9223372036854775807 ∧ v = .slice A' xs.length cp' ∧ G = [.row (.slice A' xs.length cp') 3 1 xs.length (xs.map iv)] ∧ Q = []) := by
  cases A with
  | none =>
    refine Ct.pure (fun w S h => row_none (h.per _ (List.mem_singleton.2 rfl))) fun hx0 => ?_
    subst hx0
    refine Ct.intro Try.func27 rfl rfl rfl (fun c hc => ?_)
    refine GC.seq' ?_
    refine GC.region ?_
    refine GL.pure rfl (p_assign rfl) ?_
    refine GL.nil (?_ : GC _ _ _ _)
    refine GC.seq' ?_
    refine GC.seq' ?_
    refine GC.region ?_
    refine GL.pure rfl (p_move rfl) ?_
    refine GL.pure rfl (p_slnil_eql Try.underlying22 rfl rfl) ?_
    refine GL.nil (?_ : GC _ _ _ _)
    refine GC.cond_true rfl ?_
    refine GC.seq' ?_
    refine GC.region ?_
    refine GL.pure rfl (p_assign rfl) ?_
    refine GL.nil (?_ : GC _ _ _ _)
    refine GC.nilrow 3 1 ?_
    refine GC.ret ?_
    refine fun a w h => Fin.back (rs := [.tmp 2]) (vs := [_]) (is := [0]) (js := []) rfl ⟨rfl, trivial⟩ rfl rfl ?_ h
    clear h
    exact ⟨_, _, by simp, by simp, rfl, rfl, rfl⟩
  | some a =>
    refine Ct.intro Try.func27 rfl rfl rfl (fun c hc => ?_)
    refine GC.seq' ?_
    refine GC.region ?_
    refine GL.pure rfl (p_assign rfl) ?_
    refine GL.nil (?_ : GC _ _ _ _)
    refine GC.seq' ?_
    refine GC.seq' ?_
    refine GC.region ?_
    refine GL.pure rfl (p_move rfl) ?_
    refine GL.pure rfl (p_slnil_eql Try.underlying22 rfl rfl) ?_
    refine GL.nil (?_ : GC _ _ _ _)
    refine GC.cond_false rfl ?_
    refine GC.skip (?_ : GC _ _ _ _)
    refine GC.seq' ?_
    refine GC.region ?_
    refine GL.step rfl (t_buildSlice rfl Try.underlying22 sz_3 ze_3 rfl rfl rfl rfl rfl rfl) (GL.ex fun b_t5 => ?_)
    refine GL.pure rfl (p_move rfl) ?_
    refine GL.torow (i := 0) (m := 0) (sz := 1) rfl rfl (by decide) rfl ?_
    refine GL.step rfl (t_appendS (i := 0) (k := 0) rfl el_22 rfl rfl rfl rfl (by simp; omega) (fun _ => rfl)) (GL.ex fun v7 => ?_)
    refine GL.pure rfl (p_assign rfl) ?_
    refine GL.nil (?_ : GC _ _ _ _)
    refine GC.shape (i := 0) rfl (fun A1 c1 e1 l1 l2 => ?_)
    subst e1
    simp only [Nat.zero_add, List.nil_append] at l1 ⊢
    refine GC.ret ?_
    refine fun a w h => Fin.back (rs := [.tmp 2]) (vs := [_]) (is := [0]) (js := []) rfl ⟨rfl, trivial⟩ rfl rfl ?_ h
    clear h
    exact ⟨_, _, l1, l2, rfl, rfl, rfl⟩
/-! ### groups -/
def incI : Int → List Int → Bool
  | _, [] => true
  | b, x :: l => decide (b < x) && decide (x < 64) && incI x l
def groupOk (e : Int) (l : List Int) : Bool := decide (0 ≤ e) && decide (e ≤ 4611686018427387904) && decide (1 ≤ l.length) && decide (l.length ≤ 9) && incI (-1) l
def lastI (l : List Int) : Nat → Int
  | 0 => -1
  | k + 1 => gt l (k : Int)
theorem drop_gtI {α : Type} [Inhabited α] {l : List α} {k : Nat} (h : k < l.length) : l.drop k = gt l (k : Int) :: l.drop (k + 1) := by
  have := gt_ok (xs := l) (i := (k : Int)) (by omega) (by omega)
  simp only [Int.toNat_natCast] at this
  rw [List.drop_eq_getElem_cons h]
  rw [List.getElem?_eq_getElem h] at this
  simp only [Option.some.injEq] at this
  rw [this]
theorem incI_step {l : List Int} {k : Nat} {b : Int} (h : k < l.length) : incI b (l.drop k) = (decide (b < gt l (k : Int)) && decide (gt l (k : Int) < 64) && incI (gt l (k : Int)) (l.drop (k + 1))) := by
  rw [drop_gtI h]; rfl
theorem incI_ok {l : List Int} {k : Nat} {b : Int} (h : k < l.length) (h1 : b < gt l (k : Int)) (h2 : gt l (k : Int) < 64) : incI b (l.drop k) = incI (gt l (k : Int)) (l.drop (k + 1)) := by
  rw [incI_step h, decide_eq_true h1, decide_eq_true h2]; rfl
theorem incI_bad {l : List Int} {k : Nat} {b : Int} (h : k < l.length) (h1 : gt l (k : Int) ≤ b ∨ 64 ≤ gt l (k : Int)) : incI b (l.drop k) = false := by
  rw [incI_step h]
  rcases h1 with h1 | h1
  · rw [decide_eq_false (by omega)]; rfl
  · rw [decide_eq_false (show ¬ gt l (k : Int) < 64 by omega), Bool.and_false, Bool.false_and]
theorem grp_next {x b nb : Bool} {l : List Int} {k : Nat} (hk : k < l.length) (he : x = (b && incI (lastI l k) (l.drop k))) (hb : nb = (b && decide (lastI l k < gt l (k : Int)) && decide (gt l (k : Int) < 64))) : x = (nb && incI (lastI l (k + 1)) (l.drop (k + 1))) := by
  subst hb; rw [he, incI_step hk, lastI, Bool.and_assoc, Bool.and_assoc, Bool.and_assoc]
abbrev grpV (e : Int) (A : Option Addr) (n cp : Nat) : Value := .agg #[.int .i64 e, .slice A n cp]
theorem mgroup_ct (e : Int) (A : Option Addr) (l : List Int) (cp : Nat) (hl : l.length ≤ 140737488355328) : Ct Try.prog 35 [grpV e A l.length cp] [] [Pers.row kI A l] (fun u G Q => u = .int .i64 (if groupOk e l = true then 0 else 71) ∧ G = [] ∧ Q = []) := by
  refine Ct.intro Try.func35 rfl rfl rfl (fun c hc => ?_)
  refine GC.seq' ?_
  refine GC.region ?_
  refine GL.step rfl (t_box rfl rfl rfl) (GL.ex fun b_t1 => ?_)
  refine GL.pure rfl (p_assign rfl) ?_
  refine GL.nil (?_ : GC _ _ _ _)
  refine GC.seq' ?_
  refine GC.region ?_
  refine GL.pure rfl (p_fieldAddr fo_24_0 rfl) ?_
  refine GL.step rfl (t_mem rfl (m_load (i := 0) rfl rfl ag_3 rfl)) ?_
  refine GL.pure rfl (p_geq rfl rfl) ?_
  refine GL.pure rfl (p_move rfl) ?_
  refine GL.split (i := 10) rfl (fun h1 => ?_) (fun h1 => ?_)
  · try simp only [decide_eq_true_eq, decide_eq_false_iff_not, Bool.not_eq_true', Bool.not_eq_false', Bool.not_true, Bool.not_false, Bool.not_not, ne_eq, Decidable.not_not, Int.not_lt, Int.not_le, gt_iff_lt, ge_iff_le, bool_true_eq_, bool_false_eq_] at h1
    refine GL.pureG (s := 10) rfl rfl rfl (p_fieldAddr fo_24_0 rfl) ?_
    refine GL.stepG rfl (s := 10) rfl rfl (t_mem rfl (m_load (i := 0) rfl rfl ag_3 rfl)) ?_
    refine GL.pureG (s := 10) rfl rfl rfl (p_leq rfl rfl) ?_
    refine GL.pure rfl (p_pick_true rfl rfl) ?_
    refine GL.pure rfl (p_move rfl) ?_
    refine GL.split (i := 15) rfl (fun h2 => ?_) (fun h2 => ?_)
    · try simp only [decide_eq_true_eq, decide_eq_false_iff_not, Bool.not_eq_true', Bool.not_eq_false', Bool.not_true, Bool.not_false, Bool.not_not, ne_eq, Decidable.not_not, Int.not_lt, Int.not_le, gt_iff_lt, ge_iff_le, bool_true_eq_, bool_false_eq_] at h2
      refine GL.pureG (s := 15) rfl rfl rfl (p_fieldAddr fo_24_1 rfl) ?_
      refine GL.stepG rfl (s := 15) rfl rfl (t_mem rfl (m_load (i := 0) rfl rfl ag_22 rfl)) ?_
      refine GL.pureG (s := 15) rfl rfl rfl (p_len Try.underlying22 rfl) ?_
      refine GL.pureG (s := 15) rfl rfl rfl (p_gtr rfl rfl) ?_
      refine GL.pure rfl (p_pick_true rfl rfl) ?_
      refine GL.pure rfl (p_move rfl) ?_
      refine GL.split (i := 21) rfl (fun h3 => ?_) (fun h3 => ?_)
      · try simp only [decide_eq_true_eq, decide_eq_false_iff_not, Bool.not_eq_true', Bool.not_eq_false', Bool.not_true, Bool.not_false, Bool.not_not, ne_eq, Decidable.not_not, Int.not_lt, Int.not_le, gt_iff_lt, ge_iff_le, bool_true_eq_, bool_false_eq_] at h3
        refine GL.pureG (s := 21) rfl rfl rfl (p_fieldAddr fo_24_1 rfl) ?_
        refine GL.stepG rfl (s := 21) rfl rfl (t_mem rfl (m_load (i := 0) rfl rfl ag_22 rfl)) ?_
        refine GL.pureG (s := 21) rfl rfl rfl (p_len Try.underlying22 rfl) ?_
        refine GL.pureG (s := 21) rfl rfl rfl (p_leq rfl rfl) ?_
        refine GL.pure rfl (p_pick_true rfl rfl) ?_
        refine GL.pure rfl (p_assign rfl) ?_
        refine GL.nil (?_ : GC _ _ _ _)
        refine GC.seq' ?_
        refine GC.region ?_
        refine GL.pure rfl (p_assign rfl) ?_
        refine GL.nil (?_ : GC _ _ _ _)
        refine GC.seq' ?_
        refine GC.seq' ?_
        refine GC.region ?_
        refine GL.pure rfl (p_fieldAddr fo_24_1 rfl) ?_
        refine GL.step rfl (t_mem rfl (m_load (i := 0) rfl rfl ag_22 rfl)) ?_
        refine GL.pure rfl (p_len Try.underlying22 rfl) ?_
        refine GL.pure rfl (p_move rfl) ?_
        refine GL.nil (?_ : GC _ _ _ _)
        refine GC.block ?_
        refine GC.loopK2 (ks := [28, 29]) (is := [0]) (js := [0]) (fun (k : Nat) (b : Bool) => k ≤ l.length ∧ groupOk e l = (b && incI (lastI l k) (l.drop k))) (fun (k : Nat) (b : Bool) => [(3, .bool b), (4, .int .i64 (lastI l k)), (30, .int .i64 (k : Int))]) (fun (k : Nat) (b : Bool) => []) (fun (k : Nat) (b : Bool) => []) (fun (k : Nat) (b : Bool) => l.length - k) (0) (_) rfl rfl rfl (fun a w h => ⟨⟨by omega, by unfold groupOk; congr 1; rw [Bool.eq_iff_iff]; (try simp) <;> omega⟩, h.cutK (is := [0]) (js := [0]) (ks := [28, 29]) ⟨rfl, rfl, rfl, trivial⟩ rfl rfl rfl⟩) ?_
        intro k b hk
        try dsimp only [List.cons_append, List.nil_append] at hk ⊢
        obtain ⟨hk, he⟩ := hk
        refine GC.seq' ?_
        refine GC.region ?_
        refine GL.pure rfl (p_lss rfl rfl) ?_
        refine GL.nil (?_ : GC _ _ _ _)
        refine GC.seq' ?_
        refine GC.cond rfl (fun h4 => ?_) (fun h4 => ?_)
        · try simp only [decide_eq_true_eq, decide_eq_false_iff_not, Bool.not_eq_true', Bool.not_eq_false', Bool.not_true, Bool.not_false, Bool.not_not, ne_eq, Decidable.not_not, Int.not_lt, Int.not_le, gt_iff_lt, ge_iff_le, bool_true_eq_, bool_false_eq_] at h4
          refine GC.skip (?_ : GC _ _ _ _)
          refine GC.seq' ?_
          refine GC.block ?_
          refine GC.seq' ?_
          refine GC.region ?_
          refine GL.step rfl (t_index (i := 0) rfl rfl rfl rfl Try.underlying22 sz_3 (by omega) (gt_ok (by omega) (by omega))) (GL.ex fun p_x32 => GL.ex fun r_x32 => GL.and fun ok_x32 => ?_)
          rcases r_x32 with _
          refine GL.step rfl (t_mem rfl (m_loadP (i := 0) rfl rfl ag_3 rfl)) ?_
          refine GL.pure rfl (p_assign rfl) ?_
          refine GL.nil (?_ : GC _ _ _ _)
          refine GC.seq' ?_
          refine GC.region ?_
          refine GL.pure rfl (p_move rfl) ?_
          refine GL.pure rfl (p_move rfl) ?_
          refine GL.split (i := 35) rfl (fun h5 => ?_) (fun h5 => ?_)
          · try simp only [decide_eq_true_eq, decide_eq_false_iff_not, Bool.not_eq_true', Bool.not_eq_false', Bool.not_true, Bool.not_false, Bool.not_not, ne_eq, Decidable.not_not, Int.not_lt, Int.not_le, gt_iff_lt, ge_iff_le, bool_true_eq_, bool_false_eq_] at h5
            refine GL.pureG (s := 35) rfl rfl rfl (p_move rfl) ?_
            refine GL.pureG (s := 35) rfl rfl rfl (p_move rfl) ?_
            refine GL.pureG (s := 35) rfl rfl rfl (p_gtr rfl rfl) ?_
            refine GL.pure rfl (p_pick_true rfl rfl) ?_
            refine GL.pure rfl (p_move rfl) ?_
            refine GL.split (i := 40) rfl (fun h6 => ?_) (fun h6 => ?_)
            · try simp only [decide_eq_true_eq, decide_eq_false_iff_not, Bool.not_eq_true', Bool.not_eq_false', Bool.not_true, Bool.not_false, Bool.not_not, ne_eq, Decidable.not_not, Int.not_lt, Int.not_le, gt_iff_lt, ge_iff_le, bool_true_eq_, bool_false_eq_] at h6
              refine GL.pureG (s := 40) rfl rfl rfl (p_move rfl) ?_
              refine GL.pureG (s := 40) rfl rfl rfl (p_lss rfl rfl) ?_
              refine GL.pure rfl (p_pick_true rfl rfl) ?_
              refine GL.pure rfl (p_assign rfl) ?_
              refine GL.nil (?_ : GC _ _ _ _)
              refine GC.region ?_
              refine GL.pure rfl (p_move rfl) ?_
              refine GL.pure rfl (p_assign rfl) ?_
              refine GL.nil (?_ : GC _ _ _ _)
              refine GC.region ?_
              refine GL.pure rfl (p_add rfl rfl (w64 (by omega) (by omega))) ?_
              refine GL.pure rfl (p_move rfl) ?_
              refine GL.nil ?_
              exact fun a w h => ⟨(k + 1), (_), (by omega), ⟨by omega, grp_next (by omega) he (by rw [Bool.eq_iff_iff]; (try simp [*]) <;> omega)⟩, h.cut (is := [0]) (js := [1]) ⟨rfl, rfl, rfl, rfl, rfl, trivial⟩ rfl rfl⟩
            · try simp only [decide_eq_true_eq, decide_eq_false_iff_not, Bool.not_eq_true', Bool.not_eq_false', Bool.not_true, Bool.not_false, Bool.not_not, ne_eq, Decidable.not_not, Int.not_lt, Int.not_le, gt_iff_lt, ge_iff_le, bool_true_eq_, bool_false_eq_] at h6
              refine GL.pass (s := 40) rfl rfl rfl ?_
              refine GL.pass (s := 40) rfl rfl rfl ?_
              refine GL.pure rfl (p_pick_false rfl rfl) ?_
              refine GL.pure rfl (p_assign rfl) ?_
              refine GL.nil (?_ : GC _ _ _ _)
              refine GC.region ?_
              refine GL.pure rfl (p_move rfl) ?_
              refine GL.pure rfl (p_assign rfl) ?_
              refine GL.nil (?_ : GC _ _ _ _)
              refine GC.region ?_
              refine GL.pure rfl (p_add rfl rfl (w64 (by omega) (by omega))) ?_
              refine GL.pure rfl (p_move rfl) ?_
              refine GL.nil ?_
              exact fun a w h => ⟨(k + 1), (_), (by omega), ⟨by omega, grp_next (by omega) he (by rw [Bool.eq_iff_iff]; (try simp [*]) <;> omega)⟩, h.cut (is := [0]) (js := [1]) ⟨rfl, rfl, rfl, rfl, rfl, trivial⟩ rfl rfl⟩
          · try simp only [decide_eq_true_eq, decide_eq_false_iff_not, Bool.not_eq_true', Bool.not_eq_false', Bool.not_true, Bool.not_false, Bool.not_not, ne_eq, Decidable.not_not, Int.not_lt, Int.not_le, gt_iff_lt, ge_iff_le, bool_true_eq_, bool_false_eq_] at h5
            refine GL.pass (s := 35) rfl rfl rfl ?_
            refine GL.pass (s := 35) rfl rfl rfl ?_
            refine GL.pass (s := 35) rfl rfl rfl ?_
            refine GL.pure rfl (p_pick_false rfl rfl) ?_
            refine GL.pure rfl (p_move rfl) ?_
            refine GL.pass (s := 40) rfl rfl rfl ?_
            refine GL.pass (s := 40) rfl rfl rfl ?_
            refine GL.pure rfl (p_pick_false rfl rfl) ?_
            refine GL.pure rfl (p_assign rfl) ?_
            refine GL.nil (?_ : GC _ _ _ _)
            refine GC.region ?_
            refine GL.pure rfl (p_move rfl) ?_
            refine GL.pure rfl (p_assign rfl) ?_
            refine GL.nil (?_ : GC _ _ _ _)
            refine GC.region ?_
            refine GL.pure rfl (p_add rfl rfl (w64 (by omega) (by omega))) ?_
            refine GL.pure rfl (p_move rfl) ?_
            refine GL.nil ?_
            exact fun a w h => ⟨(k + 1), (_), (by omega), ⟨by omega, grp_next (by omega) he (by rw [Bool.eq_iff_iff]; (try simp [*]) <;> omega)⟩, h.cut (is := [0]) (js := [1]) ⟨rfl, rfl, rfl, rfl, rfl, trivial⟩ rfl rfl⟩
        · try simp only [decide_eq_true_eq, decide_eq_false_iff_not, Bool.not_eq_true', Bool.not_eq_false', Bool.not_true, Bool.not_false, Bool.not_not, ne_eq, Decidable.not_not, Int.not_lt, Int.not_le, gt_iff_lt, ge_iff_le, bool_true_eq_, bool_false_eq_] at h4
          refine GC.exit (?_ : GC _ _ _ _)
          refine GC.seq' ?_
          refine GC.seq' ?_
          refine GC.region ?_
          refine GL.pure rfl (p_move rfl) ?_
          refine GL.pure rfl (p_not rfl) ?_
          refine GL.nil (?_ : GC _ _ _ _)
          refine GC.cond rfl (fun h7 => ?_) (fun h7 => ?_)
          · try simp only [decide_eq_true_eq, decide_eq_false_iff_not, Bool.not_eq_true', Bool.not_eq_false', Bool.not_true, Bool.not_false, Bool.not_not, ne_eq, Decidable.not_not, Int.not_lt, Int.not_le, gt_iff_lt, ge_iff_le, bool_true_eq_, bool_false_eq_] at h7
            refine GC.seq' ?_
            refine GC.region ?_
            refine GL.pure rfl (p_assign rfl) ?_
            refine GL.nil (?_ : GC _ _ _ _)
            refine GC.ret ?_
            refine fun a w h => Fin.back (rs := [.tmp 2]) (vs := [_]) (is := []) (js := []) rfl ⟨rfl, trivial⟩ rfl rfl ?_ h
            clear h
            obtain rfl : k = l.length := by omega
            rw [List.drop_of_length_le (Nat.le_refl _)] at he
            refine ⟨congrArg (Value.int .i64) ?_, rfl, rfl⟩
            rw [he]; simp [incI, *]
          · try simp only [decide_eq_true_eq, decide_eq_false_iff_not, Bool.not_eq_true', Bool.not_eq_false', Bool.not_true, Bool.not_false, Bool.not_not, ne_eq, Decidable.not_not, Int.not_lt, Int.not_le, gt_iff_lt, ge_iff_le, bool_true_eq_, bool_false_eq_] at h7
            refine GC.skip (?_ : GC _ _ _ _)
            refine GC.seq' ?_
            refine GC.region ?_
            refine GL.pure rfl (p_assign rfl) ?_
            refine GL.nil (?_ : GC _ _ _ _)
            refine GC.ret ?_
            refine fun a w h => Fin.back (rs := [.tmp 2]) (vs := [_]) (is := []) (js := []) rfl ⟨rfl, trivial⟩ rfl rfl ?_ h
            clear h
            obtain rfl : k = l.length := by omega
            rw [List.drop_of_length_le (Nat.le_refl _)] at he
            refine ⟨congrArg (Value.int .i64) ?_, rfl, rfl⟩
            rw [he]; simp [incI, *]
      · try simp only [decide_eq_true_eq, decide_eq_false_iff_not, Bool.not_eq_true', Bool.not_eq_false', Bool.not_true, Bool.not_false, Bool.not_not, ne_eq, Decidable.not_not, Int.not_lt, Int.not_le, gt_iff_lt, ge_iff_le, bool_true_eq_, bool_false_eq_] at h3
        refine GL.pass (s := 21) rfl rfl rfl ?_
        refine GL.pass (s := 21) rfl rfl rfl ?_
        refine GL.pass (s := 21) rfl rfl rfl ?_
        refine GL.pass (s := 21) rfl rfl rfl ?_
        refine GL.pure rfl (p_pick_false rfl rfl) ?_
        refine GL.pure rfl (p_assign rfl) ?_
        refine GL.nil (?_ : GC _ _ _ _)
        refine GC.seq' ?_
        refine GC.region ?_
        refine GL.pure rfl (p_assign rfl) ?_
        refine GL.nil (?_ : GC _ _ _ _)
        refine GC.seq' ?_
        refine GC.seq' ?_
        refine GC.region ?_
        refine GL.pure rfl (p_fieldAddr fo_24_1 rfl) ?_
        refine GL.step rfl (t_mem rfl (m_load (i := 0) rfl rfl ag_22 rfl)) ?_
        refine GL.pure rfl (p_len Try.underlying22 rfl) ?_
        refine GL.pure rfl (p_move rfl) ?_
        refine GL.nil (?_ : GC _ _ _ _)
        refine GC.block ?_
        refine GC.loopK2 (ks := [28, 29]) (is := [0]) (js := [0]) (fun (k : Nat) (b : Bool) => k ≤ l.length ∧ groupOk e l = (b && incI (lastI l k) (l.drop k))) (fun (k : Nat) (b : Bool) => [(3, .bool b), (4, .int .i64 (lastI l k)), (30, .int .i64 (k : Int))]) (fun (k : Nat) (b : Bool) => []) (fun (k : Nat) (b : Bool) => []) (fun (k : Nat) (b : Bool) => l.length - k) (0) (_) rfl rfl rfl (fun a w h => ⟨⟨by omega, by unfold groupOk; congr 1; rw [Bool.eq_iff_iff]; (try simp) <;> omega⟩, h.cutK (is := [0]) (js := [0]) (ks := [28, 29]) ⟨rfl, rfl, rfl, trivial⟩ rfl rfl rfl⟩) ?_
        intro k b hk
        try dsimp only [List.cons_append, List.nil_append] at hk ⊢
        obtain ⟨hk, he⟩ := hk
        refine GC.seq' ?_
        refine GC.region ?_
        refine GL.pure rfl (p_lss rfl rfl) ?_
        refine GL.nil (?_ : GC _ _ _ _)
        refine GC.seq' ?_
        refine GC.cond rfl (fun h8 => ?_) (fun h8 => ?_)
        · try simp only [decide_eq_true_eq, decide_eq_false_iff_not, Bool.not_eq_true', Bool.not_eq_false', Bool.not_true, Bool.not_false, Bool.not_not, ne_eq, Decidable.not_not, Int.not_lt, Int.not_le, gt_iff_lt, ge_iff_le, bool_true_eq_, bool_false_eq_] at h8
          refine GC.skip (?_ : GC _ _ _ _)
          refine GC.seq' ?_
          refine GC.block ?_
          refine GC.seq' ?_
          refine GC.region ?_
          refine GL.step rfl (t_index (i := 0) rfl rfl rfl rfl Try.underlying22 sz_3 (by omega) (gt_ok (by omega) (by omega))) (GL.ex fun p_x32 => GL.ex fun r_x32 => GL.and fun ok_x32 => ?_)
          rcases r_x32 with _
          refine GL.step rfl (t_mem rfl (m_loadP (i := 0) rfl rfl ag_3 rfl)) ?_
          refine GL.pure rfl (p_assign rfl) ?_
          refine GL.nil (?_ : GC _ _ _ _)
          refine GC.seq' ?_
          refine GC.region ?_
          refine GL.pure rfl (p_move rfl) ?_
          refine GL.pure rfl (p_move rfl) ?_
          refine GL.split (i := 35) rfl (fun h9 => ?_) (fun h9 => ?_)
          · try simp only [decide_eq_true_eq, decide_eq_false_iff_not, Bool.not_eq_true', Bool.not_eq_false', Bool.not_true, Bool.not_false, Bool.not_not, ne_eq, Decidable.not_not, Int.not_lt, Int.not_le, gt_iff_lt, ge_iff_le, bool_true_eq_, bool_false_eq_] at h9
            refine GL.pureG (s := 35) rfl rfl rfl (p_move rfl) ?_
            refine GL.pureG (s := 35) rfl rfl rfl (p_move rfl) ?_
            refine GL.pureG (s := 35) rfl rfl rfl (p_gtr rfl rfl) ?_
            refine GL.pure rfl (p_pick_true rfl rfl) ?_
            refine GL.pure rfl (p_move rfl) ?_
            refine GL.split (i := 40) rfl (fun h10 => ?_) (fun h10 => ?_)
            · try simp only [decide_eq_true_eq, decide_eq_false_iff_not, Bool.not_eq_true', Bool.not_eq_false', Bool.not_true, Bool.not_false, Bool.not_not, ne_eq, Decidable.not_not, Int.not_lt, Int.not_le, gt_iff_lt, ge_iff_le, bool_true_eq_, bool_false_eq_] at h10
              refine GL.pureG (s := 40) rfl rfl rfl (p_move rfl) ?_
              refine GL.pureG (s := 40) rfl rfl rfl (p_lss rfl rfl) ?_
              refine GL.pure rfl (p_pick_true rfl rfl) ?_
              refine GL.pure rfl (p_assign rfl) ?_
              refine GL.nil (?_ : GC _ _ _ _)
              refine GC.region ?_
              refine GL.pure rfl (p_move rfl) ?_
              refine GL.pure rfl (p_assign rfl) ?_
              refine GL.nil (?_ : GC _ _ _ _)
              refine GC.region ?_
              refine GL.pure rfl (p_add rfl rfl (w64 (by omega) (by omega))) ?_
              refine GL.pure rfl (p_move rfl) ?_
              refine GL.nil ?_
              exact fun a w h => ⟨(k + 1), (_), (by omega), ⟨by omega, grp_next (by omega) he (by rw [Bool.eq_iff_iff]; (try simp [*]) <;> omega)⟩, h.cut (is := [0]) (js := [1]) ⟨rfl, rfl, rfl, rfl, rfl, trivial⟩ rfl rfl⟩
            · try simp only [decide_eq_true_eq, decide_eq_false_iff_not, Bool.not_eq_true', Bool.not_eq_false', Bool.not_true, Bool.not_false, Bool.not_not, ne_eq, Decidable.not_not, Int.not_lt, Int.not_le, gt_iff_lt, ge_iff_le, bool_true_eq_, bool_false_eq_] at h10
              refine GL.pass (s := 40) rfl rfl rfl ?_
              refine GL.pass (s := 40) rfl rfl rfl ?_
              refine GL.pure rfl (p_pick_false rfl rfl) ?_
              refine GL.pure rfl (p_assign rfl) ?_
              refine GL.nil (?_ : GC _ _ _ _)
              refine GC.region ?_
              refine GL.pure rfl (p_move rfl) ?_
              refine GL.pure rfl (p_assign rfl) ?_
              refine GL.nil (?_ : GC _ _ _ _)
              refine GC.region ?_
              refine GL.pure rfl (p_add rfl rfl (w64 (by omega) (by omega))) ?_
              refine GL.pure rfl (p_move rfl) ?_
              refine GL.nil ?_
              exact fun a w h => ⟨(k + 1), (_), (by omega), ⟨by omega, grp_next (by omega) he (by rw [Bool.eq_iff_iff]; (try simp [*]) <;> omega)⟩, h.cut (is := [0]) (js := [1]) ⟨rfl, rfl, rfl, rfl, rfl, trivial⟩ rfl rfl⟩
          · try simp only [decide_eq_true_eq, decide_eq_false_iff_not, Bool.not_eq_true', Bool.not_eq_false', Bool.not_true, Bool.not_false, Bool.not_not, ne_eq, Decidable.not_not, Int.not_lt, Int.not_le, gt_iff_lt, ge_iff_le, bool_true_eq_, bool_false_eq_] at h9
            refine GL.pass (s := 35) rfl rfl rfl ?_
            refine GL.pass (s := 35) rfl rfl rfl ?_
            refine GL.pass (s := 35) rfl rfl rfl ?_
            refine GL.pure rfl (p_pick_false rfl rfl) ?_
            refine GL.pure rfl (p_move rfl) ?_
            refine GL.pass (s := 40) rfl rfl rfl ?_
            refine GL.pass (s := 40) rfl rfl rfl ?_
            refine GL.pure rfl (p_pick_false rfl rfl) ?_
            refine GL.pure rfl (p_assign rfl) ?_
            refine GL.nil (?_ : GC _ _ _ _)
            refine GC.region ?_
            refine GL.pure rfl (p_move rfl) ?_
            refine GL.pure rfl (p_assign rfl) ?_
            refine GL.nil (?_ : GC _ _ _ _)
            refine GC.region ?_
            refine GL.pure rfl (p_add rfl rfl (w64 (by omega) (by omega))) ?_
            refine GL.pure rfl (p_move rfl) ?_
            refine GL.nil ?_
            exact fun a w h => ⟨(k + 1), (_), (by omega), ⟨by omega, grp_next (by omega) he (by rw [Bool.eq_iff_iff]; (try simp [*]) <;> omega)⟩, h.cut (is := [0]) (js := [1]) ⟨rfl, rfl, rfl, rfl, rfl, trivial⟩ rfl rfl⟩
        · try simp only [decide_eq_true_eq, decide_eq_false_iff_not, Bool.not_eq_true', Bool.not_eq_false', Bool.not_true, Bool.not_false, Bool.not_not, ne_eq, Decidable.not_not, Int.not_lt, Int.not_le, gt_iff_lt, ge_iff_le, bool_true_eq_, bool_false_eq_] at h8
          refine GC.exit (?_ : GC _ _ _ _)
          refine GC.seq' ?_
          refine GC.seq' ?_
          refine GC.region ?_
          refine GL.pure rfl (p_move rfl) ?_
          refine GL.pure rfl (p_not rfl) ?_
          refine GL.nil (?_ : GC _ _ _ _)
          refine GC.cond rfl (fun h11 => ?_) (fun h11 => ?_)
          · try simp only [decide_eq_true_eq, decide_eq_false_iff_not, Bool.not_eq_true', Bool.not_eq_false', Bool.not_true, Bool.not_false, Bool.not_not, ne_eq, Decidable.not_not, Int.not_lt, Int.not_le, gt_iff_lt, ge_iff_le, bool_true_eq_, bool_false_eq_] at h11
            refine GC.seq' ?_
            refine GC.region ?_
            refine GL.pure rfl (p_assign rfl) ?_
            refine GL.nil (?_ : GC _ _ _ _)
            refine GC.ret ?_
            refine fun a w h => Fin.back (rs := [.tmp 2]) (vs := [_]) (is := []) (js := []) rfl ⟨rfl, trivial⟩ rfl rfl ?_ h
            clear h
            obtain rfl : k = l.length := by omega
            rw [List.drop_of_length_le (Nat.le_refl _)] at he
            refine ⟨congrArg (Value.int .i64) ?_, rfl, rfl⟩
            rw [he]; simp [incI, *]
          · try simp only [decide_eq_true_eq, decide_eq_false_iff_not, Bool.not_eq_true', Bool.not_eq_false', Bool.not_true, Bool.not_false, Bool.not_not, ne_eq, Decidable.not_not, Int.not_lt, Int.not_le, gt_iff_lt, ge_iff_le, bool_true_eq_, bool_false_eq_] at h11
            refine GC.skip (?_ : GC _ _ _ _)
            refine GC.seq' ?_
            refine GC.region ?_
            refine GL.pure rfl (p_assign rfl) ?_
            refine GL.nil (?_ : GC _ _ _ _)
            refine GC.ret ?_
            refine fun a w h => Fin.back (rs := [.tmp 2]) (vs := [_]) (is := []) (js := []) rfl ⟨rfl, trivial⟩ rfl rfl ?_ h
            clear h
            obtain rfl : k = l.length := by omega
            rw [List.drop_of_length_le (Nat.le_refl _)] at he
            refine ⟨congrArg (Value.int .i64) ?_, rfl, rfl⟩
            rw [he]; simp [incI, *]
    · try simp only [decide_eq_true_eq, decide_eq_false_iff_not, Bool.not_eq_true', Bool.not_eq_false', Bool.not_true, Bool.not_false, Bool.not_not, ne_eq, Decidable.not_not, Int.not_lt, Int.not_le, gt_iff_lt, ge_iff_le, bool_true_eq_, bool_false_eq_] at h2
      refine GL.pass (s := 15) rfl rfl rfl ?_
      refine GL.pass (s := 15) rfl rfl rfl ?_
      refine GL.pass (s := 15) rfl rfl rfl ?_
      refine GL.pass (s := 15) rfl rfl rfl ?_
      refine GL.pure rfl (p_pick_false rfl rfl) ?_
      refine GL.pure rfl (p_move rfl) ?_
      refine GL.pass (s := 21) rfl rfl rfl ?_
      refine GL.pass (s := 21) rfl rfl rfl ?_
      refine GL.pass (s := 21) rfl rfl rfl ?_
      refine GL.pass (s := 21) rfl rfl rfl ?_
      refine GL.pure rfl (p_pick_false rfl rfl) ?_
      refine GL.pure rfl (p_assign rfl) ?_
      refine GL.nil (?_ : GC _ _ _ _)
      refine GC.seq' ?_
      refine GC.region ?_
      refine GL.pure rfl (p_assign rfl) ?_
      refine GL.nil (?_ : GC _ _ _ _)
      refine GC.seq' ?_
      refine GC.seq' ?_
      refine GC.region ?_
      refine GL.pure rfl (p_fieldAddr fo_24_1 rfl) ?_
      refine GL.step rfl (t_mem rfl (m_load (i := 0) rfl rfl ag_22 rfl)) ?_
      refine GL.pure rfl (p_len Try.underlying22 rfl) ?_
      refine GL.pure rfl (p_move rfl) ?_
      refine GL.nil (?_ : GC _ _ _ _)
      refine GC.block ?_
      refine GC.loopK2 (ks := [28, 29]) (is := [0]) (js := [0]) (fun (k : Nat) (b : Bool) => k ≤ l.length ∧ groupOk e l = (b && incI (lastI l k) (l.drop k))) (fun (k : Nat) (b : Bool) => [(3, .bool b), (4, .int .i64 (lastI l k)), (30, .int .i64 (k : Int))]) (fun (k : Nat) (b : Bool) => []) (fun (k : Nat) (b : Bool) => []) (fun (k : Nat) (b : Bool) => l.length - k) (0) (_) rfl rfl rfl (fun a w h => ⟨⟨by omega, by unfold groupOk; congr 1; rw [Bool.eq_iff_iff]; (try simp) <;> omega⟩, h.cutK (is := [0]) (js := [0]) (ks := [28, 29]) ⟨rfl, rfl, rfl, trivial⟩ rfl rfl rfl⟩) ?_
      intro k b hk
      try dsimp only [List.cons_append, List.nil_append] at hk ⊢
      obtain ⟨hk, he⟩ := hk
      refine GC.seq' ?_
      refine GC.region ?_
      refine GL.pure rfl (p_lss rfl rfl) ?_
      refine GL.nil (?_ : GC _ _ _ _)
      refine GC.seq' ?_
      refine GC.cond rfl (fun h12 => ?_) (fun h12 => ?_)
      · try simp only [decide_eq_true_eq, decide_eq_false_iff_not, Bool.not_eq_true', Bool.not_eq_false', Bool.not_true, Bool.not_false, Bool.not_not, ne_eq, Decidable.not_not, Int.not_lt, Int.not_le, gt_iff_lt, ge_iff_le, bool_true_eq_, bool_false_eq_] at h12
        refine GC.skip (?_ : GC _ _ _ _)
        refine GC.seq' ?_
        refine GC.block ?_
        refine GC.seq' ?_
        refine GC.region ?_
        refine GL.step rfl (t_index (i := 0) rfl rfl rfl rfl Try.underlying22 sz_3 (by omega) (gt_ok (by omega) (by omega))) (GL.ex fun p_x32 => GL.ex fun r_x32 => GL.and fun ok_x32 => ?_)
        rcases r_x32 with _
        refine GL.step rfl (t_mem rfl (m_loadP (i := 0) rfl rfl ag_3 rfl)) ?_
        refine GL.pure rfl (p_assign rfl) ?_
        refine GL.nil (?_ : GC _ _ _ _)
        refine GC.seq' ?_
        refine GC.region ?_
        refine GL.pure rfl (p_move rfl) ?_
        refine GL.pure rfl (p_move rfl) ?_
        refine GL.split (i := 35) rfl (fun h13 => ?_) (fun h13 => ?_)
        · try simp only [decide_eq_true_eq, decide_eq_false_iff_not, Bool.not_eq_true', Bool.not_eq_false', Bool.not_true, Bool.not_false, Bool.not_not, ne_eq, Decidable.not_not, Int.not_lt, Int.not_le, gt_iff_lt, ge_iff_le, bool_true_eq_, bool_false_eq_] at h13
          refine GL.pureG (s := 35) rfl rfl rfl (p_move rfl) ?_
          refine GL.pureG (s := 35) rfl rfl rfl (p_move rfl) ?_
          refine GL.pureG (s := 35) rfl rfl rfl (p_gtr rfl rfl) ?_
          refine GL.pure rfl (p_pick_true rfl rfl) ?_
          refine GL.pure rfl (p_move rfl) ?_
          refine GL.split (i := 40) rfl (fun h14 => ?_) (fun h14 => ?_)
          · try simp only [decide_eq_true_eq, decide_eq_false_iff_not, Bool.not_eq_true', Bool.not_eq_false', Bool.not_true, Bool.not_false, Bool.not_not, ne_eq, Decidable.not_not, Int.not_lt, Int.not_le, gt_iff_lt, ge_iff_le, bool_true_eq_, bool_false_eq_] at h14
            refine GL.pureG (s := 40) rfl rfl rfl (p_move rfl) ?_
            refine GL.pureG (s := 40) rfl rfl rfl (p_lss rfl rfl) ?_
            refine GL.pure rfl (p_pick_true rfl rfl) ?_
            refine GL.pure rfl (p_assign rfl) ?_
            refine GL.nil (?_ : GC _ _ _ _)
            refine GC.region ?_
            refine GL.pure rfl (p_move rfl) ?_
            refine GL.pure rfl (p_assign rfl) ?_
            refine GL.nil (?_ : GC _ _ _ _)
            refine GC.region ?_
            refine GL.pure rfl (p_add rfl rfl (w64 (by omega) (by omega))) ?_
            refine GL.pure rfl (p_move rfl) ?_
            refine GL.nil ?_
            exact fun a w h => ⟨(k + 1), (_), (by omega), ⟨by omega, grp_next (by omega) he (by rw [Bool.eq_iff_iff]; (try simp [*]) <;> omega)⟩, h.cut (is := [0]) (js := [1]) ⟨rfl, rfl, rfl, rfl, rfl, trivial⟩ rfl rfl⟩
          · try simp only [decide_eq_true_eq, decide_eq_false_iff_not, Bool.not_eq_true', Bool.not_eq_false', Bool.not_true, Bool.not_false, Bool.not_not, ne_eq, Decidable.not_not, Int.not_lt, Int.not_le, gt_iff_lt, ge_iff_le, bool_true_eq_, bool_false_eq_] at h14
            refine GL.pass (s := 40) rfl rfl rfl ?_
            refine GL.pass (s := 40) rfl rfl rfl ?_
            refine GL.pure rfl (p_pick_false rfl rfl) ?_
            refine GL.pure rfl (p_assign rfl) ?_
            refine GL.nil (?_ : GC _ _ _ _)
            refine GC.region ?_
            refine GL.pure rfl (p_move rfl) ?_
            refine GL.pure rfl (p_assign rfl) ?_
            refine GL.nil (?_ : GC _ _ _ _)
            refine GC.region ?_
            refine GL.pure rfl (p_add rfl rfl (w64 (by omega) (by omega))) ?_
            refine GL.pure rfl (p_move rfl) ?_
            refine GL.nil ?_
            exact fun a w h => ⟨(k + 1), (_), (by omega), ⟨by omega, grp_next (by omega) he (by rw [Bool.eq_iff_iff]; (try simp [*]) <;> omega)⟩, h.cut (is := [0]) (js := [1]) ⟨rfl, rfl, rfl, rfl, rfl, trivial⟩ rfl rfl⟩
        · try simp only [decide_eq_true_eq, decide_eq_false_iff_not, Bool.not_eq_true', Bool.not_eq_false', Bool.not_true, Bool.not_false, Bool.not_not, ne_eq, Decidable.not_not, Int.not_lt, Int.not_le, gt_iff_lt, ge_iff_le, bool_true_eq_, bool_false_eq_] at h13
          refine GL.pass (s := 35) rfl rfl rfl ?_
          refine GL.pass (s := 35) rfl rfl rfl ?_
          refine GL.pass (s := 35) rfl rfl rfl ?_
          refine GL.pure rfl (p_pick_false rfl rfl) ?_
          refine GL.pure rfl (p_move rfl) ?_
          refine GL.pass (s := 40) rfl rfl rfl ?_
          refine GL.pass (s := 40) rfl rfl rfl ?_
          refine GL.pure rfl (p_pick_false rfl rfl) ?_
          refine GL.pure rfl (p_assign rfl) ?_
          refine GL.nil (?_ : GC _ _ _ _)
          refine GC.region ?_
          refine GL.pure rfl (p_move rfl) ?_
          refine GL.pure rfl (p_assign rfl) ?_
          refine GL.nil (?_ : GC _ _ _ _)
          refine GC.region ?_
          refine GL.pure rfl (p_add rfl rfl (w64 (by omega) (by omega))) ?_
          refine GL.pure rfl (p_move rfl) ?_
          refine GL.nil ?_
          exact fun a w h => ⟨(k + 1), (_), (by omega), ⟨by omega, grp_next (by omega) he (by rw [Bool.eq_iff_iff]; (try simp [*]) <;> omega)⟩, h.cut (is := [0]) (js := [1]) ⟨rfl, rfl, rfl, rfl, rfl, trivial⟩ rfl rfl⟩
      · try simp only [decide_eq_true_eq, decide_eq_false_iff_not, Bool.not_eq_true', Bool.not_eq_false', Bool.not_true, Bool.not_false, Bool.not_not, ne_eq, Decidable.not_not, Int.not_lt, Int.not_le, gt_iff_lt, ge_iff_le, bool_true_eq_, bool_false_eq_] at h12
        refine GC.exit (?_ : GC _ _ _ _)
        refine GC.seq' ?_
        refine GC.seq' ?_
        refine GC.region ?_
        refine GL.pure rfl (p_move rfl) ?_
        refine GL.pure rfl (p_not rfl) ?_
        refine GL.nil (?_ : GC _ _ _ _)
        refine GC.cond rfl (fun h15 => ?_) (fun h15 => ?_)
        · try simp only [decide_eq_true_eq, decide_eq_false_iff_not, Bool.not_eq_true', Bool.not_eq_false', Bool.not_true, Bool.not_false, Bool.not_not, ne_eq, Decidable.not_not, Int.not_lt, Int.not_le, gt_iff_lt, ge_iff_le, bool_true_eq_, bool_false_eq_] at h15
          refine GC.seq' ?_
          refine GC.region ?_
          refine GL.pure rfl (p_assign rfl) ?_
          refine GL.nil (?_ : GC _ _ _ _)
          refine GC.ret ?_
          refine fun a w h => Fin.back (rs := [.tmp 2]) (vs := [_]) (is := []) (js := []) rfl ⟨rfl, trivial⟩ rfl rfl ?_ h
          clear h
          obtain rfl : k = l.length := by omega
          rw [List.drop_of_length_le (Nat.le_refl _)] at he
          refine ⟨congrArg (Value.int .i64) ?_, rfl, rfl⟩
          rw [he]; simp [incI, *]
        · try simp only [decide_eq_true_eq, decide_eq_false_iff_not, Bool.not_eq_true', Bool.not_eq_false', Bool.not_true, Bool.not_false, Bool.not_not, ne_eq, Decidable.not_not, Int.not_lt, Int.not_le, gt_iff_lt, ge_iff_le, bool_true_eq_, bool_false_eq_] at h15
          refine GC.skip (?_ : GC _ _ _ _)
          refine GC.seq' ?_
          refine GC.region ?_
          refine GL.pure rfl (p_assign rfl) ?_
          refine GL.nil (?_ : GC _ _ _ _)
          refine GC.ret ?_
          refine fun a w h => Fin.back (rs := [.tmp 2]) (vs := [_]) (is := []) (js := []) rfl ⟨rfl, trivial⟩ rfl rfl ?_ h
          clear h
          obtain rfl : k = l.length := by omega
          rw [List.drop_of_length_le (Nat.le_refl _)] at he
          refine ⟨congrArg (Value.int .i64) ?_, rfl, rfl⟩
          rw [he]; simp [incI, *]
  · try simp only [decide_eq_true_eq, decide_eq_false_iff_not, Bool.not_eq_true', Bool.not_eq_false', Bool.not_true, Bool.not_false, Bool.not_not, ne_eq, Decidable.not_not, Int.not_lt, Int.not_le, gt_iff_lt, ge_iff_le, bool_true_eq_, bool_false_eq_] at h1
    refine GL.pass (s := 10) rfl rfl rfl ?_
    refine GL.pass (s := 10) rfl rfl rfl ?_
    refine GL.pass (s := 10) rfl rfl rfl ?_
    refine GL.pure rfl (p_pick_false rfl rfl) ?_
    refine GL.pure rfl (p_move rfl) ?_
    refine GL.pass (s := 15) rfl rfl rfl ?_
    refine GL.pass (s := 15) rfl rfl rfl ?_
    refine GL.pass (s := 15) rfl rfl rfl ?_
    refine GL.pass (s := 15) rfl rfl rfl ?_
    refine GL.pure rfl (p_pick_false rfl rfl) ?_
    refine GL.pure rfl (p_move rfl) ?_
    refine GL.pass (s := 21) rfl rfl rfl ?_
    refine GL.pass (s := 21) rfl rfl rfl ?_
    refine GL.pass (s := 21) rfl rfl rfl ?_
    refine GL.pass (s := 21) rfl rfl rfl ?_
    refine GL.pure rfl (p_pick_false rfl rfl) ?_
    refine GL.pure rfl (p_assign rfl) ?_
    refine GL.nil (?_ : GC _ _ _ _)
    refine GC.seq' ?_
    refine GC.region ?_
    refine GL.pure rfl (p_assign rfl) ?_
    refine GL.nil (?_ : GC _ _ _ _)
    refine GC.seq' ?_
    refine GC.seq' ?_
    refine GC.region ?_
    refine GL.pure rfl (p_fieldAddr fo_24_1 rfl) ?_
    refine GL.step rfl (t_mem rfl (m_load (i := 0) rfl rfl ag_22 rfl)) ?_
    refine GL.pure rfl (p_len Try.underlying22 rfl) ?_
    refine GL.pure rfl (p_move rfl) ?_
    refine GL.nil (?_ : GC _ _ _ _)
    refine GC.block ?_
    refine GC.loopK2 (ks := [28, 29]) (is := [0]) (js := [0]) (fun (k : Nat) (b : Bool) => k ≤ l.length ∧ groupOk e l = (b && incI (lastI l k) (l.drop k))) (fun (k : Nat) (b : Bool) => [(3, .bool b), (4, .int .i64 (lastI l k)), (30, .int .i64 (k : Int))]) (fun (k : Nat) (b : Bool) => []) (fun (k : Nat) (b : Bool) => []) (fun (k : Nat) (b : Bool) => l.length - k) (0) (_) rfl rfl rfl (fun a w h => ⟨⟨by omega, by unfold groupOk; congr 1; rw [Bool.eq_iff_iff]; (try simp) <;> omega⟩, h.cutK (is := [0]) (js := [0]) (ks := [28, 29]) ⟨rfl, rfl, rfl, trivial⟩ rfl rfl rfl⟩) ?_
    intro k b hk
    try dsimp only [List.cons_append, List.nil_append] at hk ⊢
    obtain ⟨hk, he⟩ := hk
    refine GC.seq' ?_
    refine GC.region ?_
    refine GL.pure rfl (p_lss rfl rfl) ?_
    refine GL.nil (?_ : GC _ _ _ _)
    refine GC.seq' ?_
    refine GC.cond rfl (fun h16 => ?_) (fun h16 => ?_)
    · try simp only [decide_eq_true_eq, decide_eq_false_iff_not, Bool.not_eq_true', Bool.not_eq_false', Bool.not_true, Bool.not_false, Bool.not_not, ne_eq, Decidable.not_not, Int.not_lt, Int.not_le, gt_iff_lt, ge_iff_le, bool_true_eq_, bool_false_eq_] at h16
      refine GC.skip (?_ : GC _ _ _ _)
      refine GC.seq' ?_
      refine GC.block ?_
      refine GC.seq' ?_
      refine GC.region ?_
      refine GL.step rfl (t_index (i := 0) rfl rfl rfl rfl Try.underlying22 sz_3 (by omega) (gt_ok (by omega) (by omega))) (GL.ex fun p_x32 => GL.ex fun r_x32 => GL.and fun ok_x32 => ?_)
      rcases r_x32 with _
      refine GL.step rfl (t_mem rfl (m_loadP (i := 0) rfl rfl ag_3 rfl)) ?_
      refine GL.pure rfl (p_assign rfl) ?_
      refine GL.nil (?_ : GC _ _ _ _)
      refine GC.seq' ?_
      refine GC.region ?_
      refine GL.pure rfl (p_move rfl) ?_
      refine GL.pure rfl (p_move rfl) ?_
      refine GL.split (i := 35) rfl (fun h17 => ?_) (fun h17 => ?_)
      · try simp only [decide_eq_true_eq, decide_eq_false_iff_not, Bool.not_eq_true', Bool.not_eq_false', Bool.not_true, Bool.not_false, Bool.not_not, ne_eq, Decidable.not_not, Int.not_lt, Int.not_le, gt_iff_lt, ge_iff_le, bool_true_eq_, bool_false_eq_] at h17
        refine GL.pureG (s := 35) rfl rfl rfl (p_move rfl) ?_
        refine GL.pureG (s := 35) rfl rfl rfl (p_move rfl) ?_
        refine GL.pureG (s := 35) rfl rfl rfl (p_gtr rfl rfl) ?_
        refine GL.pure rfl (p_pick_true rfl rfl) ?_
        refine GL.pure rfl (p_move rfl) ?_
        refine GL.split (i := 40) rfl (fun h18 => ?_) (fun h18 => ?_)
        · try simp only [decide_eq_true_eq, decide_eq_false_iff_not, Bool.not_eq_true', Bool.not_eq_false', Bool.not_true, Bool.not_false, Bool.not_not, ne_eq, Decidable.not_not, Int.not_lt, Int.not_le, gt_iff_lt, ge_iff_le, bool_true_eq_, bool_false_eq_] at h18
          refine GL.pureG (s := 40) rfl rfl rfl (p_move rfl) ?_
          refine GL.pureG (s := 40) rfl rfl rfl (p_lss rfl rfl) ?_
          refine GL.pure rfl (p_pick_true rfl rfl) ?_
          refine GL.pure rfl (p_assign rfl) ?_
          refine GL.nil (?_ : GC _ _ _ _)
          refine GC.region ?_
          refine GL.pure rfl (p_move rfl) ?_
          refine GL.pure rfl (p_assign rfl) ?_
          refine GL.nil (?_ : GC _ _ _ _)
          refine GC.region ?_
          refine GL.pure rfl (p_add rfl rfl (w64 (by omega) (by omega))) ?_
          refine GL.pure rfl (p_move rfl) ?_
          refine GL.nil ?_
          exact fun a w h => ⟨(k + 1), (_), (by omega), ⟨by omega, grp_next (by omega) he (by rw [Bool.eq_iff_iff]; (try simp [*]) <;> omega)⟩, h.cut (is := [0]) (js := [1]) ⟨rfl, rfl, rfl, rfl, rfl, trivial⟩ rfl rfl⟩
        · try simp only [decide_eq_true_eq, decide_eq_false_iff_not, Bool.not_eq_true', Bool.not_eq_false', Bool.not_true, Bool.not_false, Bool.not_not, ne_eq, Decidable.not_not, Int.not_lt, Int.not_le, gt_iff_lt, ge_iff_le, bool_true_eq_, bool_false_eq_] at h18
          refine GL.pass (s := 40) rfl rfl rfl ?_
          refine GL.pass (s := 40) rfl rfl rfl ?_
          refine GL.pure rfl (p_pick_false rfl rfl) ?_
          refine GL.pure rfl (p_assign rfl) ?_
          refine GL.nil (?_ : GC _ _ _ _)
          refine GC.region ?_
          refine GL.pure rfl (p_move rfl) ?_
          refine GL.pure rfl (p_assign rfl) ?_
          refine GL.nil (?_ : GC _ _ _ _)
          refine GC.region ?_
          refine GL.pure rfl (p_add rfl rfl (w64 (by omega) (by omega))) ?_
          refine GL.pure rfl (p_move rfl) ?_
          refine GL.nil ?_
          exact fun a w h => ⟨(k + 1), (_), (by omega), ⟨by omega, grp_next (by omega) he (by rw [Bool.eq_iff_iff]; (try simp [*]) <;> omega)⟩, h.cut (is := [0]) (js := [1]) ⟨rfl, rfl, rfl, rfl, rfl, trivial⟩ rfl rfl⟩
      · try simp only [decide_eq_true_eq, decide_eq_false_iff_not, Bool.not_eq_true', Bool.not_eq_false', Bool.not_true, Bool.not_false, Bool.not_not, ne_eq, Decidable.not_not, Int.not_lt, Int.not_le, gt_iff_lt, ge_iff_le, bool_true_eq_, bool_false_eq_] at h17
        refine GL.pass (s := 35) rfl rfl rfl ?_
        refine GL.pass (s := 35) rfl rfl rfl ?_
        refine GL.pass (s := 35) rfl rfl rfl ?_
        refine GL.pure rfl (p_pick_false rfl rfl) ?_
        refine GL.pure rfl (p_move rfl) ?_
        refine GL.pass (s := 40) rfl rfl rfl ?_
        refine GL.pass (s := 40) rfl rfl rfl ?_
        refine GL.pure rfl (p_pick_false rfl rfl) ?_
        refine GL.pure rfl (p_assign rfl) ?_
        refine GL.nil (?_ : GC _ _ _ _)
        refine GC.region ?_
        refine GL.pure rfl (p_move rfl) ?_
        refine GL.pure rfl (p_assign rfl) ?_
        refine GL.nil (?_ : GC _ _ _ _)
        refine GC.region ?_
        refine GL.pure rfl (p_add rfl rfl (w64 (by omega) (by omega))) ?_
        refine GL.pure rfl (p_move rfl) ?_
        refine GL.nil ?_
        exact fun a w h => ⟨(k + 1), (_), (by omega), ⟨by omega, grp_next (by omega) he (by rw [Bool.eq_iff_iff]; (try simp [*]) <;> omega)⟩, h.cut (is := [0]) (js := [1]) ⟨rfl, rfl, rfl, rfl, rfl, trivial⟩ rfl rfl⟩
    · try simp only [decide_eq_true_eq, decide_eq_false_iff_not, Bool.not_eq_true', Bool.not_eq_false', Bool.not_true, Bool.not_false, Bool.not_not, ne_eq, Decidable.not_not, Int.not_lt, Int.not_le, gt_iff_lt, ge_iff_le, bool_true_eq_, bool_false_eq_] at h16
      refine GC.exit (?_ : GC _ _ _ _)
      refine GC.seq' ?_
      refine GC.seq' ?_
      refine GC.region ?_
      refine GL.pure rfl (p_move rfl) ?_
      refine GL.pure rfl (p_not rfl) ?_
      refine GL.nil (?_ : GC _ _ _ _)
      refine GC.cond rfl (fun h19 => ?_) (fun h19 => ?_)
      · try simp only [decide_eq_true_eq, decide_eq_false_iff_not, Bool.not_eq_true', Bool.not_eq_false', Bool.not_true, Bool.not_false, Bool.not_not, ne_eq, Decidable.not_not, Int.not_lt, Int.not_le, gt_iff_lt, ge_iff_le, bool_true_eq_, bool_false_eq_] at h19
        refine GC.seq' ?_
        refine GC.region ?_
        refine GL.pure rfl (p_assign rfl) ?_
        refine GL.nil (?_ : GC _ _ _ _)
        refine GC.ret ?_
        refine fun a w h => Fin.back (rs := [.tmp 2]) (vs := [_]) (is := []) (js := []) rfl ⟨rfl, trivial⟩ rfl rfl ?_ h
        clear h
        obtain rfl : k = l.length := by omega
        rw [List.drop_of_length_le (Nat.le_refl _)] at he
        refine ⟨congrArg (Value.int .i64) ?_, rfl, rfl⟩
        rw [he]; simp [incI, *]
      · try simp only [decide_eq_true_eq, decide_eq_false_iff_not, Bool.not_eq_true', Bool.not_eq_false', Bool.not_true, Bool.not_false, Bool.not_not, ne_eq, Decidable.not_not, Int.not_lt, Int.not_le, gt_iff_lt, ge_iff_le, bool_true_eq_, bool_false_eq_] at h19
        refine GC.skip (?_ : GC _ _ _ _)
        refine GC.seq' ?_
        refine GC.region ?_
        refine GL.pure rfl (p_assign rfl) ?_
        refine GL.nil (?_ : GC _ _ _ _)
        refine GC.ret ?_
        refine fun a w h => Fin.back (rs := [.tmp 2]) (vs := [_]) (is := []) (js := []) rfl ⟨rfl, trivial⟩ rfl rfl ?_ h
        clear h
        obtain rfl : k = l.length := by omega
        rw [List.drop_of_length_le (Nat.le_refl _)] at he
        refine ⟨congrArg (Value.int .i64) ?_, rfl, rfl⟩
        rw [he]; simp [incI, *]
end Go.Proofs.Ytoofbjclockcdaa
