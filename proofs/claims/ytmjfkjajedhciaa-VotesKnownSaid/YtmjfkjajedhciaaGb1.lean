/- ROWS OF NUMBERS: contracts of the library's functions over them; groups that may be. -/
import Derived.Test.YtmjfkjajedhciaaSxt
import Derived.Test.YtmjfkjajedhciaaSxR
import Derived.Test.YtmjfkjajedhciaaSx17
set_option linter.unusedVariables false
set_option linter.unusedSimpArgs false
set_option maxRecDepth 100000
namespace Go.Proofs.Ytmjfkjajedhciaa
open Go Go.Sx Go.Proofs
abbrev kI : Kd Int := Kd.int .i64
abbrev iv (x : Int) : Value := Value.int .i64 x
theorem gt_memI {α : Type} [Inhabited α] {l : List α} {k : Nat} (h : k < l.length) : gt l (k : Int) ∈ l := by
  have := gt_ok (xs := l) (i := (k : Int)) (by omega) (by omega)
  exact List.mem_of_getElem? this
theorem mem_gt {α : Type} [Inhabited α] {l : List α} {x : α} (h : x ∈ l) : ∃ k : Nat, k < l.length ∧ gt l (k : Int) = x := by
  obtain ⟨k, hk, rfl⟩ := List.getElem_of_mem h
  have g := gt_ok (xs := l) (i := (k : Int)) (by omega) (by omega)
  simp only [Int.toNat_natCast, List.getElem?_eq_getElem hk, Option.some.injEq] at g
  exact ⟨k, hk, g.symm⟩
theorem not_mem_gt {α : Type} [Inhabited α] {l : List α} {x : α} (h : ∀ j : Nat, j < l.length → gt l (j : Int) ≠ x) : x ∉ l := fun hm => by
  obtain ⟨k, hk, e⟩ := mem_gt hm
  exact h k hk e
theorem take_gtI {α : Type} [Inhabited α] {l : List α} {k : Nat} (h : k < l.length) : l.take (k + 1) = l.take k ++ [gt l (k : Int)] := by
  have := gt_ok (xs := l) (i := (k : Int)) (by omega) (by omega)
  simp only [Int.toNat_natCast] at this
  rw [List.take_add_one, this]; rfl
theorem ext_gtI {α : Type} [Inhabited α] {a b : List α} (hl : a.length = b.length) (h : ∀ j : Nat, j < a.length → gt a (j : Int) = gt b (j : Int)) : a = b := by
  apply List.ext_getElem hl
  intro i h1 h2
  have g1 := gt_ok (xs := a) (i := (i : Int)) (by omega) (by omega)
  have g2 := gt_ok (xs := b) (i := (i : Int)) (by omega) (by omega)
  simp only [Int.toNat_natCast, List.getElem?_eq_getElem h1, List.getElem?_eq_getElem h2, Option.some.injEq] at g1 g2
  rw [g1, g2, h i h1]
theorem clone_i (A : Option Addr) (xs : List Int) (cp : Nat) (hx : xs.length ≤ 17592186044416) : Ct Try.prog 21 [.slice A xs.length cp] [] [Pers.row kI A xs]
    (fun v G Q => ∃ A' cp', xs.length ≤ cp' ∧ cp' ≤ 9223372036854775807 ∧ v = .slice A' xs.length cp' ∧ G = [.row (.slice A' xs.length cp') 3 1 xs.length (xs.map iv)] ∧ Q = []) := by
  cases A with
  | none =>
    refine Ct.pure (fun w S h => row_none (h.per _ (List.mem_singleton.2 rfl))) fun hx0 => ?_
    subst hx0
    refine Ct.intro Try.func21 rfl rfl rfl (fun c hc => ?_)
    refine GC.seq' ?_
    refine GC.region ?_
    refine GL.pure rfl (p_assign rfl) ?_
    refine GL.nil (?_ : GC _ _ _ _)
    refine GC.seq' ?_
    refine GC.seq' ?_
    refine GC.region ?_
    refine GL.pure rfl (p_move rfl) ?_
    refine GL.pure rfl (p_slnil_eql Try.underlying22 rfl rfl) ?_
    refine GL.nil (?_ : GC _ _ _ _)
    refine GC.cond_true rfl ?_
    refine GC.seq' ?_
    refine GC.region ?_
    refine GL.pure rfl (p_assign rfl) ?_
    refine GL.nil (?_ : GC _ _ _ _)
    refine GC.nilrow 3 1 ?_
    refine GC.ret ?_
    refine fun a w h => Fin.back (rs := [.tmp 2]) (vs := [_]) (is := [0]) (js := []) rfl ⟨rfl, trivial⟩ rfl rfl ?_ h
    clear h
    exact ⟨_, _, by simp, by simp, rfl, rfl, rfl⟩
  | some a =>
    refine Ct.intro Try.func21 rfl rfl rfl (fun c hc => ?_)
    refine GC.seq' ?_
    refine GC.region ?_
    refine GL.pure rfl (p_assign rfl) ?_
    refine GL.nil (?_ : GC _ _ _ _)
    refine GC.seq' ?_
    refine GC.seq' ?_
    refine GC.region ?_
    refine GL.pure rfl (p_move rfl) ?_
    refine GL.pure rfl (p_slnil_eql Try.underlying22 rfl rfl) ?_
    refine GL.nil (?_ : GC _ _ _ _)
    refine GC.cond_false rfl ?_
    refine GC.skip (?_ : GC _ _ _ _)
    refine GC.seq' ?_
    refine GC.region ?_
    refine GL.step rfl (t_buildSlice rfl Try.underlying22 sz_3 ze_3 rfl rfl rfl rfl rfl rfl) (GL.ex fun b_t5 => ?_)
    refine GL.pure rfl (p_move rfl) ?_
    refine GL.torow (i := 0) (m := 0) (sz := 1) rfl rfl (by decide) rfl ?_
    refine GL.step rfl (t_appendS (i := 0) (k := 0) rfl el_22 rfl rfl rfl rfl (by simp; omega) (fun _ => rfl)) (GL.ex fun v7 => ?_)
    refine GL.pure rfl (p_assign rfl) ?_
    refine GL.nil (?_ : GC _ _ _ _)
    refine GC.shape (i := 0) rfl (fun A1 c1 e1 l1 l2 => ?_)
    subst e1
    simp only [Nat.zero_add, List.nil_append] at l1 ⊢
    refine GC.ret ?_
    refine fun a w h => Fin.back (rs := [.tmp 2]) (vs := [_]) (is := [0]) (js := []) rfl ⟨rfl, trivial⟩ rfl rfl ?_ h
    clear h
    exact ⟨_, _, l1, l2, rfl, rfl, rfl⟩
/-! ### groups -/
def incI : Int → List Int → Bool
  | _, [] => true
  | b, x :: l => decide (b < x) && decide (x < 64) && incI x l
def groupOk (e : Int) (l : List Int) : Bool := decide (0 ≤ e) && decide (e ≤ 4611686018427387904) && decide (1 ≤ l.length) && decide (l.length ≤ 9) && incI (-1) l
def lastI (l : List Int) : Nat → Int
  | 0 => -1
  | k + 1 => gt l (k : Int)
theorem drop_gtI {α : Type} [Inhabited α] {l : List α} {k : Nat} (h : k < l.length) : l.drop k = gt l (k : Int) :: l.drop (k + 1) := by
  have := gt_ok (xs := l) (i := (k : Int)) (by omega) (by omega)
  simp only [Int.toNat_natCast] at this
  rw [List.drop_eq_getElem_cons h]
  rw [List.getElem?_eq_getElem h] at this
  simp only [Option.some.injEq] at this
  rw [this]
theorem incI_step {l : List Int} {k : Nat} {b : Int} (h : k < l.length) : incI b (l.drop k) = (decide (b < gt l (k : Int)) && decide (gt l (k : Int) < 64) && incI (gt l (k : Int)) (l.drop (k + 1))) := by
  rw [drop_gtI h]; rfl
theorem incI_ok {l : List Int} {k : Nat} {b : Int} (h : k < l.length) (h1 : b < gt l (k : Int)) (h2 : gt l (k : Int) < 64) : incI b (l.drop k) = incI (gt l (k : Int)) (l.drop (k + 1)) := by
  rw [incI_step h, decide_eq_true h1, decide_eq_true h2]; rfl
theorem incI_bad {l : List Int} {k : Nat} {b : Int} (h : k < l.length) (h1 : gt l (k : Int) ≤ b ∨ 64 ≤ gt l (k : Int)) : incI b (l.drop k) = false := by
  rw [incI_step h]
  rcases h1 with h1 | h1
  · rw [decide_eq_false (by omega)]; rfl
  · rw [decide_eq_false (show ¬ gt l (k : Int) < 64 by omega), Bool.and_false, Bool.false_and]
theorem grp_next {x b nb : Bool} {l : List Int} {k : Nat} (hk : k < l.length) (he : x = (b && incI (lastI l k) (l.drop k))) (hb : nb = (b && decide (lastI l k < gt l (k : Int)) && decide (gt l (k : Int) < 64))) : x = (nb && incI (lastI l (k + 1)) (l.drop (k + 1))) := by
  subst hb; rw [he, incI_step hk, lastI, Bool.and_assoc, Bool.and_assoc, Bool.and_assoc]
abbrev grpV (e : Int) (A : Option Addr) (n cp : Nat) : Value := .agg #[.int .i64 e, .slice A n cp]
end Go.Proofs.Ytmjfkjajedhciaa

