/- THE TABLE: the plain words on a full table. -/
import Derived.Test.YtipjpgjahmadiaaTb1
set_option linter.unusedVariables false
set_option linter.unusedSimpArgs false
set_option maxRecDepth 100000
namespace Go.Proofs.Ytipjpgjahmadiaa
open Go Go.Sx Go.Proofs

def fullT : Nat → List (Int × Last)
  | 0 => []
  | k + 1 => fullT k ++ [(2 * ((k : Int) + 1), ⟨3, ⟨1, []⟩⟩)]
theorem fullT_length : ∀ k, (fullT k).length = k
  | 0 => rfl
  | k + 1 => by simp [fullT, fullT_length k]
theorem mget_append {α : Type} (b : List (Int × α)) (c : Int) : ∀ a : List (Int × α), mget (a ++ b) c = (mget a c).or (mget b c)
  | [] => by simp [mget]
  | (k, x) :: r => by
    by_cases h : k = c <;> simp [mget, h, mget_append b c r]
theorem mput_none {α : Type} (c : Int) (y : α) : ∀ a : List (Int × α), mget a c = none → mput a c y = a ++ [(c, y)]
  | [], _ => rfl
  | (k, x) :: r, h => by
    by_cases hk : k = c
    · simp [mget, hk] at h
    · simp only [mget, if_neg hk] at h
      simp [mput, hk, mput_none c y r h]
theorem fullT_out : ∀ (k : Nat) (c : Int), ¬ (c % 2 = 0 ∧ 2 ≤ c ∧ c ≤ 2 * k) → mget (fullT k) c = none
  | 0, c, _ => rfl
  | k + 1, c, h => by
    rw [fullT, mget_append, fullT_out k c (by omega)]
    have : ¬ 2 * ((k : Int) + 1) = c := by omega
    simp [mget, this]
theorem fullT_in : ∀ (k : Nat) (c : Int), c % 2 = 0 → 2 ≤ c → c ≤ 2 * k → mget (fullT k) c = some ⟨3, ⟨1, []⟩⟩
  | 0, c, h0, h1, h2 => by omega
  | k + 1, c, h0, h1, h2 => by
    rw [fullT, mget_append]
    by_cases h : c ≤ 2 * k
    · rw [fullT_in k c h0 h1 h]; rfl
    · have hc : 2 * ((k : Int) + 1) = c := by omega
      rw [fullT_out k c (by omega)]
      simp [mget, hc]
theorem fullT_ok (k : Nat) : TabOk (fullT k) := fun c l hl => by
  by_cases h : c % 2 = 0 ∧ 2 ≤ c ∧ c ≤ 2 * k
  · rw [fullT_in k c h.1 h.2.1 h.2.2] at hl
    simp at hl; subst hl; simp
  · rw [fullT_out k c h] at hl; cases hl
theorem full_ask_new (k : Nat) (hk : k < 64) : askF (fullT k) (2 * ((k : Int) + 1)) 3 = (1, rz, 0) := by
  have h1 : isNum (2 * ((k : Int) + 1)) = true := isNum_t (by omega) (by omega)
  have h2 : isNum 3 = true := rfl
  have h3 : mget (fullT k) (2 * ((k : Int) + 1)) = none := fullT_out k _ (by omega)
  have h4 : ¬ ((fullT k).length : Int) = 64 := by rw [fullT_length]; omega
  simp [askF, h1, h2, h3, h4]
theorem full_put (k : Nat) (hk : k < 64) : putF (fullT k) (2 * ((k : Int) + 1)) 3 ⟨1, []⟩ = (0, fullT (k + 1)) := by
  have h := full_ask_new k hk
  have h3 : mget (fullT k) (2 * ((k : Int) + 1)) = none := fullT_out k _ (by omega)
  simp [putF, h, resOk, fullT, mput_none _ _ _ h3]

/-- The five ways of a request of a full table. -/
theorem full_cases (cl se : Int) : (¬ (1 ≤ cl ∧ cl ≤ 4611686018427387904 ∧ 1 ≤ se ∧ se ≤ 4611686018427387904)) ∨
    ((1 ≤ cl ∧ cl ≤ 4611686018427387904 ∧ 1 ≤ se ∧ se ≤ 4611686018427387904) ∧ (cl % 2 = 1 ∨ 128 < cl)) ∨
    ((1 ≤ cl ∧ cl ≤ 4611686018427387904 ∧ 1 ≤ se ∧ se ≤ 4611686018427387904) ∧ (cl % 2 = 0 ∧ cl ≤ 128) ∧ 3 < se) ∨
    ((1 ≤ cl ∧ cl ≤ 4611686018427387904 ∧ 1 ≤ se ∧ se ≤ 4611686018427387904) ∧ (cl % 2 = 0 ∧ cl ≤ 128) ∧ se = 3) ∨
    ((1 ≤ cl ∧ cl ≤ 4611686018427387904 ∧ 1 ≤ se ∧ se ≤ 4611686018427387904) ∧ (cl % 2 = 0 ∧ cl ≤ 128) ∧ se < 3) := by omega

theorem full_bad {cl se : Int} (h : ¬ (1 ≤ cl ∧ cl ≤ 4611686018427387904 ∧ 1 ≤ se ∧ se ≤ 4611686018427387904)) : askF (fullT 64) cl se = (0, rz, 5) := by
  have : isNum cl = false ∨ isNum se = false := by
    by_cases h1 : 1 ≤ cl ∧ cl ≤ 4611686018427387904
    · exact .inr (isNum_f (by omega))
    · exact .inl (isNum_f h1)
  simp [askF, this]
theorem full_none {cl se : Int} (h : 1 ≤ cl ∧ cl ≤ 4611686018427387904 ∧ 1 ≤ se ∧ se ≤ 4611686018427387904) (h' : cl % 2 = 1 ∨ 128 < cl) : askF (fullT 64) cl se = (4, rz, 0) := by
  have h3 : mget (fullT 64) cl = none := fullT_out 64 _ (by omega)
  have h4 : ((fullT 64).length : Int) = 64 := by rw [fullT_length]; rfl
  unfold askF
  rw [if_neg (by rw [isNum_t h.1 h.2.1, isNum_t h.2.2.1 h.2.2.2]; simp), h3]
  simp [h4]
theorem full_some {cl se : Int} (h : 1 ≤ cl ∧ cl ≤ 4611686018427387904 ∧ 1 ≤ se ∧ se ≤ 4611686018427387904) (h' : cl % 2 = 0 ∧ cl ≤ 128) : askF (fullT 64) cl se = if se > 3 then (1, rz, 0) else if se < 3 then (3, rz, 0) else (2, ⟨1, []⟩, 0) := by
  have h3 : mget (fullT 64) cl = some ⟨3, ⟨1, []⟩⟩ := fullT_in 64 _ h'.1 (by omega) (by omega)
  unfold askF
  rw [if_neg (by rw [isNum_t h.1 h.2.1, isNum_t h.2.2.1 h.2.2.2]; simp), h3]
theorem mput_some_length {α : Type} {T : List (Int × α)} {c : Int} {x y : α} (h : mget T c = some x) : (mput T c y).length = T.length := by
  rw [mput_length, h]; simp
theorem full_put_bad {cl se : Int} (h : ¬ (1 ≤ cl ∧ cl ≤ 4611686018427387904 ∧ 1 ≤ se ∧ se ≤ 4611686018427387904)) : putF (fullT 64) cl se ⟨2, []⟩ = (5, fullT 64) := by
  simp [putF, full_bad h]
theorem full_put_none {cl se : Int} (h : 1 ≤ cl ∧ cl ≤ 4611686018427387904 ∧ 1 ≤ se ∧ se ≤ 4611686018427387904) (h' : cl % 2 = 1 ∨ 128 < cl) : putF (fullT 64) cl se ⟨2, []⟩ = (3, fullT 64) := by
  simp [putF, full_none h h', resOk]
theorem full_put_more {cl se : Int} (h : 1 ≤ cl ∧ cl ≤ 4611686018427387904 ∧ 1 ≤ se ∧ se ≤ 4611686018427387904) (h' : cl % 2 = 0 ∧ cl ≤ 128) (h3 : 3 < se) : putF (fullT 64) cl se ⟨2, []⟩ = (0, mput (fullT 64) cl ⟨se, ⟨2, []⟩⟩) := by
  have e : askF (fullT 64) cl se = (1, rz, 0) := by rw [full_some h h', if_pos h3]
  simp [putF, e, resOk]
theorem full_put_old {cl se : Int} (h : 1 ≤ cl ∧ cl ≤ 4611686018427387904 ∧ 1 ≤ se ∧ se ≤ 4611686018427387904) (h' : cl % 2 = 0 ∧ cl ≤ 128) (h3 : se ≤ 3) : putF (fullT 64) cl se ⟨2, []⟩ = (1, fullT 64) := by
  rcases Int.lt_or_eq_of_le h3 with h4 | h4
  · have e : askF (fullT 64) cl se = (3, rz, 0) := by rw [full_some h h', if_neg (by omega), if_pos h4]
    simp [putF, e, resOk]
  · have e : askF (fullT 64) cl se = (2, ⟨1, []⟩, 0) := by rw [full_some h h', if_neg (by omega), if_neg (by omega)]
    simp [putF, e, resOk]
theorem full_more {cl se : Int} (h : 1 ≤ cl ∧ cl ≤ 4611686018427387904 ∧ 1 ≤ se ∧ se ≤ 4611686018427387904) (h' : cl % 2 = 0 ∧ cl ≤ 128) (h3 : 3 < se) : askF (fullT 64) cl se = (1, rz, 0) := by rw [full_some h h', if_pos h3]
theorem full_less {cl se : Int} (h : 1 ≤ cl ∧ cl ≤ 4611686018427387904 ∧ 1 ≤ se ∧ se ≤ 4611686018427387904) (h' : cl % 2 = 0 ∧ cl ≤ 128) (h3 : se < 3) : askF (fullT 64) cl se = (3, rz, 0) := by rw [full_some h h', if_neg (by omega), if_pos h3]
theorem full_same {cl se : Int} (h : 1 ≤ cl ∧ cl ≤ 4611686018427387904 ∧ 1 ≤ se ∧ se ≤ 4611686018427387904) (h' : cl % 2 = 0 ∧ cl ≤ 128) (h3 : se = 3) : askF (fullT 64) cl se = (2, ⟨1, []⟩, 0) := by rw [full_some h h', if_neg (by omega), if_neg (by omega)]
theorem full_more_len {cl se : Int} (h : 1 ≤ cl ∧ cl ≤ 4611686018427387904 ∧ 1 ≤ se ∧ se ≤ 4611686018427387904) (h' : cl % 2 = 0 ∧ cl ≤ 128) (x : Last) : (mput (fullT 64) cl x).length = 64 := by
  rw [mput_some_length (fullT_in 64 cl h'.1 (by omega) (by omega)), fullT_length]
theorem full_len_eq (k : Nat) (T : List (Int × Last)) (h : T.length = k) : ((T.length : Nat) : Int) = (k : Int) := by rw [h]
theorem fullT_len64 : ((fullT 64).length : Int) = 64 := by rw [fullT_length]; rfl
end Go.Proofs.Ytipjpgjahmadiaa
