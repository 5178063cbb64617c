/- GROUPS: each member leads once in turn: plain words, and the walk of the law. -/
import Derived.Test.YtmjfkjajedhciaaGb7
set_option linter.unusedVariables false
set_option linter.unusedSimpArgs false
set_option maxRecDepth 100000
namespace Go.Proofs.Ytmjfkjajedhciaa
open Go Go.Sx Go.Proofs
def accT (l : List Int) (view : Int) : Nat → List Int
  | 0 => []
  | k + 1 => accT l view k ++ [gt l ((view + (k : Int)) % (l.length : Int))]
theorem accT_len (l : List Int) (view : Int) (k : Nat) : (accT l view k).length = k := by
  induction k with
  | zero => rfl
  | succ k ih => simp [accT, ih]
theorem accT_mem {l : List Int} {view : Int} {x : Int} : ∀ {k : Nat}, x ∈ accT l view k → ∃ j, j < k ∧ x = gt l ((view + ((j : Nat) : Int)) % (l.length : Int))
  | 0, h => by simp [accT] at h
  | k + 1, h => by
    rw [accT, List.mem_append, List.mem_singleton] at h
    rcases h with h | h
    · obtain ⟨j, hj, e⟩ := accT_mem h
      exact ⟨j, by omega, e⟩
    · exact ⟨k, by omega, h⟩
theorem gt_inj {l : List Int} (h : l.Pairwise (· < ·)) {i j : Nat} (hi : i < l.length) (hj : j < l.length) (e : gt l (i : Int) = gt l (j : Int)) : i = j := by
  rw [gt_get hi, gt_get hj] at e
  have := List.pairwise_iff_getElem.1 h
  rcases Nat.lt_trichotomy i j with g | g | g
  · have := this i j hi hj g; omega
  · exact g
  · have := this j i hj hi g; omega
theorem accT_new {e : Int} {l : List Int} {view : Int} {k : Nat} (hg : groupOk e l = true) (hk : k < l.length) : gt l ((view + (k : Int)) % (l.length : Int)) ∉ accT l view k := fun hm => by
  obtain ⟨j, hj, e1⟩ := accT_mem hm
  have hl := grp_len hg
  have m0 := Int.emod_nonneg (view + (k : Int)) (show (l.length : Int) ≠ 0 by omega)
  have m1 := Int.emod_lt_of_pos (view + (k : Int)) (show 0 < (l.length : Int) by omega)
  have n0 := Int.emod_nonneg (view + (j : Int)) (show (l.length : Int) ≠ 0 by omega)
  have n1 := Int.emod_lt_of_pos (view + (j : Int)) (show 0 < (l.length : Int) by omega)
  obtain ⟨p, hp⟩ := Int.eq_ofNat_of_zero_le m0
  obtain ⟨q, hq⟩ := Int.eq_ofNat_of_zero_le n0
  rw [hp, hq] at e1
  have := gt_inj (grp_mem hg).2 (by omega) (by omega) e1
  have e2 : (view + (k : Int)) % (l.length : Int) = (view + (j : Int)) % (l.length : Int) := by rw [hp, hq, this]
  have e3 := (Int.emod_eq_emod_iff_emod_sub_eq_zero).1 e2
  have e4 := Int.dvd_of_emod_eq_zero e3
  have e5 : view + (k : Int) - (view + (j : Int)) = ((k - j : Nat) : Int) := by omega
  rw [e5] at e4
  have := Int.le_of_dvd (by omega) e4
  omega
end Go.Proofs.Ytmjfkjajedhciaa

