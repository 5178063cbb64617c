/- GROUPS: the group of the next epoch: the reference's walk; both tell the same. -/
import Derived.Test.YtmjfkjajedhciaaGb4
set_option linter.unusedVariables false
set_option linter.unusedSimpArgs false
set_option maxRecDepth 100000
namespace Go.Proofs.Ytmjfkjajedhciaa
open Go Go.Sx Go.Proofs
def wantP (l add drop : List Int) (n : Int) : Prop := (n ∈ l ∨ n ∈ add) ∧ n ∉ drop
instance (l add drop : List Int) (n : Int) : Decidable (wantP l add drop n) := by unfold wantP; infer_instance
def outR (l add drop : List Int) : Nat → List Int
  | 0 => []
  | k + 1 => outR l add drop k ++ (if wantP l add drop (k : Int) then [(k : Int)] else [])
theorem outR_le (l add drop : List Int) (k : Nat) : (outR l add drop k).length ≤ k := by
  induction k with
  | zero => simp [outR]
  | succ k ih => simp only [outR, List.length_append]; split <;> simp <;> omega
def badP (drop : List Int) (x : Int) : Prop := (x < 0 ∨ x ≥ 64) ∧ x ∉ drop
instance (drop : List Int) (x : Int) : Decidable (badP drop x) := by unfold badP; infer_instance
def nextR (e : Int) (l add drop : List Int) : Int × List Int × Int :=
  if groupOk e l = true then
    if e ≥ 4611686018427387904 then (0, [], 130)
    else if ∃ x ∈ add, badP drop x then (0, [], 130)
    else if groupOk (e + 1) (outR l add drop 64) = true then (e + 1, outR l add drop 64, 0) else (0, [], 130)
  else (0, [], 130)
end Go.Proofs.Ytmjfkjajedhciaa

