/- THE VOLUME: what a row's reading says of the arguments. -/
import Derived.Test.YtihhpkbbhfcdcaaVd
set_option linter.unusedVariables false
set_option maxRecDepth 100000
namespace Go.Proofs.Ytihhpkbbhfcdcaa
open Go Go.Sx Go.Proofs
theorem opensSteps : Opens Try.prog 35 (Kd.slice kStep) (fun xs => xs.length * 104 ≤ 140737488351232 ∧ ∀ x ∈ xs, okStep x) := Opens.slice Try.underlying35 opensStep (by kernel_rfl) (by decide) (by kernel_rfl)
theorem opensPages : Opens Try.prog 33 (Kd.slice kPage) (fun xs => xs.length * 40 ≤ 140737488351232 ∧ ∀ x ∈ xs, okPage x) := Opens.slice Try.underlying33 opensPage (by kernel_rfl) (by decide) (by kernel_rfl)
end Go.Proofs.Ytihhpkbbhfcdcaa
