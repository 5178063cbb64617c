/- VOTES: what a row's reading says of the arguments. -/
import Derived.Test.YtmjfkjajedhciaaVa3
set_option linter.unusedVariables false
set_option maxRecDepth 100000
namespace Go.Proofs.Ytmjfkjajedhciaa
open Go Go.Sx Go.Proofs
theorem opensAcks : Opens Try.prog 23 (Kd.slice kAck) (fun xs => xs.length * 16 ≤ 140737488351232 ∧ ∀ x ∈ xs, okAck x) := Opens.slice Try.underlying23 opensAck (by kernel_rfl) (by decide) (by kernel_rfl)
end Go.Proofs.Ytmjfkjajedhciaa
