/- GROUPS: walks of the laws: which may be, who leads, the next group, each leads in turn. -/
import Derived.Test.YtmjfkjajedhciaaGb6
set_option linter.unusedVariables false
set_option linter.unusedSimpArgs false
set_option maxRecDepth 100000
namespace Go.Proofs.Ytmjfkjajedhciaa
open Go Go.Sx Go.Proofs
theorem awake_next : nextF 0 [1, 4, 6] [2] [4] = (1, [1, 2, 6], 0) := by rw [next_eq]; decide +kernel
end Go.Proofs.Ytmjfkjajedhciaa

