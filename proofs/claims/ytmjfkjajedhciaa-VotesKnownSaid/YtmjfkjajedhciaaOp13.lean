/- GROUPS: what a row's reading says of the arguments. -/
import Derived.Test.YtmjfkjajedhciaaGb1
set_option linter.unusedVariables false
set_option maxRecDepth 100000
namespace Go.Proofs.Ytmjfkjajedhciaa
open Go Go.Sx Go.Proofs
structure Grp where
  epoch : Int
  members : List Int
  deriving Inhabited, DecidableEq
def kGrp : Kd Grp := Kd.iso (Kd.pair (Kd.int .i64) (Kd.slice (Kd.int .i64))) (fun r => (r.epoch, r.members))
def okGrp (r : Grp) : Prop := ((Lit.int .i64 r.epoch).wf = true) ∧ ((r.members.length * 8 ≤ 140737488351232 ∧ ∀ y ∈ r.members, (Lit.int .i64 y).wf = true))
theorem opensGrp : Opens Try.prog 34 kGrp okGrp := Opens.struct Try.underlying34 (OpensF.cons (Opens.int Try.underlying3) (by kernel_rfl) rfl (OpensF.one (Opens.slice Try.underlying22 (Opens.int Try.underlying3) (by kernel_rfl) (by decide) (by kernel_rfl : Program.bytesOf Try.prog 3 = 8)) (by kernel_rfl))) (by kernel_rfl) (fun r : Grp => (r.epoch, r.members)) (fun p => (⟨p.1, p.2⟩ : Grp)) (fun _ => rfl)
theorem opensInts : Opens Try.prog 22 (Kd.slice (Kd.int .i64)) (fun xs => xs.length * 8 ≤ 140737488351232 ∧ ∀ x ∈ xs, (Lit.int .i64 x).wf = true) := Opens.slice Try.underlying22 (Opens.int Try.underlying3) (by kernel_rfl) (by decide) (by kernel_rfl)
end Go.Proofs.Ytmjfkjajedhciaa

