/- THE TABLE: what a row's reading says of the arguments. -/
import Derived.Test.YtipjpgjahmadiaaSxt
import Derived.Test.YtipjpgjahmadiaaSxR
set_option linter.unusedVariables false
set_option maxRecDepth 100000
namespace Go.Proofs.Ytipjpgjahmadiaa
open Go Go.Sx Go.Proofs
def okRes (r : Res) : Prop := ((Lit.int .u8 r.code).wf = true) ∧ ((r.data.length * 1 ≤ 140737488351232 ∧ ∀ y ∈ r.data, True))
theorem opensRes : Opens Try.prog 29 kRes okRes := Opens.struct Try.underlying29 (OpensF.cons (Opens.int Try.underlying26) (by kernel_rfl) rfl (OpensF.one (Opens.slice Try.underlying27 (Opens.u8 Try.underlying5) (by kernel_rfl) (by decide) (by kernel_rfl : Program.bytesOf Try.prog 5 = 1)) (by kernel_rfl))) (by kernel_rfl) (fun r : Res => (r.code, r.data)) (fun p => (⟨p.1, p.2⟩ : Res)) (fun _ => rfl)
def okRow (r : Row) : Prop := ((Lit.int .i64 r.client).wf = true) ∧ ((Lit.int .i64 r.serial).wf = true) ∧ (okRes r.result)
theorem opensRow : Opens Try.prog 68 kRow okRow := Opens.struct Try.underlying68 (OpensF.cons (Opens.int Try.underlying3) (by kernel_rfl) rfl (OpensF.cons (Opens.int Try.underlying3) (by kernel_rfl) rfl (OpensF.one opensRes (by kernel_rfl)))) (by kernel_rfl) (fun r : Row => (r.client, r.serial, r.result)) (fun p => (⟨p.1, p.2.1, p.2.2⟩ : Row)) (fun _ => rfl)
def okTCall (r : TCall) : Prop := (True) ∧ ((Lit.int .i64 r.client).wf = true) ∧ ((Lit.int .i64 r.serial).wf = true) ∧ (okRes r.r)
theorem opensTCall : Opens Try.prog 31 kTCall okTCall := Opens.struct Try.underlying31 (OpensF.cons (Opens.bool Try.underlying4) (by kernel_rfl) rfl (OpensF.cons (Opens.int Try.underlying3) (by kernel_rfl) rfl (OpensF.cons (Opens.int Try.underlying3) (by kernel_rfl) rfl (OpensF.one opensRes (by kernel_rfl))))) (by kernel_rfl) (fun r : TCall => (r.done, r.client, r.serial, r.r)) (fun p => (⟨p.1, p.2.1, p.2.2.1, p.2.2.2⟩ : TCall)) (fun _ => rfl)
theorem opensCalls : Opens Try.prog 22 (Kd.slice kTCall) (fun xs => xs.length * 56 ≤ 140737488351232 ∧ ∀ x ∈ xs, okTCall x) := Opens.slice Try.underlying22 opensTCall (by kernel_rfl) (by decide) (by kernel_rfl)
theorem opensRows : Opens Try.prog 47 (Kd.slice kRow) (fun xs => xs.length * 48 ≤ 140737488351232 ∧ ∀ x ∈ xs, okRow x) := Opens.slice Try.underlying47 opensRow (by kernel_rfl) (by decide) (by kernel_rfl)
end Go.Proofs.Ytipjpgjahmadiaa
