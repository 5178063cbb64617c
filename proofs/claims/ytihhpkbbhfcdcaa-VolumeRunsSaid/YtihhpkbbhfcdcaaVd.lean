/- THE VOLUME: data and what a reading says of it; what the functions answer, in plain words. -/
import Derived.Test.YtihhpkbbhfcdcaaSxt
import Derived.Test.YtihhpkbbhfcdcaaSxR
import Derived.Test.YtihhpkbbhfcdcaaSx12
set_option linter.unusedVariables false
set_option linter.unusedSimpArgs false
set_option maxRecDepth 100000
namespace Go.Proofs.Ytihhpkbbhfcdcaa
open Go Go.Sx Go.Proofs
def okRes (r : Res) : Prop := ((Lit.int .u8 r.code).wf = true) ∧ ((r.data.length * 1 ≤ 140737488351232 ∧ ∀ y ∈ r.data, True))
theorem opensRes : Opens Try.prog 49 kRes okRes := Opens.struct Try.underlying49 (OpensF.cons (Opens.int Try.underlying47) (by kernel_rfl) rfl (OpensF.one (Opens.slice Try.underlying31 (Opens.u8 Try.underlying5) (by kernel_rfl) (by decide) (by kernel_rfl : Program.bytesOf Try.prog 5 = 1)) (by kernel_rfl))) (by kernel_rfl) (fun r : Res => (r.code, r.data)) (fun p => (⟨p.1, p.2⟩ : Res)) (fun _ => rfl)
structure Shp where
  bl : Int
  sz : Int
  deriving Inhabited, DecidableEq
def kShp : Kd Shp := Kd.iso (Kd.pair (Kd.int .i64) (Kd.int .i64)) (fun r => (r.bl, r.sz))
def okShp (r : Shp) : Prop := ((Lit.int .i64 r.bl).wf = true) ∧ ((Lit.int .i64 r.sz).wf = true)
theorem opensShp : Opens Try.prog 23 kShp okShp := Opens.struct Try.underlying23 (OpensF.cons (Opens.int Try.underlying3) (by kernel_rfl) rfl (OpensF.one (Opens.int Try.underlying3) (by kernel_rfl))) (by kernel_rfl) (fun r : Shp => (r.bl, r.sz)) (fun p => (⟨p.1, p.2⟩ : Shp)) (fun _ => rfl)
structure OpD where
  kind : Int
  at_ : Int
  n : Int
  data : List UInt8
  old : List UInt8
  deriving Inhabited, DecidableEq
def kOpD : Kd OpD := Kd.iso (Kd.pair (Kd.int .u8) (Kd.pair (Kd.int .i64) (Kd.pair (Kd.int .i64) (Kd.pair kBytes (kBytes))))) (fun r => (r.kind, r.at_, r.n, r.data, r.old))
def okOpD (r : OpD) : Prop := ((Lit.int .u8 r.kind).wf = true) ∧ ((Lit.int .i64 r.at_).wf = true) ∧ ((Lit.int .i64 r.n).wf = true) ∧ ((r.data.length * 1 ≤ 140737488351232 ∧ ∀ y ∈ r.data, True)) ∧ ((r.old.length * 1 ≤ 140737488351232 ∧ ∀ y ∈ r.old, True))
theorem opensOpD : Opens Try.prog 42 kOpD okOpD := Opens.struct Try.underlying42 (OpensF.cons (Opens.int Try.underlying40) (by kernel_rfl) rfl (OpensF.cons (Opens.int Try.underlying3) (by kernel_rfl) rfl (OpensF.cons (Opens.int Try.underlying3) (by kernel_rfl) rfl (OpensF.cons (Opens.slice Try.underlying31 (Opens.u8 Try.underlying5) (by kernel_rfl) (by decide) (by kernel_rfl : Program.bytesOf Try.prog 5 = 1)) (by kernel_rfl) rfl (OpensF.one (Opens.slice Try.underlying31 (Opens.u8 Try.underlying5) (by kernel_rfl) (by decide) (by kernel_rfl : Program.bytesOf Try.prog 5 = 1)) (by kernel_rfl)))))) (by kernel_rfl) (fun r : OpD => (r.kind, r.at_, r.n, r.data, r.old)) (fun p => (⟨p.1, p.2.1, p.2.2.1, p.2.2.2.1, p.2.2.2.2⟩ : OpD)) (fun _ => rfl)
structure Page where
  at_ : Int
  ver : Int
  data : List UInt8
  deriving Inhabited, DecidableEq
def kPage : Kd Page := Kd.iso (Kd.pair (Kd.int .i64) (Kd.pair (Kd.int .i64) (kBytes))) (fun r => (r.at_, r.ver, r.data))
def okPage (r : Page) : Prop := ((Lit.int .i64 r.at_).wf = true) ∧ ((Lit.int .i64 r.ver).wf = true) ∧ ((r.data.length * 1 ≤ 140737488351232 ∧ ∀ y ∈ r.data, True))
theorem opensPage : Opens Try.prog 71 kPage okPage := Opens.struct Try.underlying71 (OpensF.cons (Opens.int Try.underlying3) (by kernel_rfl) rfl (OpensF.cons (Opens.int Try.underlying3) (by kernel_rfl) rfl (OpensF.one (Opens.slice Try.underlying31 (Opens.u8 Try.underlying5) (by kernel_rfl) (by decide) (by kernel_rfl : Program.bytesOf Try.prog 5 = 1)) (by kernel_rfl)))) (by kernel_rfl) (fun r : Page => (r.at_, r.ver, r.data)) (fun p => (⟨p.1, p.2.1, p.2.2⟩ : Page)) (fun _ => rfl)
structure Step where
  o : OpD
  num : Int
  pages : List Page
  deriving Inhabited, DecidableEq
def kStep : Kd Step := Kd.iso (Kd.pair kOpD (Kd.pair (Kd.int .i64) (Kd.slice kPage))) (fun r => (r.o, r.num, r.pages))
def okStep (r : Step) : Prop := (okOpD r.o) ∧ ((Lit.int .i64 r.num).wf = true) ∧ ((r.pages.length * 40 ≤ 140737488351232 ∧ ∀ y ∈ r.pages, okPage y))
theorem opensStep : Opens Try.prog 44 kStep okStep := Opens.struct Try.underlying44 (OpensF.cons opensOpD (by kernel_rfl) rfl (OpensF.cons (Opens.int Try.underlying3) (by kernel_rfl) rfl (OpensF.one (Opens.slice Try.underlying33 opensPage (by kernel_rfl) (by decide) (by kernel_rfl : Program.bytesOf Try.prog 71 = 40)) (by kernel_rfl)))) (by kernel_rfl) (fun r : Step => (r.o, r.num, r.pages)) (fun p => (⟨p.1, p.2.1, p.2.2⟩ : Step)) (fun _ => rfl)
def rz : Res := ⟨0, []⟩

/-! ### shapes and requests -/
def shapeOk (bl sz : Int) : Prop := 1 ≤ bl ∧ bl ≤ 4096 ∧ 1 ≤ sz ∧ sz ≤ 4096
instance (bl sz : Int) : Decidable (shapeOk bl sz) := by unfold shapeOk; infer_instance
def shapeE (bl sz : Int) : Int := if shapeOk bl sz then 0 else 40
def bareP (kind a n : Int) (dl ol : Nat) : Prop := (kind = 4 ∧ a = 0 ∧ n = 0 ∧ dl = 0 ∧ ol = 0) ∨ ((kind = 1 ∨ kind = 3) ∧ dl = 0 ∧ ol = 0) ∨ (kind = 2 ∧ ol = 0) ∨ (kind = 5 ∧ n = 0)
instance (kind a n : Int) (dl ol : Nat) : Decidable (bareP kind a n dl ol) := by unfold bareP; infer_instance
def formP (kind a n : Int) (dl ol : Nat) : Prop := 0 ≤ a ∧ a ≤ 2147483647 ∧ 0 ≤ n ∧ n ≤ 2147483647 ∧ dl ≤ 262144 ∧ ol ≤ 4096 ∧ bareP kind a n dl ol
instance (kind a n : Int) (dl ol : Nat) : Decidable (formP kind a n dl ol) := by unfold formP; infer_instance
def formE (kind a n : Int) (dl ol : Nat) : Int := if formP kind a n dl ol then 0 else 41
def chgP (kind : Int) : Prop := kind = 2 ∨ kind = 3 ∨ kind = 5
instance (kind : Int) : Decidable (chgP kind) := by unfold chgP; infer_instance
/-- Does a request fit a shape: the code, the error. -/
def fitF (bl sz kind a n : Int) (dl ol : Nat) : Int × Int :=
  if ¬ shapeOk bl sz then (0, 40)
  else if ¬ formP kind a n dl ol then (0, 41)
  else if kind = 4 then (1, 0)
  else if kind = 5 then (if a ≥ bl then (2, 0) else if (dl : Int) ≠ sz ∨ (ol : Int) ≠ sz then (3, 0) else (1, 0))
  else if n < 1 ∨ n > 64 ∨ a > bl - n then (2, 0)
  else if kind = 2 ∧ (dl : Int) ≠ n * sz then (3, 0)
  else (1, 0)
end Go.Proofs.Ytihhpkbbhfcdcaa
