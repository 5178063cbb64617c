/-
  No cell of these rows narrows 'for every input' (looked for: loops, veiled, ifaces, maps, wideKeys, modest, calm, conditions, laid).
  DERIVED. THE GIVEN ROWS OF THIS SEAT. 6 by the template 'for every input the law returns true; each argument reads behind the call as it read before'; 0 by the template 'total and deterministic' (their statements: YtihhpkbbhfcdcaaTotals.lean).
  GIVEN WITH THE SEED: the statements are not yours to turn. If you find one false, say at which input.
  Laid BY PROGRAM, IN A SANDBOX (cutbox-rows.mjs): the forced cells as the released guide's own fill.sh prints them over the translation 27d407f2589452a1… (all of the seat's roots in one cut). By AI agents, Wed Nov 11 2026. No macro, syntax, notation, axiom, sorry.
-/
import Derived.Test.YtihhpkbbhfcdcaaChecked
import GoSem.Claim
import GoSem.ClaimJoined
import GoSem.ClaimMapViews
import Derived.JoinedTies
import Derived.KernelRfl
namespace Go.Proofs.Ytihhpkbbhfcdcaa
/- THE CELL 'sum', in the pinned program and in every row, IS THE sha256 OF THE DUMP (.gsa) THAT YtihhpkbbhfcdcaaProg.lean LOADS. Nothing in Lean hashes anything: it is a label: what it is worth is what the hold of that sum in a sandbox is worth. -/
noncomputable def Try.pinned : Pinned := { name := "ytihhpkbbhfcdcaa", sum := "27d407f2589452a18b343326f26d99686c78bea4c5b6be4ad1546a6434a07352", checked := Try.checked }
namespace Rows
def none {H : Type} : Left H := { results := [], args := [] }

/-- 'plinthlaw05.VolumeNew': WHATEVER THE INPUT: true; the input reads as it did. -/
def volumeNewSpec : ChangeSpec := { name := "volumeNew", fn := fun _ => fun
  | [d] => { results := [.lit (.bool true)], args := [d] }
  | _ => none }
def volumeNewRow : OpenClaim := { program := "ytihhpkbbhfcdcaa", sum := "27d407f2589452a18b343326f26d99686c78bea4c5b6be4ad1546a6434a07352", func := "plinth/plinthlaw05.VolumeNew", spec := "volumeNew", apart := false }
def VolumeNewSaid : Prop := volumeNewRow.holds Try.pinned (OpenSpec.ofChange volumeNewSpec)

/-- ITS FALSE NEIGHBOUR: 'it returns false'. Refute it at one input. -/
def volumeNewWrong : ChangeSpec := { name := "volumeNew", fn := fun _ => fun
  | [d] => { results := [.lit (.bool false)], args := [d] }
  | _ => none }
def VolumeNewWrongFalsely : Prop := volumeNewRow.holds Try.pinned (OpenSpec.ofChange volumeNewWrong)

/-- 'plinthlaw05.VolumePages': WHATEVER THE INPUT: true; the input reads as it did. -/
def volumePagesSpec : ChangeSpec := { name := "volumePages", fn := fun _ => fun
  | [d1, d2, d3] => { results := [.lit (.bool true)], args := [d1, d2, d3] }
  | _ => none }
def volumePagesRow : OpenClaim := { program := "ytihhpkbbhfcdcaa", sum := "27d407f2589452a18b343326f26d99686c78bea4c5b6be4ad1546a6434a07352", func := "plinth/plinthlaw05.VolumePages", spec := "volumePages", unfollowed := true, recurses := true, apart := false }
def VolumePagesSaid : Prop := volumePagesRow.holds Try.pinned (OpenSpec.ofChange volumePagesSpec)

/-- ITS FALSE NEIGHBOUR: 'it returns false'. Refute it at one input. -/
def volumePagesWrong : ChangeSpec := { name := "volumePages", fn := fun _ => fun
  | [d1, d2, d3] => { results := [.lit (.bool false)], args := [d1, d2, d3] }
  | _ => none }
def VolumePagesWrongFalsely : Prop := volumePagesRow.holds Try.pinned (OpenSpec.ofChange volumePagesWrong)

/-- 'plinthlaw05.VolumeReads': WHATEVER THE INPUT: true; the input reads as it did. -/
def volumeReadsSpec : ChangeSpec := { name := "volumeReads", fn := fun _ => fun
  | [d1, d2, d3] => { results := [.lit (.bool true)], args := [d1, d2, d3] }
  | _ => none }
def volumeReadsRow : OpenClaim := { program := "ytihhpkbbhfcdcaa", sum := "27d407f2589452a18b343326f26d99686c78bea4c5b6be4ad1546a6434a07352", func := "plinth/plinthlaw05.VolumeReads", spec := "volumeReads", unfollowed := true, recurses := true, apart := false }
def VolumeReadsSaid : Prop := volumeReadsRow.holds Try.pinned (OpenSpec.ofChange volumeReadsSpec)

/-- ITS FALSE NEIGHBOUR: 'it returns false'. Refute it at one input. -/
def volumeReadsWrong : ChangeSpec := { name := "volumeReads", fn := fun _ => fun
  | [d1, d2, d3] => { results := [.lit (.bool false)], args := [d1, d2, d3] }
  | _ => none }
def VolumeReadsWrongFalsely : Prop := volumeReadsRow.holds Try.pinned (OpenSpec.ofChange volumeReadsWrong)

/-- 'plinthlaw05.VolumeChanged': WHATEVER THE INPUT: true; the input reads as it did. -/
def volumeChangedSpec : ChangeSpec := { name := "volumeChanged", fn := fun _ => fun
  | [d1, d2, d3] => { results := [.lit (.bool true)], args := [d1, d2, d3] }
  | _ => none }
def volumeChangedRow : OpenClaim := { program := "ytihhpkbbhfcdcaa", sum := "27d407f2589452a18b343326f26d99686c78bea4c5b6be4ad1546a6434a07352", func := "plinth/plinthlaw05.VolumeChanged", spec := "volumeChanged", unfollowed := true, recurses := true, apart := false }
def VolumeChangedSaid : Prop := volumeChangedRow.holds Try.pinned (OpenSpec.ofChange volumeChangedSpec)

/-- ITS FALSE NEIGHBOUR: 'it returns false'. Refute it at one input. -/
def volumeChangedWrong : ChangeSpec := { name := "volumeChanged", fn := fun _ => fun
  | [d1, d2, d3] => { results := [.lit (.bool false)], args := [d1, d2, d3] }
  | _ => none }
def VolumeChangedWrongFalsely : Prop := volumeChangedRow.holds Try.pinned (OpenSpec.ofChange volumeChangedWrong)

/-- 'plinthlaw05.VolumeNobody': WHATEVER THE INPUT: true; the input reads as it did. -/
def volumeNobodySpec : ChangeSpec := { name := "volumeNobody", fn := fun _ => fun
  | [d1, d2] => { results := [.lit (.bool true)], args := [d1, d2] }
  | _ => none }
def volumeNobodyRow : OpenClaim := { program := "ytihhpkbbhfcdcaa", sum := "27d407f2589452a18b343326f26d99686c78bea4c5b6be4ad1546a6434a07352", func := "plinth/plinthlaw05.VolumeNobody", spec := "volumeNobody", unfollowed := true, recurses := true, apart := false }
def VolumeNobodySaid : Prop := volumeNobodyRow.holds Try.pinned (OpenSpec.ofChange volumeNobodySpec)

/-- ITS FALSE NEIGHBOUR: 'it returns false'. Refute it at one input. -/
def volumeNobodyWrong : ChangeSpec := { name := "volumeNobody", fn := fun _ => fun
  | [d1, d2] => { results := [.lit (.bool false)], args := [d1, d2] }
  | _ => none }
def VolumeNobodyWrongFalsely : Prop := volumeNobodyRow.holds Try.pinned (OpenSpec.ofChange volumeNobodyWrong)

/-- 'plinthlaw05.VolumeRuns': WHATEVER THE INPUT: true; the input reads as it did. -/
def volumeRunsSpec : ChangeSpec := { name := "volumeRuns", fn := fun _ => fun
  | [d1, d2, d3] => { results := [.lit (.bool true)], args := [d1, d2, d3] }
  | _ => none }
def volumeRunsRow : OpenClaim := { program := "ytihhpkbbhfcdcaa", sum := "27d407f2589452a18b343326f26d99686c78bea4c5b6be4ad1546a6434a07352", func := "plinth/plinthlaw05.VolumeRuns", spec := "volumeRuns", unfollowed := true, recurses := true, apart := false }
def VolumeRunsSaid : Prop := volumeRunsRow.holds Try.pinned (OpenSpec.ofChange volumeRunsSpec)

/-- ITS FALSE NEIGHBOUR: 'it returns false'. Refute it at one input. -/
def volumeRunsWrong : ChangeSpec := { name := "volumeRuns", fn := fun _ => fun
  | [d1, d2, d3] => { results := [.lit (.bool false)], args := [d1, d2, d3] }
  | _ => none }
def VolumeRunsWrongFalsely : Prop := volumeRunsRow.holds Try.pinned (OpenSpec.ofChange volumeRunsWrong)

/- THE SECOND FORM. 'bulk': how many values and letters a reading holds, each counted each time it is reached (what is shared counts as often as it is met; a slice's spare places count too). A statement '..UptoSaid' is the law's where the arguments, and the package variables that the reading takes, are together of bulk at most 1048576: NARROWER than '..Said'. Prove '..Said' where nothing that the law and all that it calls make is longer than what came in: it says more and counts as full. Else prove '..UptoSaid'. A law counts once. -/
mutual
def uptoBulk {H : Type} : DataW H → Nat
  | .lit (.string bytes) => bytes.length + 1
  | .lit _ => 1
  | .nil => 1
  | .ptr d => uptoBulk d + 1
  | .slice elems spare => uptoBulkAll elems + uptoBulkAll spare + 1
  | .agg parts => uptoBulkAll parts + 1
  | .iface _ d => uptoBulk d + 1
  | .map entries => uptoBulkEntries entries + 1
  | .held _ => 1
def uptoBulkAll {H : Type} : List (DataW H) → Nat
  | [] => 0
  | d :: r => uptoBulk d + uptoBulkAll r
def uptoBulkEntries {H : Type} : List (Lit × DataW H) → Nat
  | [] => 0
  | x :: r => uptoBulkEntry x + uptoBulkEntries r
def uptoBulkEntry {H : Type} : Lit × DataW H → Nat
  | (.string bytes, d) => bytes.length + uptoBulk d + 1
  | (_, d) => uptoBulk d + 1
 end
def uptoSmall : (H : Type) → List (DataW H) → Bool := fun _ ds => decide (uptoBulkAll ds ≤ 1048576)
def OpenSpec.upto (s : _root_.Go.ChangeSpec) : _root_.Go.OpenSpec := { _root_.Go.OpenSpec.ofChange s with cond := some uptoSmall }

/-- 'plinthlaw05.VolumeNew', WHERE WHAT IT READS IS OF BULK AT MOST 1048576: true; the input reads as it did. -/
def volumeNewUptoRow : OpenClaim := { program := "ytihhpkbbhfcdcaa", sum := "27d407f2589452a18b343326f26d99686c78bea4c5b6be4ad1546a6434a07352", func := "plinth/plinthlaw05.VolumeNew", spec := "volumeNew", apart := false, narrowed := true }
def VolumeNewUptoSaid : Prop := volumeNewUptoRow.holds Try.pinned (OpenSpec.upto volumeNewSpec)

/-- 'plinthlaw05.VolumePages', WHERE WHAT IT READS IS OF BULK AT MOST 1048576: true; the input reads as it did. -/
def volumePagesUptoRow : OpenClaim := { program := "ytihhpkbbhfcdcaa", sum := "27d407f2589452a18b343326f26d99686c78bea4c5b6be4ad1546a6434a07352", func := "plinth/plinthlaw05.VolumePages", spec := "volumePages", unfollowed := true, recurses := true, apart := false, narrowed := true }
def VolumePagesUptoSaid : Prop := volumePagesUptoRow.holds Try.pinned (OpenSpec.upto volumePagesSpec)

/-- 'plinthlaw05.VolumeReads', WHERE WHAT IT READS IS OF BULK AT MOST 1048576: true; the input reads as it did. -/
def volumeReadsUptoRow : OpenClaim := { program := "ytihhpkbbhfcdcaa", sum := "27d407f2589452a18b343326f26d99686c78bea4c5b6be4ad1546a6434a07352", func := "plinth/plinthlaw05.VolumeReads", spec := "volumeReads", unfollowed := true, recurses := true, apart := false, narrowed := true }
def VolumeReadsUptoSaid : Prop := volumeReadsUptoRow.holds Try.pinned (OpenSpec.upto volumeReadsSpec)

/-- 'plinthlaw05.VolumeChanged', WHERE WHAT IT READS IS OF BULK AT MOST 1048576: true; the input reads as it did. -/
def volumeChangedUptoRow : OpenClaim := { program := "ytihhpkbbhfcdcaa", sum := "27d407f2589452a18b343326f26d99686c78bea4c5b6be4ad1546a6434a07352", func := "plinth/plinthlaw05.VolumeChanged", spec := "volumeChanged", unfollowed := true, recurses := true, apart := false, narrowed := true }
def VolumeChangedUptoSaid : Prop := volumeChangedUptoRow.holds Try.pinned (OpenSpec.upto volumeChangedSpec)

/-- 'plinthlaw05.VolumeNobody', WHERE WHAT IT READS IS OF BULK AT MOST 1048576: true; the input reads as it did. -/
def volumeNobodyUptoRow : OpenClaim := { program := "ytihhpkbbhfcdcaa", sum := "27d407f2589452a18b343326f26d99686c78bea4c5b6be4ad1546a6434a07352", func := "plinth/plinthlaw05.VolumeNobody", spec := "volumeNobody", unfollowed := true, recurses := true, apart := false, narrowed := true }
def VolumeNobodyUptoSaid : Prop := volumeNobodyUptoRow.holds Try.pinned (OpenSpec.upto volumeNobodySpec)

/-- 'plinthlaw05.VolumeRuns', WHERE WHAT IT READS IS OF BULK AT MOST 1048576: true; the input reads as it did. -/
def volumeRunsUptoRow : OpenClaim := { program := "ytihhpkbbhfcdcaa", sum := "27d407f2589452a18b343326f26d99686c78bea4c5b6be4ad1546a6434a07352", func := "plinth/plinthlaw05.VolumeRuns", spec := "volumeRuns", unfollowed := true, recurses := true, apart := false, narrowed := true }
def VolumeRunsUptoSaid : Prop := volumeRunsUptoRow.holds Try.pinned (OpenSpec.upto volumeRunsSpec)

end Rows
end Go.Proofs.Ytihhpkbbhfcdcaa
