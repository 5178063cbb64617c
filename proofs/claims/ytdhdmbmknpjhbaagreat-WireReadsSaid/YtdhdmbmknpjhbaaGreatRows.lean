/-
  No cell of these rows narrows 'for every input' (looked for: loops, veiled, ifaces, maps, wideKeys, modest, calm, conditions, laid).
  DERIVED. THE GIVEN ROWS OF THIS SEAT. 7 by the template 'for every input the law returns true; each argument reads behind the call as it read before'; 0 by the template 'total and deterministic' (their statements: YtdhdmbmknpjhbaaGreatTotals.lean).
  GIVEN WITH THE SEED: the statements are not yours to turn. If you find one false, say at which input.
  Laid BY PROGRAM, IN A SANDBOX (cutbox-rows.mjs): the forced cells as the released guide's own fill.sh prints them over the translation 8908d0cc9b231ebc… (all of the seat's roots in one cut). By AI agents, Wed Nov 11 2026. No macro, syntax, notation, axiom, sorry.
-/
import Derived.Test.YtdhdmbmknpjhbaaGreatChecked
import GoSem.Claim
import GoSem.ClaimJoined
import GoSem.ClaimMapViews
import Derived.JoinedTies
import Derived.KernelRfl
namespace Go.Proofs.YtdhdmbmknpjhbaaGreat
/- THE CELL 'sum', in the pinned program and in every row, IS THE sha256 OF THE DUMP (.gsa) THAT YtdhdmbmknpjhbaaGreatProg.lean LOADS. Nothing in Lean hashes anything: it is a label: what it is worth is what the hold of that sum in a sandbox is worth. -/
noncomputable def Tryz.pinned : Pinned := { name := "ytdhdmbmknpjhbaagreat", sum := "8908d0cc9b231ebc7ed6c73a75fade84f752ccaff239e7702c7ad71670c37f53", checked := Tryz.checked }
namespace Rows
def none {H : Type} : Left H := { results := [], args := [] }

/-- 'plinthlaw16.WireForms': WHATEVER THE INPUT: true; the input reads as it did. -/
def wireFormsSpec : ChangeSpec := { name := "wireForms", fn := fun _ => fun
  | [d1, d2] => { results := [.lit (.bool true)], args := [d1, d2] }
  | _ => none }
def wireFormsRow : OpenClaim := { program := "ytdhdmbmknpjhbaagreat", sum := "8908d0cc9b231ebc7ed6c73a75fade84f752ccaff239e7702c7ad71670c37f53", func := "plinth/plinthlaw16.WireForms", spec := "wireForms", unfollowed := true, recurses := true, apart := false }
def WireFormsSaid : Prop := wireFormsRow.holds Tryz.pinned (OpenSpec.ofChange wireFormsSpec)

/-- ITS FALSE NEIGHBOUR: 'it returns false'. Refute it at one input. -/
def wireFormsWrong : ChangeSpec := { name := "wireForms", fn := fun _ => fun
  | [d1, d2] => { results := [.lit (.bool false)], args := [d1, d2] }
  | _ => none }
def WireFormsWrongFalsely : Prop := wireFormsRow.holds Tryz.pinned (OpenSpec.ofChange wireFormsWrong)

/-- 'plinthlaw16.WireWrites': WHATEVER THE INPUT: true; the input reads as it did. -/
def wireWritesSpec : ChangeSpec := { name := "wireWrites", fn := fun _ => fun
  | [d] => { results := [.lit (.bool true)], args := [d] }
  | _ => none }
def wireWritesRow : OpenClaim := { program := "ytdhdmbmknpjhbaagreat", sum := "8908d0cc9b231ebc7ed6c73a75fade84f752ccaff239e7702c7ad71670c37f53", func := "plinth/plinthlaw16.WireWrites", spec := "wireWrites", unfollowed := true, recurses := true, apart := false }
def WireWritesSaid : Prop := wireWritesRow.holds Tryz.pinned (OpenSpec.ofChange wireWritesSpec)

/-- ITS FALSE NEIGHBOUR: 'it returns false'. Refute it at one input. -/
def wireWritesWrong : ChangeSpec := { name := "wireWrites", fn := fun _ => fun
  | [d] => { results := [.lit (.bool false)], args := [d] }
  | _ => none }
def WireWritesWrongFalsely : Prop := wireWritesRow.holds Tryz.pinned (OpenSpec.ofChange wireWritesWrong)

/-- 'plinthlaw16.WireReads': WHATEVER THE INPUT: true; the input reads as it did. -/
def wireReadsSpec : ChangeSpec := { name := "wireReads", fn := fun _ => fun
  | [d] => { results := [.lit (.bool true)], args := [d] }
  | _ => none }
def wireReadsRow : OpenClaim := { program := "ytdhdmbmknpjhbaagreat", sum := "8908d0cc9b231ebc7ed6c73a75fade84f752ccaff239e7702c7ad71670c37f53", func := "plinth/plinthlaw16.WireReads", spec := "wireReads", unfollowed := true, recurses := true, apart := false }
def WireReadsSaid : Prop := wireReadsRow.holds Tryz.pinned (OpenSpec.ofChange wireReadsSpec)

/-- ITS FALSE NEIGHBOUR: 'it returns false'. Refute it at one input. -/
def wireReadsWrong : ChangeSpec := { name := "wireReads", fn := fun _ => fun
  | [d] => { results := [.lit (.bool false)], args := [d] }
  | _ => none }
def WireReadsWrongFalsely : Prop := wireReadsRow.holds Tryz.pinned (OpenSpec.ofChange wireReadsWrong)

/-- 'plinthlaw16.WireSealed': WHATEVER THE INPUT: true; the input reads as it did. -/
def wireSealedSpec : ChangeSpec := { name := "wireSealed", fn := fun _ => fun
  | [d] => { results := [.lit (.bool true)], args := [d] }
  | _ => none }
def wireSealedRow : OpenClaim := { program := "ytdhdmbmknpjhbaagreat", sum := "8908d0cc9b231ebc7ed6c73a75fade84f752ccaff239e7702c7ad71670c37f53", func := "plinth/plinthlaw16.WireSealed", spec := "wireSealed", unfollowed := true, recurses := true, apart := false }
def WireSealedSaid : Prop := wireSealedRow.holds Tryz.pinned (OpenSpec.ofChange wireSealedSpec)

/-- ITS FALSE NEIGHBOUR: 'it returns false'. Refute it at one input. -/
def wireSealedWrong : ChangeSpec := { name := "wireSealed", fn := fun _ => fun
  | [d] => { results := [.lit (.bool false)], args := [d] }
  | _ => none }
def WireSealedWrongFalsely : Prop := wireSealedRow.holds Tryz.pinned (OpenSpec.ofChange wireSealedWrong)

/-- 'plinthlaw16.WireBack': WHATEVER THE INPUT: true; the input reads as it did. -/
def wireBackSpec : ChangeSpec := { name := "wireBack", fn := fun _ => fun
  | [d] => { results := [.lit (.bool true)], args := [d] }
  | _ => none }
def wireBackRow : OpenClaim := { program := "ytdhdmbmknpjhbaagreat", sum := "8908d0cc9b231ebc7ed6c73a75fade84f752ccaff239e7702c7ad71670c37f53", func := "plinth/plinthlaw16.WireBack", spec := "wireBack", unfollowed := true, recurses := true, apart := false }
def WireBackSaid : Prop := wireBackRow.holds Tryz.pinned (OpenSpec.ofChange wireBackSpec)

/-- ITS FALSE NEIGHBOUR: 'it returns false'. Refute it at one input. -/
def wireBackWrong : ChangeSpec := { name := "wireBack", fn := fun _ => fun
  | [d] => { results := [.lit (.bool false)], args := [d] }
  | _ => none }
def WireBackWrongFalsely : Prop := wireBackRow.holds Tryz.pinned (OpenSpec.ofChange wireBackWrong)

/-- 'plinthlaw16.WireOnly': WHATEVER THE INPUT: true; the input reads as it did. -/
def wireOnlySpec : ChangeSpec := { name := "wireOnly", fn := fun _ => fun
  | [d] => { results := [.lit (.bool true)], args := [d] }
  | _ => none }
def wireOnlyRow : OpenClaim := { program := "ytdhdmbmknpjhbaagreat", sum := "8908d0cc9b231ebc7ed6c73a75fade84f752ccaff239e7702c7ad71670c37f53", func := "plinth/plinthlaw16.WireOnly", spec := "wireOnly", unfollowed := true, recurses := true, apart := false }
def WireOnlySaid : Prop := wireOnlyRow.holds Tryz.pinned (OpenSpec.ofChange wireOnlySpec)

/-- ITS FALSE NEIGHBOUR: 'it returns false'. Refute it at one input. -/
def wireOnlyWrong : ChangeSpec := { name := "wireOnly", fn := fun _ => fun
  | [d] => { results := [.lit (.bool false)], args := [d] }
  | _ => none }
def WireOnlyWrongFalsely : Prop := wireOnlyRow.holds Tryz.pinned (OpenSpec.ofChange wireOnlyWrong)

/-- 'plinthlaw16.WireSpoilt': WHATEVER THE INPUT: true; the input reads as it did. -/
def wireSpoiltSpec : ChangeSpec := { name := "wireSpoilt", fn := fun _ => fun
  | [d1, d2, d3, d4] => { results := [.lit (.bool true)], args := [d1, d2, d3, d4] }
  | _ => none }
def wireSpoiltRow : OpenClaim := { program := "ytdhdmbmknpjhbaagreat", sum := "8908d0cc9b231ebc7ed6c73a75fade84f752ccaff239e7702c7ad71670c37f53", func := "plinth/plinthlaw16.WireSpoilt", spec := "wireSpoilt", unfollowed := true, recurses := true, apart := false }
def WireSpoiltSaid : Prop := wireSpoiltRow.holds Tryz.pinned (OpenSpec.ofChange wireSpoiltSpec)

/-- ITS FALSE NEIGHBOUR: 'it returns false'. Refute it at one input. -/
def wireSpoiltWrong : ChangeSpec := { name := "wireSpoilt", fn := fun _ => fun
  | [d1, d2, d3, d4] => { results := [.lit (.bool false)], args := [d1, d2, d3, d4] }
  | _ => none }
def WireSpoiltWrongFalsely : Prop := wireSpoiltRow.holds Tryz.pinned (OpenSpec.ofChange wireSpoiltWrong)

/- THE SECOND FORM. 'bulk': how many values and letters a reading holds, each counted each time it is reached (what is shared counts as often as it is met; a slice's spare places count too). A statement '..UptoSaid' is the law's where the arguments, and the package variables that the reading takes, are together of bulk at most 1048576: NARROWER than '..Said'. Prove '..Said' where nothing that the law and all that it calls make is longer than what came in: it says more and counts as full. Else prove '..UptoSaid'. A law counts once. -/
mutual
def uptoBulk {H : Type} : DataW H → Nat
  | .lit (.string bytes) => bytes.length + 1
  | .lit _ => 1
  | .nil => 1
  | .ptr d => uptoBulk d + 1
  | .slice elems spare => uptoBulkAll elems + uptoBulkAll spare + 1
  | .agg parts => uptoBulkAll parts + 1
  | .iface _ d => uptoBulk d + 1
  | .map entries => uptoBulkEntries entries + 1
  | .held _ => 1
def uptoBulkAll {H : Type} : List (DataW H) → Nat
  | [] => 0
  | d :: r => uptoBulk d + uptoBulkAll r
def uptoBulkEntries {H : Type} : List (Lit × DataW H) → Nat
  | [] => 0
  | x :: r => uptoBulkEntry x + uptoBulkEntries r
def uptoBulkEntry {H : Type} : Lit × DataW H → Nat
  | (.string bytes, d) => bytes.length + uptoBulk d + 1
  | (_, d) => uptoBulk d + 1
 end
def uptoSmall : (H : Type) → List (DataW H) → Bool := fun _ ds => decide (uptoBulkAll ds ≤ 1048576)
def OpenSpec.upto (s : _root_.Go.ChangeSpec) : _root_.Go.OpenSpec := { _root_.Go.OpenSpec.ofChange s with cond := some uptoSmall }

/-- 'plinthlaw16.WireForms', WHERE WHAT IT READS IS OF BULK AT MOST 1048576: true; the input reads as it did. -/
def wireFormsUptoRow : OpenClaim := { program := "ytdhdmbmknpjhbaagreat", sum := "8908d0cc9b231ebc7ed6c73a75fade84f752ccaff239e7702c7ad71670c37f53", func := "plinth/plinthlaw16.WireForms", spec := "wireForms", unfollowed := true, recurses := true, apart := false, narrowed := true }
def WireFormsUptoSaid : Prop := wireFormsUptoRow.holds Tryz.pinned (OpenSpec.upto wireFormsSpec)

/-- 'plinthlaw16.WireWrites', WHERE WHAT IT READS IS OF BULK AT MOST 1048576: true; the input reads as it did. -/
def wireWritesUptoRow : OpenClaim := { program := "ytdhdmbmknpjhbaagreat", sum := "8908d0cc9b231ebc7ed6c73a75fade84f752ccaff239e7702c7ad71670c37f53", func := "plinth/plinthlaw16.WireWrites", spec := "wireWrites", unfollowed := true, recurses := true, apart := false, narrowed := true }
def WireWritesUptoSaid : Prop := wireWritesUptoRow.holds Tryz.pinned (OpenSpec.upto wireWritesSpec)

/-- 'plinthlaw16.WireReads', WHERE WHAT IT READS IS OF BULK AT MOST 1048576: true; the input reads as it did. -/
def wireReadsUptoRow : OpenClaim := { program := "ytdhdmbmknpjhbaagreat", sum := "8908d0cc9b231ebc7ed6c73a75fade84f752ccaff239e7702c7ad71670c37f53", func := "plinth/plinthlaw16.WireReads", spec := "wireReads", unfollowed := true, recurses := true, apart := false, narrowed := true }
def WireReadsUptoSaid : Prop := wireReadsUptoRow.holds Tryz.pinned (OpenSpec.upto wireReadsSpec)

/-- 'plinthlaw16.WireSealed', WHERE WHAT IT READS IS OF BULK AT MOST 1048576: true; the input reads as it did. -/
def wireSealedUptoRow : OpenClaim := { program := "ytdhdmbmknpjhbaagreat", sum := "8908d0cc9b231ebc7ed6c73a75fade84f752ccaff239e7702c7ad71670c37f53", func := "plinth/plinthlaw16.WireSealed", spec := "wireSealed", unfollowed := true, recurses := true, apart := false, narrowed := true }
def WireSealedUptoSaid : Prop := wireSealedUptoRow.holds Tryz.pinned (OpenSpec.upto wireSealedSpec)

/-- 'plinthlaw16.WireBack', WHERE WHAT IT READS IS OF BULK AT MOST 1048576: true; the input reads as it did. -/
def wireBackUptoRow : OpenClaim := { program := "ytdhdmbmknpjhbaagreat", sum := "8908d0cc9b231ebc7ed6c73a75fade84f752ccaff239e7702c7ad71670c37f53", func := "plinth/plinthlaw16.WireBack", spec := "wireBack", unfollowed := true, recurses := true, apart := false, narrowed := true }
def WireBackUptoSaid : Prop := wireBackUptoRow.holds Tryz.pinned (OpenSpec.upto wireBackSpec)

/-- 'plinthlaw16.WireOnly', WHERE WHAT IT READS IS OF BULK AT MOST 1048576: true; the input reads as it did. -/
def wireOnlyUptoRow : OpenClaim := { program := "ytdhdmbmknpjhbaagreat", sum := "8908d0cc9b231ebc7ed6c73a75fade84f752ccaff239e7702c7ad71670c37f53", func := "plinth/plinthlaw16.WireOnly", spec := "wireOnly", unfollowed := true, recurses := true, apart := false, narrowed := true }
def WireOnlyUptoSaid : Prop := wireOnlyUptoRow.holds Tryz.pinned (OpenSpec.upto wireOnlySpec)

/-- 'plinthlaw16.WireSpoilt', WHERE WHAT IT READS IS OF BULK AT MOST 1048576: true; the input reads as it did. -/
def wireSpoiltUptoRow : OpenClaim := { program := "ytdhdmbmknpjhbaagreat", sum := "8908d0cc9b231ebc7ed6c73a75fade84f752ccaff239e7702c7ad71670c37f53", func := "plinth/plinthlaw16.WireSpoilt", spec := "wireSpoilt", unfollowed := true, recurses := true, apart := false, narrowed := true }
def WireSpoiltUptoSaid : Prop := wireSpoiltUptoRow.holds Tryz.pinned (OpenSpec.upto wireSpoiltSpec)

end Rows
end Go.Proofs.YtdhdmbmknpjhbaaGreat
