/-
  No cell of these rows narrows 'for every input' (looked for: loops, veiled, ifaces, maps, wideKeys, modest, calm, conditions, laid).
  DERIVED. THE GIVEN ROWS OF THIS SEAT. 5 by the template 'for every input the law returns true; each argument reads behind the call as it read before'; 0 by the template 'total and deterministic' (their statements: YtoofbjclockcdaaTotals.lean).
  GIVEN WITH THE SEED: the statements are not yours to turn. If you find one false, say at which input.
  Laid BY PROGRAM, IN A SANDBOX (cutbox-rows.mjs): the forced cells as the released guide's own fill.sh prints them over the translation 5dc013f0335b053d… (all of the seat's roots in one cut). By AI agents, Wed Nov 11 2026. No macro, syntax, notation, axiom, sorry.
-/
import Derived.Test.YtoofbjclockcdaaChecked
import GoSem.Claim
import GoSem.ClaimJoined
import GoSem.ClaimMapViews
import Derived.JoinedTies
import Derived.KernelRfl
namespace Go.Proofs.Ytoofbjclockcdaa
/- THE CELL 'sum', in the pinned program and in every row, IS THE sha256 OF THE DUMP (.gsa) THAT YtoofbjclockcdaaProg.lean LOADS. Nothing in Lean hashes anything: it is a label: what it is worth is what the hold of that sum in a sandbox is worth. -/
noncomputable def Try.pinned : Pinned := { name := "ytoofbjclockcdaa", sum := "5dc013f0335b053db7696e4d56e23f3ba46f4570845c804ddc131334f7c11a75", checked := Try.checked }
namespace Rows
def none {H : Type} : Left H := { results := [], args := [] }

/-- 'plinthlaw13.GroupNexts': WHATEVER THE INPUT: true; the input reads as it did. -/
def groupNextsSpec : ChangeSpec := { name := "groupNexts", fn := fun _ => fun
  | [d1, d2, d3] => { results := [.lit (.bool true)], args := [d1, d2, d3] }
  | _ => none }
def groupNextsRow : OpenClaim := { program := "ytoofbjclockcdaa", sum := "5dc013f0335b053db7696e4d56e23f3ba46f4570845c804ddc131334f7c11a75", func := "plinth/plinthlaw13.GroupNexts", spec := "groupNexts", unfollowed := true, recurses := true, apart := false }
def GroupNextsSaid : Prop := groupNextsRow.holds Try.pinned (OpenSpec.ofChange groupNextsSpec)

/-- ITS FALSE NEIGHBOUR: 'it returns false'. Refute it at one input. -/
def groupNextsWrong : ChangeSpec := { name := "groupNexts", fn := fun _ => fun
  | [d1, d2, d3] => { results := [.lit (.bool false)], args := [d1, d2, d3] }
  | _ => none }
def GroupNextsWrongFalsely : Prop := groupNextsRow.holds Try.pinned (OpenSpec.ofChange groupNextsWrong)

/-- 'plinthlaw13.GroupTurns': WHATEVER THE INPUT: true; the input reads as it did. -/
def groupTurnsSpec : ChangeSpec := { name := "groupTurns", fn := fun _ => fun
  | [d1, d2] => { results := [.lit (.bool true)], args := [d1, d2] }
  | _ => none }
def groupTurnsRow : OpenClaim := { program := "ytoofbjclockcdaa", sum := "5dc013f0335b053db7696e4d56e23f3ba46f4570845c804ddc131334f7c11a75", func := "plinth/plinthlaw13.GroupTurns", spec := "groupTurns", unfollowed := true, recurses := true, apart := false }
def GroupTurnsSaid : Prop := groupTurnsRow.holds Try.pinned (OpenSpec.ofChange groupTurnsSpec)

/-- ITS FALSE NEIGHBOUR: 'it returns false'. Refute it at one input. -/
def groupTurnsWrong : ChangeSpec := { name := "groupTurns", fn := fun _ => fun
  | [d1, d2] => { results := [.lit (.bool false)], args := [d1, d2] }
  | _ => none }
def GroupTurnsWrongFalsely : Prop := groupTurnsRow.holds Try.pinned (OpenSpec.ofChange groupTurnsWrong)

/-- 'plinthlaw13.GroupLeads': WHATEVER THE INPUT: true; the input reads as it did. -/
def groupLeadsSpec : ChangeSpec := { name := "groupLeads", fn := fun _ => fun
  | [d1, d2, d3] => { results := [.lit (.bool true)], args := [d1, d2, d3] }
  | _ => none }
def groupLeadsRow : OpenClaim := { program := "ytoofbjclockcdaa", sum := "5dc013f0335b053db7696e4d56e23f3ba46f4570845c804ddc131334f7c11a75", func := "plinth/plinthlaw13.GroupLeads", spec := "groupLeads", unfollowed := true, recurses := true, apart := false }
def GroupLeadsSaid : Prop := groupLeadsRow.holds Try.pinned (OpenSpec.ofChange groupLeadsSpec)

/-- ITS FALSE NEIGHBOUR: 'it returns false'. Refute it at one input. -/
def groupLeadsWrong : ChangeSpec := { name := "groupLeads", fn := fun _ => fun
  | [d1, d2, d3] => { results := [.lit (.bool false)], args := [d1, d2, d3] }
  | _ => none }
def GroupLeadsWrongFalsely : Prop := groupLeadsRow.holds Try.pinned (OpenSpec.ofChange groupLeadsWrong)

/-- 'plinthlaw13.GroupAsks': WHATEVER THE INPUT: true; the input reads as it did. -/
def groupAsksSpec : ChangeSpec := { name := "groupAsks", fn := fun _ => fun
  | [d1, d2, d3] => { results := [.lit (.bool true)], args := [d1, d2, d3] }
  | _ => none }
def groupAsksRow : OpenClaim := { program := "ytoofbjclockcdaa", sum := "5dc013f0335b053db7696e4d56e23f3ba46f4570845c804ddc131334f7c11a75", func := "plinth/plinthlaw13.GroupAsks", spec := "groupAsks", unfollowed := true, recurses := true, apart := false }
def GroupAsksSaid : Prop := groupAsksRow.holds Try.pinned (OpenSpec.ofChange groupAsksSpec)

/-- ITS FALSE NEIGHBOUR: 'it returns false'. Refute it at one input. -/
def groupAsksWrong : ChangeSpec := { name := "groupAsks", fn := fun _ => fun
  | [d1, d2, d3] => { results := [.lit (.bool false)], args := [d1, d2, d3] }
  | _ => none }
def GroupAsksWrongFalsely : Prop := groupAsksRow.holds Try.pinned (OpenSpec.ofChange groupAsksWrong)

/-- 'plinthlaw13.GroupCommon': WHATEVER THE INPUT: true; the input reads as it did. -/
def groupCommonSpec : ChangeSpec := { name := "groupCommon", fn := fun _ => fun
  | [d1, d2, d3] => { results := [.lit (.bool true)], args := [d1, d2, d3] }
  | _ => none }
def groupCommonRow : OpenClaim := { program := "ytoofbjclockcdaa", sum := "5dc013f0335b053db7696e4d56e23f3ba46f4570845c804ddc131334f7c11a75", func := "plinth/plinthlaw13.GroupCommon", spec := "groupCommon", unfollowed := true, recurses := true, apart := false }
def GroupCommonSaid : Prop := groupCommonRow.holds Try.pinned (OpenSpec.ofChange groupCommonSpec)

/-- ITS FALSE NEIGHBOUR: 'it returns false'. Refute it at one input. -/
def groupCommonWrong : ChangeSpec := { name := "groupCommon", fn := fun _ => fun
  | [d1, d2, d3] => { results := [.lit (.bool false)], args := [d1, d2, d3] }
  | _ => none }
def GroupCommonWrongFalsely : Prop := groupCommonRow.holds Try.pinned (OpenSpec.ofChange groupCommonWrong)

/- THE SECOND FORM. 'bulk': how many values and letters a reading holds, each counted each time it is reached (what is shared counts as often as it is met; a slice's spare places count too). A statement '..UptoSaid' is the law's where the arguments, and the package variables that the reading takes, are together of bulk at most 1048576: NARROWER than '..Said'. Prove '..Said' where nothing that the law and all that it calls make is longer than what came in: it says more and counts as full. Else prove '..UptoSaid'. A law counts once. -/
mutual
def uptoBulk {H : Type} : DataW H → Nat
  | .lit (.string bytes) => bytes.length + 1
  | .lit _ => 1
  | .nil => 1
  | .ptr d => uptoBulk d + 1
  | .slice elems spare => uptoBulkAll elems + uptoBulkAll spare + 1
  | .agg parts => uptoBulkAll parts + 1
  | .iface _ d => uptoBulk d + 1
  | .map entries => uptoBulkEntries entries + 1
  | .held _ => 1
def uptoBulkAll {H : Type} : List (DataW H) → Nat
  | [] => 0
  | d :: r => uptoBulk d + uptoBulkAll r
def uptoBulkEntries {H : Type} : List (Lit × DataW H) → Nat
  | [] => 0
  | x :: r => uptoBulkEntry x + uptoBulkEntries r
def uptoBulkEntry {H : Type} : Lit × DataW H → Nat
  | (.string bytes, d) => bytes.length + uptoBulk d + 1
  | (_, d) => uptoBulk d + 1
 end
def uptoSmall : (H : Type) → List (DataW H) → Bool := fun _ ds => decide (uptoBulkAll ds ≤ 1048576)
def OpenSpec.upto (s : _root_.Go.ChangeSpec) : _root_.Go.OpenSpec := { _root_.Go.OpenSpec.ofChange s with cond := some uptoSmall }

/-- 'plinthlaw13.GroupNexts', WHERE WHAT IT READS IS OF BULK AT MOST 1048576: true; the input reads as it did. -/
def groupNextsUptoRow : OpenClaim := { program := "ytoofbjclockcdaa", sum := "5dc013f0335b053db7696e4d56e23f3ba46f4570845c804ddc131334f7c11a75", func := "plinth/plinthlaw13.GroupNexts", spec := "groupNexts", unfollowed := true, recurses := true, apart := false, narrowed := true }
def GroupNextsUptoSaid : Prop := groupNextsUptoRow.holds Try.pinned (OpenSpec.upto groupNextsSpec)

/-- 'plinthlaw13.GroupTurns', WHERE WHAT IT READS IS OF BULK AT MOST 1048576: true; the input reads as it did. -/
def groupTurnsUptoRow : OpenClaim := { program := "ytoofbjclockcdaa", sum := "5dc013f0335b053db7696e4d56e23f3ba46f4570845c804ddc131334f7c11a75", func := "plinth/plinthlaw13.GroupTurns", spec := "groupTurns", unfollowed := true, recurses := true, apart := false, narrowed := true }
def GroupTurnsUptoSaid : Prop := groupTurnsUptoRow.holds Try.pinned (OpenSpec.upto groupTurnsSpec)

/-- 'plinthlaw13.GroupLeads', WHERE WHAT IT READS IS OF BULK AT MOST 1048576: true; the input reads as it did. -/
def groupLeadsUptoRow : OpenClaim := { program := "ytoofbjclockcdaa", sum := "5dc013f0335b053db7696e4d56e23f3ba46f4570845c804ddc131334f7c11a75", func := "plinth/plinthlaw13.GroupLeads", spec := "groupLeads", unfollowed := true, recurses := true, apart := false, narrowed := true }
def GroupLeadsUptoSaid : Prop := groupLeadsUptoRow.holds Try.pinned (OpenSpec.upto groupLeadsSpec)

/-- 'plinthlaw13.GroupAsks', WHERE WHAT IT READS IS OF BULK AT MOST 1048576: true; the input reads as it did. -/
def groupAsksUptoRow : OpenClaim := { program := "ytoofbjclockcdaa", sum := "5dc013f0335b053db7696e4d56e23f3ba46f4570845c804ddc131334f7c11a75", func := "plinth/plinthlaw13.GroupAsks", spec := "groupAsks", unfollowed := true, recurses := true, apart := false, narrowed := true }
def GroupAsksUptoSaid : Prop := groupAsksUptoRow.holds Try.pinned (OpenSpec.upto groupAsksSpec)

/-- 'plinthlaw13.GroupCommon', WHERE WHAT IT READS IS OF BULK AT MOST 1048576: true; the input reads as it did. -/
def groupCommonUptoRow : OpenClaim := { program := "ytoofbjclockcdaa", sum := "5dc013f0335b053db7696e4d56e23f3ba46f4570845c804ddc131334f7c11a75", func := "plinth/plinthlaw13.GroupCommon", spec := "groupCommon", unfollowed := true, recurses := true, apart := false, narrowed := true }
def GroupCommonUptoSaid : Prop := groupCommonUptoRow.holds Try.pinned (OpenSpec.upto groupCommonSpec)

end Rows
end Go.Proofs.Ytoofbjclockcdaa
