/-
  No cell of these rows narrows 'for every input' (looked for: loops, veiled, ifaces, maps, wideKeys, modest, calm, conditions, laid).
  DERIVED. THE GIVEN ROWS OF THIS SEAT. 3 by the template 'for every input the law returns true; each argument reads behind the call as it read before'; 0 by the template 'total and deterministic' (their statements: YtmjfkjajedhciaaTotals.lean).
  GIVEN WITH THE SEED: the statements are not yours to turn. If you find one false, say at which input.
  Laid BY PROGRAM, IN A SANDBOX (cutbox-rows.mjs): the forced cells as the released guide's own fill.sh prints them over the translation 8b7a2aa8127a4e6d… (all of the seat's roots in one cut). By AI agents, Wed Nov 11 2026. No macro, syntax, notation, axiom, sorry.
-/
import Derived.Test.YtmjfkjajedhciaaChecked
import GoSem.Claim
import GoSem.ClaimJoined
import GoSem.ClaimMapViews
import Derived.JoinedTies
import Derived.KernelRfl
namespace Go.Proofs.Ytmjfkjajedhciaa
/- THE CELL 'sum', in the pinned program and in every row, IS THE sha256 OF THE DUMP (.gsa) THAT YtmjfkjajedhciaaProg.lean LOADS. Nothing in Lean hashes anything: it is a label: what it is worth is what the hold of that sum in a sandbox is worth. -/
noncomputable def Try.pinned : Pinned := { name := "ytmjfkjajedhciaa", sum := "8b7a2aa8127a4e6dea1ea24084091ff6d7af3f7f3d75688046fec596f8be2396", checked := Try.checked }
namespace Rows
def none {H : Type} : Left H := { results := [], args := [] }

/-- 'plinthlaw14.VotesSets': WHATEVER THE INPUT: true; the input reads as it did. -/
def votesSetsSpec : ChangeSpec := { name := "votesSets", fn := fun _ => fun
  | [d1, d2, d3, d4] => { results := [.lit (.bool true)], args := [d1, d2, d3, d4] }
  | _ => none }
def votesSetsRow : OpenClaim := { program := "ytmjfkjajedhciaa", sum := "8b7a2aa8127a4e6dea1ea24084091ff6d7af3f7f3d75688046fec596f8be2396", func := "plinth/plinthlaw14.VotesSets", spec := "votesSets", unfollowed := true, recurses := true, apart := false }
def VotesSetsSaid : Prop := votesSetsRow.holds Try.pinned (OpenSpec.ofChange votesSetsSpec)

/-- ITS FALSE NEIGHBOUR: 'it returns false'. Refute it at one input. -/
def votesSetsWrong : ChangeSpec := { name := "votesSets", fn := fun _ => fun
  | [d1, d2, d3, d4] => { results := [.lit (.bool false)], args := [d1, d2, d3, d4] }
  | _ => none }
def VotesSetsWrongFalsely : Prop := votesSetsRow.holds Try.pinned (OpenSpec.ofChange votesSetsWrong)

/-- 'plinthlaw14.VotesGrows': WHATEVER THE INPUT: true; the input reads as it did. -/
def votesGrowsSpec : ChangeSpec := { name := "votesGrows", fn := fun _ => fun
  | [d1, d2, d3, d4] => { results := [.lit (.bool true)], args := [d1, d2, d3, d4] }
  | _ => none }
def votesGrowsRow : OpenClaim := { program := "ytmjfkjajedhciaa", sum := "8b7a2aa8127a4e6dea1ea24084091ff6d7af3f7f3d75688046fec596f8be2396", func := "plinth/plinthlaw14.VotesGrows", spec := "votesGrows", unfollowed := true, recurses := true, apart := false }
def VotesGrowsSaid : Prop := votesGrowsRow.holds Try.pinned (OpenSpec.ofChange votesGrowsSpec)

/-- ITS FALSE NEIGHBOUR: 'it returns false'. Refute it at one input. -/
def votesGrowsWrong : ChangeSpec := { name := "votesGrows", fn := fun _ => fun
  | [d1, d2, d3, d4] => { results := [.lit (.bool false)], args := [d1, d2, d3, d4] }
  | _ => none }
def VotesGrowsWrongFalsely : Prop := votesGrowsRow.holds Try.pinned (OpenSpec.ofChange votesGrowsWrong)

/-- 'plinthlaw14.VotesKnown': WHATEVER THE INPUT: true; the input reads as it did. -/
def votesKnownSpec : ChangeSpec := { name := "votesKnown", fn := fun _ => fun
  | [d1, d2, d3] => { results := [.lit (.bool true)], args := [d1, d2, d3] }
  | _ => none }
def votesKnownRow : OpenClaim := { program := "ytmjfkjajedhciaa", sum := "8b7a2aa8127a4e6dea1ea24084091ff6d7af3f7f3d75688046fec596f8be2396", func := "plinth/plinthlaw14.VotesKnown", spec := "votesKnown", unfollowed := true, recurses := true, apart := false }
def VotesKnownSaid : Prop := votesKnownRow.holds Try.pinned (OpenSpec.ofChange votesKnownSpec)

/-- ITS FALSE NEIGHBOUR: 'it returns false'. Refute it at one input. -/
def votesKnownWrong : ChangeSpec := { name := "votesKnown", fn := fun _ => fun
  | [d1, d2, d3] => { results := [.lit (.bool false)], args := [d1, d2, d3] }
  | _ => none }
def VotesKnownWrongFalsely : Prop := votesKnownRow.holds Try.pinned (OpenSpec.ofChange votesKnownWrong)

/- THE SECOND FORM. 'bulk': how many values and letters a reading holds, each counted each time it is reached (what is shared counts as often as it is met; a slice's spare places count too). A statement '..UptoSaid' is the law's where the arguments, and the package variables that the reading takes, are together of bulk at most 1048576: NARROWER than '..Said'. Prove '..Said' where nothing that the law and all that it calls make is longer than what came in: it says more and counts as full. Else prove '..UptoSaid'. A law counts once. -/
mutual
def uptoBulk {H : Type} : DataW H → Nat
  | .lit (.string bytes) => bytes.length + 1
  | .lit _ => 1
  | .nil => 1
  | .ptr d => uptoBulk d + 1
  | .slice elems spare => uptoBulkAll elems + uptoBulkAll spare + 1
  | .agg parts => uptoBulkAll parts + 1
  | .iface _ d => uptoBulk d + 1
  | .map entries => uptoBulkEntries entries + 1
  | .held _ => 1
def uptoBulkAll {H : Type} : List (DataW H) → Nat
  | [] => 0
  | d :: r => uptoBulk d + uptoBulkAll r
def uptoBulkEntries {H : Type} : List (Lit × DataW H) → Nat
  | [] => 0
  | x :: r => uptoBulkEntry x + uptoBulkEntries r
def uptoBulkEntry {H : Type} : Lit × DataW H → Nat
  | (.string bytes, d) => bytes.length + uptoBulk d + 1
  | (_, d) => uptoBulk d + 1
 end
def uptoSmall : (H : Type) → List (DataW H) → Bool := fun _ ds => decide (uptoBulkAll ds ≤ 1048576)
def OpenSpec.upto (s : _root_.Go.ChangeSpec) : _root_.Go.OpenSpec := { _root_.Go.OpenSpec.ofChange s with cond := some uptoSmall }

/-- 'plinthlaw14.VotesSets', WHERE WHAT IT READS IS OF BULK AT MOST 1048576: true; the input reads as it did. -/
def votesSetsUptoRow : OpenClaim := { program := "ytmjfkjajedhciaa", sum := "8b7a2aa8127a4e6dea1ea24084091ff6d7af3f7f3d75688046fec596f8be2396", func := "plinth/plinthlaw14.VotesSets", spec := "votesSets", unfollowed := true, recurses := true, apart := false, narrowed := true }
def VotesSetsUptoSaid : Prop := votesSetsUptoRow.holds Try.pinned (OpenSpec.upto votesSetsSpec)

/-- 'plinthlaw14.VotesGrows', WHERE WHAT IT READS IS OF BULK AT MOST 1048576: true; the input reads as it did. -/
def votesGrowsUptoRow : OpenClaim := { program := "ytmjfkjajedhciaa", sum := "8b7a2aa8127a4e6dea1ea24084091ff6d7af3f7f3d75688046fec596f8be2396", func := "plinth/plinthlaw14.VotesGrows", spec := "votesGrows", unfollowed := true, recurses := true, apart := false, narrowed := true }
def VotesGrowsUptoSaid : Prop := votesGrowsUptoRow.holds Try.pinned (OpenSpec.upto votesGrowsSpec)

/-- 'plinthlaw14.VotesKnown', WHERE WHAT IT READS IS OF BULK AT MOST 1048576: true; the input reads as it did. -/
def votesKnownUptoRow : OpenClaim := { program := "ytmjfkjajedhciaa", sum := "8b7a2aa8127a4e6dea1ea24084091ff6d7af3f7f3d75688046fec596f8be2396", func := "plinth/plinthlaw14.VotesKnown", spec := "votesKnown", unfollowed := true, recurses := true, apart := false, narrowed := true }
def VotesKnownUptoSaid : Prop := votesKnownUptoRow.holds Try.pinned (OpenSpec.upto votesKnownSpec)

end Rows
end Go.Proofs.Ytmjfkjajedhciaa
