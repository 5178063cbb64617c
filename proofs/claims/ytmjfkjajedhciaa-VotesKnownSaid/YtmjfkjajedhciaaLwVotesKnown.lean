/- PRINTED by a program of this repo (wip/tools/rows.py): the row of the law VotesKnown, out of its contract. -/
import Derived.Test.YtmjfkjajedhciaaRows
import Derived.Test.YtmjfkjajedhciaaSxR
import Derived.Test.YtmjfkjajedhciaaVx6
import Derived.Test.YtmjfkjajedhciaaOpV
import Derived.WalkKit
import Derived.ProofKit
import Derived.OpenShut
import Derived.ShutString
import Derived.ChangeOld
import Derived.Below
import Derived.SizedLaws
import Derived.Carry
namespace Go.Proofs.Ytmjfkjajedhciaa.votesKnown
open Go Go.Sx Go.ChangeShapes Go.WideShapes Go.ChangeAt Go.RowKit Go.Proofs.Ytmjfkjajedhciaa
set_option linter.unusedVariables false
theorem own : ownKnob Try.prog.godebug = none := by kernel_rfl
theorem laidOut : laidOutB Try.prog = true := by kernel_rfl
set_option maxRecDepth 100000 in
theorem lifted (os : Os) (started : os.Started) (H : Type) (enc : TypeId × Value → H) :
    ReturnsInHanded {} Try.checked os 5 .any (Rows.votesKnownSpec.pre6 enc Try.prog Try.f5 Rows.votesKnownRow.domain false) (Rows.votesKnownSpec.post enc Try.prog Try.f5 false true false false) := by
  refine returnsInHanded_of_change_sized (C := Try.checked) own started (by kernel_rfl) Try.func5
    (ChangeSpec.witness6 (enc := enc) (C := Try.checked) false ⟨#[], #[.agg #[.int .i64 (0), .slice none 0 0], .slice none 0 0, .slice none 0 0], []⟩ 8 (by kernel_rfl) (by kernel_rfl) (by kernel_rfl) (by kernel_rfl)) ?_
  intro W base args ds gs before hval0 hW hcnd hsz0 _
  have hsz : (DataW.weightsEach Try.prog (Try.f5.params.toList ++ Rows.votesKnownSpec.plain.varTypes Try.prog) (ds ++ gs)).all (· ≤ reachBytes) = true := hsz0
  have hval : ∀ (j : Nat) t v, Try.f5.params[j]? = some t → args[j]? = some v → Value.okWide Try.prog W .any base t v := hval0
  have hW' := hW
  obtain ⟨p, q, hA0, hV, rfl, hfz, hnd⟩ := hW
  have hA : DataW.TrodAll enc Try.prog W 0 (fun _ => true) true Try.f5.params.toList args.toList ds p := hA0
  rw [Try.params5] at hA hval hsz
  obtain ⟨v0, vs0, d0, ds0, p0, q0, hargs, rfl, rfl, h0, r0⟩ := trodAll_cons hA
  obtain ⟨v1, vs1, d1, ds1, p1, q1, rfl, rfl, rfl, h1, r1⟩ := trodAll_cons r0
  obtain ⟨v2, vs2, d2, ds2, p2, q2, rfl, rfl, rfl, h2, r2⟩ := trodAll_cons r1
  obtain ⟨rfl, rfl, rfl⟩ := trodAll_nil r2
  obtain rfl : args = #[v0, v1, v2] := by cases args; simp_all
  obtain ⟨rfl, rfl⟩ := trodVars_none hV
  obtain ⟨⟨x0, y0, b0, k0, e0, q0⟩, lt0⟩ := Opens.arg (opensGrp) h0 hsz 0 rfl rfl
  have z0 := cells_agg (okWide_struct Try.underlying34 (hval 0 34 v0 rfl rfl)) e0
  subst z0
  obtain ⟨⟨x1, y1, b1, k1, e1, q1⟩, lt1⟩ := Opens.arg (opensAcks) h1 hsz 1 rfl rfl
  have z1 := cells_slice (okWide_slice Try.underlying23 (hval 1 23 v1 rfl rfl)) e1
  subst z1
  obtain ⟨⟨x2, y2, b2, k2, e2, q2⟩, lt2⟩ := Opens.arg (opensInts) h2 hsz 2 rfl rfl
  have z2 := cells_slice (okWide_slice Try.underlying22 (hval 2 22 v2 rfl rfl)) e2
  subst z2
  have kq : ∀ q ∈ ((kGrp).pers x0 y0 ++ (Kd.slice kAck).pers x1 y1 ++ (Kd.slice (Kd.int .i64)).pers x2 y2), q.h W (oldB W) := by
    intro q hq
    try simp only [List.mem_append] at hq
    rcases hq with (hq | hq) | hq
    · exact q0 q hq
    · exact q1 q hq
    · exact q2 q hq
  clear hA0 hval0 hsz0
  refine (Ct.law (votesKnown_ct x0.epoch _ x0.members _ _ x1 _ _ x2 _ k0.2.1 k1.1 k2.1 (by have := b2.1; omega)) W kq).mono fun e W' ⟨he, bel⟩ => ?_
  subst he
  exact ⟨_, rfl, _, _, _, [], _, [], hW', trodAll_mk1 (shut_bool Try.underlying4 _), (trodAll_cons_mk (Below.trod laidOut (by kernel_rfl) (of_decide_eq_true (by kernel_rfl)) h0 bel lt0) (trodAll_cons_mk (Below.trod laidOut (by kernel_rfl) (of_decide_eq_true (by kernel_rfl)) h1 bel lt1) (trodAll_cons_mk (Below.trod laidOut (by kernel_rfl) (of_decide_eq_true (by kernel_rfl)) h2 bel lt2) trodAll_mk0))), rfl, bel.frame _, fun h => by cases h⟩
theorem over : Rows.votesKnownRow.holds Try.pinned (OpenSpec.ofChange Rows.votesKnownSpec) :=
  OpenClaim.holds_of_wide 5 Try.f5 rfl rfl rfl rfl rfl rfl rfl ⟨rfl, rfl, rfl, rfl, rfl⟩ rfl rfl rfl rfl rfl (by kernel_rfl) Try.func5 (by kernel_rfl)
    (of_decide_eq_true (by kernel_rfl)) (by unfold Func.isWrapper; first | (rw [if_pos (by decide +kernel)]; kernel_rfl) | (rw [if_neg (by decide +kernel)]; exact ⟨rfl, rfl⟩))
    (fun os started H enc _ => lifted os started H enc)
theorem proved : Rows.VotesKnownSaid := over
#print axioms proved
end Go.Proofs.Ytmjfkjajedhciaa.votesKnown
namespace Go.Proofs.Ytmjfkjajedhciaa
/-- The row, under a short name, for the claim. -/
theorem votesKnown_holds : Rows.VotesKnownSaid := votesKnown.proved
end Go.Proofs.Ytmjfkjajedhciaa
