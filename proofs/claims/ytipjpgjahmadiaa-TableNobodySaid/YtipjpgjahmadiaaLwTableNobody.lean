/- PRINTED by a program of this repo (wip/tools/rows.py): the row of the law TableNobody, out of its contract. -/
import Derived.Test.YtipjpgjahmadiaaRows
import Derived.Test.YtipjpgjahmadiaaSxR
import Derived.Test.YtipjpgjahmadiaaTb7
import Derived.Test.YtipjpgjahmadiaaOp6
import Derived.WalkKit
import Derived.ProofKit
import Derived.OpenShut
import Derived.ShutString
import Derived.ChangeOld
import Derived.Below
import Derived.SizedLaws
import Derived.Carry
namespace Go.Proofs.Ytipjpgjahmadiaa.tableNobody
open Go Go.Sx Go.ChangeShapes Go.WideShapes Go.ChangeAt Go.RowKit Go.Proofs.Ytipjpgjahmadiaa
set_option linter.unusedVariables false
theorem own : ownKnob Try.prog.godebug = none := by kernel_rfl
theorem laidOut : laidOutB Try.prog = true := by kernel_rfl
set_option maxRecDepth 100000 in
theorem lifted (os : Os) (started : os.Started) (H : Type) (enc : TypeId × Value → H) :
    ReturnsInHanded {} Try.checked os 5 .any (Rows.tableNobodySpec.pre6 enc Try.prog Try.f5 Rows.tableNobodyRow.domain false) (Rows.tableNobodySpec.post enc Try.prog Try.f5 false true false false) := by
  refine returnsInHanded_of_change_sized (C := Try.checked) own started (by kernel_rfl) Try.func5
    (ChangeSpec.witness6 (enc := enc) (C := Try.checked) false ⟨#[], #[.agg #[.bool false, .int .i64 (0), .int .i64 (0), .int .u8 (0), .slice none 0 0]], []⟩ 8 (by kernel_rfl) (by kernel_rfl) (by kernel_rfl) (by kernel_rfl)) ?_
  intro W base args ds gs before hval0 hW hcnd hsz0 _
  have hsz : (DataW.weightsEach Try.prog (Try.f5.params.toList ++ Rows.tableNobodySpec.plain.varTypes Try.prog) (ds ++ gs)).all (· ≤ reachBytes) = true := hsz0
  have hval : ∀ (j : Nat) t v, Try.f5.params[j]? = some t → args[j]? = some v → Value.okWide Try.prog W .any base t v := hval0
  have hW' := hW
  obtain ⟨p, q, hA0, hV, rfl, hfz, hnd⟩ := hW
  have hA : DataW.TrodAll enc Try.prog W 0 (fun _ => true) true Try.f5.params.toList args.toList ds p := hA0
  rw [Try.params5] at hA hval hsz
  obtain ⟨v0, vs0, d0, ds0, p0, q0, hargs, rfl, rfl, h0, r0⟩ := trodAll_cons hA
  obtain ⟨rfl, rfl, rfl⟩ := trodAll_nil r0
  obtain rfl : args = #[v0] := by cases args; simp_all
  obtain ⟨rfl, rfl⟩ := trodVars_none hV
  obtain ⟨⟨x0, y0, b0, k0, e0, q0⟩, lt0⟩ := Opens.arg (opensTCall) h0 hsz 0 rfl rfl
  have z0 := cells_agg (okWide_struct Try.underlying31 (hval 0 31 v0 rfl rfl)) e0
  subst z0
  have kq : ∀ q ∈ ((kTCall).pers x0 y0), q.h W (oldB W) := by
    intro q hq
    try simp only [List.mem_append] at hq
    rcases hq with hq
    · exact q0 q hq
  clear hA0 hval0 hsz0
  refine (Ct.law (tableNobody_ct x0.done x0.client x0.serial x0.r.code _ _ _) W kq).mono fun e W' ⟨he, bel⟩ => ?_
  subst he
  exact ⟨_, rfl, _, _, _, [], _, [], hW', trodAll_mk1 (shut_bool Try.underlying4 _), (trodAll_cons_mk (Below.trod laidOut (by kernel_rfl) (of_decide_eq_true (by kernel_rfl)) h0 bel lt0) trodAll_mk0), rfl, bel.frame _, fun h => by cases h⟩
theorem over : Rows.tableNobodyRow.holds Try.pinned (OpenSpec.ofChange Rows.tableNobodySpec) :=
  OpenClaim.holds_of_wide 5 Try.f5 rfl rfl rfl rfl rfl rfl rfl ⟨rfl, rfl, rfl, rfl, rfl⟩ rfl rfl rfl rfl rfl (by kernel_rfl) Try.func5 (by kernel_rfl)
    (of_decide_eq_true (by kernel_rfl)) (by unfold Func.isWrapper; first | (rw [if_pos (by decide +kernel)]; kernel_rfl) | (rw [if_neg (by decide +kernel)]; exact ⟨rfl, rfl⟩))
    (fun os started H enc _ => lifted os started H enc)
theorem proved : Rows.TableNobodySaid := over
#print axioms proved
end Go.Proofs.Ytipjpgjahmadiaa.tableNobody
namespace Go.Proofs.Ytipjpgjahmadiaa
/-- The row, under a short name, for the claim. -/
theorem tableNobody_holds : Rows.TableNobodySaid := tableNobody.proved
end Go.Proofs.Ytipjpgjahmadiaa
