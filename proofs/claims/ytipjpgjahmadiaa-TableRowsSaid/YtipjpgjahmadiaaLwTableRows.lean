/- PRINTED by a program of this repo (wip/tools/rows.py): the row of the law TableRows, out of its contract. -/
import Derived.Test.YtipjpgjahmadiaaRows
import Derived.Test.YtipjpgjahmadiaaSxR
import Derived.Test.YtipjpgjahmadiaaTe7
import Derived.Test.YtipjpgjahmadiaaOp6
import Derived.WalkKit
import Derived.ProofKit
import Derived.OpenShut
import Derived.ShutString
import Derived.ChangeOld
import Derived.Below
import Derived.SizedLaws
import Derived.Carry
namespace Go.Proofs.Ytipjpgjahmadiaa.tableRows
open Go Go.Sx Go.ChangeShapes Go.WideShapes Go.ChangeAt Go.RowKit Go.Proofs.Ytipjpgjahmadiaa
set_option linter.unusedVariables false
theorem own : ownKnob Try.prog.godebug = none := by kernel_rfl
theorem laidOut : laidOutB Try.prog = true := by kernel_rfl
set_option maxRecDepth 100000 in
theorem lifted (os : Os) (started : os.Started) (H : Type) (enc : TypeId × Value → H) :
    ReturnsInHanded {} Try.checked os 7 .any (Rows.tableRowsSpec.pre6 enc Try.prog Try.f7 Rows.tableRowsRow.domain false) (Rows.tableRowsSpec.post enc Try.prog Try.f7 false true false false) := by
  refine returnsInHanded_of_change_sized (C := Try.checked) own started (by kernel_rfl) Try.func7
    (ChangeSpec.witness6 (enc := enc) (C := Try.checked) false ⟨#[], #[.slice none 0 0, .slice none 0 0], []⟩ 8 (by kernel_rfl) (by kernel_rfl) (by kernel_rfl) (by kernel_rfl)) ?_
  intro W base args ds gs before hval0 hW hcnd hsz0 _
  have hsz : (DataW.weightsEach Try.prog (Try.f7.params.toList ++ Rows.tableRowsSpec.plain.varTypes Try.prog) (ds ++ gs)).all (· ≤ reachBytes) = true := hsz0
  have hval : ∀ (j : Nat) t v, Try.f7.params[j]? = some t → args[j]? = some v → Value.okWide Try.prog W .any base t v := hval0
  have hW' := hW
  obtain ⟨p, q, hA0, hV, rfl, hfz, hnd⟩ := hW
  have hA : DataW.TrodAll enc Try.prog W 0 (fun _ => true) true Try.f7.params.toList args.toList ds p := hA0
  rw [Try.params7] at hA hval hsz
  obtain ⟨v0, vs0, d0, ds0, p0, q0, hargs, rfl, rfl, h0, r0⟩ := trodAll_cons hA
  obtain ⟨v1, vs1, d1, ds1, p1, q1, rfl, rfl, rfl, h1, r1⟩ := trodAll_cons r0
  obtain ⟨rfl, rfl, rfl⟩ := trodAll_nil r1
  obtain rfl : args = #[v0, v1] := by cases args; simp_all
  obtain ⟨rfl, rfl⟩ := trodVars_none hV
  obtain ⟨⟨x0, y0, b0, k0, e0, q0⟩, lt0⟩ := Opens.arg (opensRows) h0 hsz 0 rfl rfl
  have z0 := cells_slice (okWide_slice Try.underlying47 (hval 0 47 v0 rfl rfl)) e0
  subst z0
  obtain ⟨⟨x1, y1, b1, k1, e1, q1⟩, lt1⟩ := Opens.arg (opensRows) h1 hsz 1 rfl rfl
  have z1 := cells_slice (okWide_slice Try.underlying47 (hval 1 47 v1 rfl rfl)) e1
  subst z1
  have kq : ∀ q ∈ ((Kd.slice kRow).pers x0 y0 ++ (Kd.slice kRow).pers x1 y1), q.h W (oldB W) := by
    intro q hq
    try simp only [List.mem_append] at hq
    rcases hq with hq | hq
    · exact q0 q hq
    · exact q1 q hq
  clear hA0 hval0 hsz0
  refine (Ct.law (tableRows_ct _ x0 _ _ x1 _ (by have := b0.1; omega) (by have := b1.1; omega)) W kq).mono fun e W' ⟨he, bel⟩ => ?_
  subst he
  exact ⟨_, rfl, _, _, _, [], _, [], hW', trodAll_mk1 (shut_bool Try.underlying4 _), (trodAll_cons_mk (Below.trod laidOut (by kernel_rfl) (of_decide_eq_true (by kernel_rfl)) h0 bel lt0) (trodAll_cons_mk (Below.trod laidOut (by kernel_rfl) (of_decide_eq_true (by kernel_rfl)) h1 bel lt1) trodAll_mk0)), rfl, bel.frame _, fun h => by cases h⟩
theorem over : Rows.tableRowsRow.holds Try.pinned (OpenSpec.ofChange Rows.tableRowsSpec) :=
  OpenClaim.holds_of_wide 7 Try.f7 rfl rfl rfl rfl rfl rfl rfl ⟨rfl, rfl, rfl, rfl, rfl⟩ rfl rfl rfl rfl rfl (by kernel_rfl) Try.func7 (by kernel_rfl)
    (of_decide_eq_true (by kernel_rfl)) (by unfold Func.isWrapper; first | (rw [if_pos (by decide +kernel)]; kernel_rfl) | (rw [if_neg (by decide +kernel)]; exact ⟨rfl, rfl⟩))
    (fun os started H enc _ => lifted os started H enc)
theorem proved : Rows.TableRowsSaid := over
#print axioms proved
end Go.Proofs.Ytipjpgjahmadiaa.tableRows
namespace Go.Proofs.Ytipjpgjahmadiaa
/-- The row, under a short name, for the claim. -/
theorem tableRows_holds : Rows.TableRowsSaid := tableRows.proved
end Go.Proofs.Ytipjpgjahmadiaa
