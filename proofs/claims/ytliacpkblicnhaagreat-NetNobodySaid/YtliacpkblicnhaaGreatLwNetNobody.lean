/- PRINTED by a program of this repo (wip/tools/rows.py): the row of the law NetNobody, out of its contract. -/
import Derived.Test.YtliacpkblicnhaaGreatRows
import Derived.Test.YtliacpkblicnhaaGreatJ5
import Derived.WalkKit
import Derived.ProofKit
import Derived.OpenShut
import Derived.ShutString
import Derived.ChangeOld
import Derived.Below
import Derived.SizedLaws
import Derived.Carry
namespace Go.Proofs.YtliacpkblicnhaaGreat.netNobody
open Go Go.Sx Go.ChangeShapes Go.WideShapes Go.ChangeAt Go.RowKit Go.Proofs.YtliacpkblicnhaaGreat
set_option linter.unusedVariables false
theorem own : ownKnob Tryz.prog.godebug = none := by kernel_rfl
theorem laidOut : laidOutB Tryz.prog = true := by kernel_rfl
set_option maxRecDepth 100000 in
theorem lifted (os : Os) (started : os.Started) (H : Type) (enc : TypeId × Value → H) :
    ReturnsInHanded {} Tryz.checked os 7 .any (Rows.netNobodySpec.pre6 enc Tryz.prog Tryz.f7 Rows.netNobodyRow.domain false) (Rows.netNobodySpec.post enc Tryz.prog Tryz.f7 false true false false) := by
  refine returnsInHanded_of_change_sized (C := Tryz.checked) own started (by kernel_rfl) Tryz.func7
    (ChangeSpec.witness6 (enc := enc) (C := Tryz.checked) false ⟨#[], #[.agg #[.int .u8 (0), .int .i64 (0), .int .i64 (0), .int .i64 (0), .int .i64 (0), .int .i64 (0), .int .i64 (0), .int .i64 (0), .int .u64 (0), .int .i64 (0), .int .i64 (0), .int .u8 (0), .int .i64 (0), .int .i64 (0), .slice none 0 0, .slice none 0 0, .int .u8 (0), .slice none 0 0, .int .i64 (0), .slice none 0 0, .int .i64 (0), .int .i64 (0), .int .i64 (0), .slice none 0 0, .slice none 0 0, .int .i64 (0), .slice none 0 0, .slice none 0 0], .int .i64 (0)], []⟩ 8 (by kernel_rfl) (by kernel_rfl) (by kernel_rfl) (by kernel_rfl)) ?_
  intro W base args ds gs before hval0 hW hcnd hsz0 _
  have hsz : (DataW.weightsEach Tryz.prog (Tryz.f7.params.toList ++ Rows.netNobodySpec.plain.varTypes Tryz.prog) (ds ++ gs)).all (· ≤ reachBytes) = true := hsz0
  have hval : ∀ (j : Nat) t v, Tryz.f7.params[j]? = some t → args[j]? = some v → Value.okWide Tryz.prog W .any base t v := hval0
  have hW' := hW
  obtain ⟨p, q, hA0, hV, rfl, hfz, hnd⟩ := hW
  have hA : DataW.TrodAll enc Tryz.prog W 0 (fun _ => true) true Tryz.f7.params.toList args.toList ds p := hA0
  rw [Tryz.params7] at hA hval hsz
  obtain ⟨v0, vs0, d0, ds0, p0, q0, hargs, rfl, rfl, h0, r0⟩ := trodAll_cons hA
  obtain ⟨v1, vs1, d1, ds1, p1, q1, rfl, rfl, rfl, h1, r1⟩ := trodAll_cons r0
  obtain ⟨rfl, rfl, rfl⟩ := trodAll_nil r1
  obtain rfl : args = #[v0, v1] := by cases args; simp_all
  obtain ⟨rfl, rfl⟩ := trodVars_none hV
  obtain ⟨⟨x0, y0, b0, k0, e0, q0⟩, lt0⟩ := Opens.arg (opensMsg) h0 hsz 0 rfl rfl
  have z0 := cells_agg (okWide_struct Tryz.underlying64 (hval 0 64 v0 rfl rfl)) e0
  subst z0
  obtain ⟨⟨x1, y1, b1, k1, e1, q1⟩, lt1⟩ := Opens.arg (Opens.int Tryz.underlying3) h1 hsz 1 rfl rfl
  have z1 := cells_int (okWide_int Tryz.underlying3 (hval 1 3 v1 rfl rfl)) e1
  subst z1
  have kq : ∀ q ∈ ((kMsg).pers x0 y0 ++ (Kd.int .i64).pers x1 y1), q.h W (oldB W) := by
    intro q hq
    try simp only [List.mem_append] at hq
    rcases hq with hq | hq
    · exact q0 q hq
    · exact q1 q hq
  clear hA0 hval0 hsz0
  refine (Ct.law (netNobody_ct x0 (⟨_, _, _, _, _, _, _, _, _, _, _, _, _, _, _, _⟩ : Lie) x1) W kq).mono fun e W' ⟨he, bel⟩ => ?_
  subst he
  exact ⟨_, rfl, _, _, _, [], _, [], hW', trodAll_mk1 (shut_bool Tryz.underlying4 _), (trodAll_cons_mk (Below.trod laidOut (by kernel_rfl) (of_decide_eq_true (by kernel_rfl)) h0 bel lt0) (trodAll_cons_mk (Below.trod laidOut (by kernel_rfl) (of_decide_eq_true (by kernel_rfl)) h1 bel lt1) trodAll_mk0)), rfl, bel.frame _, fun h => by cases h⟩
theorem over : Rows.netNobodyRow.holds Tryz.pinned (OpenSpec.ofChange Rows.netNobodySpec) :=
  OpenClaim.holds_of_wide 7 Tryz.f7 rfl rfl rfl rfl rfl rfl rfl ⟨rfl, rfl, rfl, rfl, rfl⟩ rfl rfl rfl rfl rfl (by kernel_rfl) Tryz.func7 (by kernel_rfl)
    (of_decide_eq_true (by kernel_rfl)) (by unfold Func.isWrapper; first | (rw [if_pos (by decide +kernel)]; kernel_rfl) | (rw [if_neg (by decide +kernel)]; exact ⟨rfl, rfl⟩))
    (fun os started H enc _ => lifted os started H enc)
theorem proved : Rows.NetNobodySaid := over
#print axioms proved
end Go.Proofs.YtliacpkblicnhaaGreat.netNobody
namespace Go.Proofs.YtliacpkblicnhaaGreat
/-- The row, under a short name, for the claim. -/
theorem netNobody_holds : Rows.NetNobodySaid := netNobody.proved
end Go.Proofs.YtliacpkblicnhaaGreat
