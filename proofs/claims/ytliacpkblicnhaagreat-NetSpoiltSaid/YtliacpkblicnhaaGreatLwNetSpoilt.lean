/- PRINTED by a program of this repo (wip/tools/rows.py): the row of the law NetSpoilt, out of its contract. -/
import Derived.Test.YtliacpkblicnhaaGreatRows
import Derived.Test.YtliacpkblicnhaaGreatJ5
import Derived.WalkKit
import Derived.ProofKit
import Derived.OpenShut
import Derived.ShutString
import Derived.ChangeOld
import Derived.Below
import Derived.SizedLaws
import Derived.Carry
namespace Go.Proofs.YtliacpkblicnhaaGreat.netSpoilt
open Go Go.Sx Go.ChangeShapes Go.WideShapes Go.ChangeAt Go.RowKit Go.Proofs.YtliacpkblicnhaaGreat
set_option linter.unusedVariables false
theorem own : ownKnob Tryz.prog.godebug = none := by kernel_rfl
theorem laidOut : laidOutB Tryz.prog = true := by kernel_rfl
set_option maxRecDepth 100000 in
theorem lifted (os : Os) (started : os.Started) (H : Type) (enc : TypeId × Value → H) :
    ReturnsInHanded {} Tryz.checked os 6 .any (Rows.netSpoiltSpec.pre6 enc Tryz.prog Tryz.f6 Rows.netSpoiltRow.domain false) (Rows.netSpoiltSpec.post enc Tryz.prog Tryz.f6 false true false false) := by
  refine returnsInHanded_of_change_sized (C := Tryz.checked) own started (by kernel_rfl) Tryz.func6
    (ChangeSpec.witness6 (enc := enc) (C := Tryz.checked) false ⟨#[], #[.agg #[.int .u8 (0), .int .i64 (0), .int .i64 (0), .int .i64 (0), .int .i64 (0), .int .i64 (0), .int .i64 (0), .int .i64 (0), .int .u64 (0), .int .i64 (0), .int .i64 (0), .int .u8 (0), .int .i64 (0), .int .i64 (0), .slice none 0 0, .slice none 0 0, .int .u8 (0), .slice none 0 0, .int .i64 (0), .slice none 0 0, .int .i64 (0), .int .i64 (0), .int .i64 (0), .slice none 0 0, .slice none 0 0, .int .i64 (0), .slice none 0 0, .slice none 0 0], .int .u16 (0), .int .u8 (0)], []⟩ 8 (by kernel_rfl) (by kernel_rfl) (by kernel_rfl) (by kernel_rfl)) ?_
  intro W base args ds gs before hval0 hW hcnd hsz0 _
  have hsz : (DataW.weightsEach Tryz.prog (Tryz.f6.params.toList ++ Rows.netSpoiltSpec.plain.varTypes Tryz.prog) (ds ++ gs)).all (· ≤ reachBytes) = true := hsz0
  have hval : ∀ (j : Nat) t v, Tryz.f6.params[j]? = some t → args[j]? = some v → Value.okWide Tryz.prog W .any base t v := hval0
  have hW' := hW
  obtain ⟨p, q, hA0, hV, rfl, hfz, hnd⟩ := hW
  have hA : DataW.TrodAll enc Tryz.prog W 0 (fun _ => true) true Tryz.f6.params.toList args.toList ds p := hA0
  rw [Tryz.params6] at hA hval hsz
  obtain ⟨v0, vs0, d0, ds0, p0, q0, hargs, rfl, rfl, h0, r0⟩ := trodAll_cons hA
  obtain ⟨v1, vs1, d1, ds1, p1, q1, rfl, rfl, rfl, h1, r1⟩ := trodAll_cons r0
  obtain ⟨v2, vs2, d2, ds2, p2, q2, rfl, rfl, rfl, h2, r2⟩ := trodAll_cons r1
  obtain ⟨rfl, rfl, rfl⟩ := trodAll_nil r2
  obtain rfl : args = #[v0, v1, v2] := by cases args; simp_all
  obtain ⟨rfl, rfl⟩ := trodVars_none hV
  obtain ⟨⟨x0, y0, b0, k0, e0, q0⟩, lt0⟩ := Opens.arg (opensMsg) h0 hsz 0 rfl rfl
  have z0 := cells_agg (okWide_struct Tryz.underlying64 (hval 0 64 v0 rfl rfl)) e0
  subst z0
  obtain ⟨⟨x1, y1, b1, k1, e1, q1⟩, lt1⟩ := Opens.arg (Opens.int Tryz.underlying90) h1 hsz 1 rfl rfl
  have z1 := cells_int (okWide_int Tryz.underlying90 (hval 1 90 v1 rfl rfl)) e1
  subst z1
  obtain ⟨⟨x2, y2, b2, k2, e2, q2⟩, lt2⟩ := Opens.arg (Opens.u8 Tryz.underlying5) h2 hsz 2 rfl rfl
  have z2 := cells_int (okWide_int Tryz.underlying5 (hval 2 5 v2 rfl rfl)) e2
  subst z2
  have kq : ∀ q ∈ ((kMsg).pers x0 y0 ++ (Kd.int .u16).pers x1 y1 ++ (Kd.u8).pers x2 y2), q.h W (oldB W) := by
    intro q hq
    try simp only [List.mem_append] at hq
    rcases hq with (hq | hq) | hq
    · exact q0 q hq
    · exact q1 q hq
    · exact q2 q hq
  clear hA0 hval0 hsz0
  obtain ⟨n1, rfl, hn1⟩ := u16_of b1
  refine (Ct.law (netSpoilt_ct x0 (⟨_, _, _, _, _, _, _, _, _, _, _, _, _, _, _, _⟩ : Lie) n1 x2 (msgLen_of b0) (nonceo_of b0) hn1) W kq).mono fun e W' ⟨he, bel⟩ => ?_
  subst he
  exact ⟨_, rfl, _, _, _, [], _, [], hW', trodAll_mk1 (shut_bool Tryz.underlying4 _), (trodAll_cons_mk (Below.trod laidOut (by kernel_rfl) (of_decide_eq_true (by kernel_rfl)) h0 bel lt0) (trodAll_cons_mk (Below.trod laidOut (by kernel_rfl) (of_decide_eq_true (by kernel_rfl)) h1 bel lt1) (trodAll_cons_mk (Below.trod laidOut (by kernel_rfl) (of_decide_eq_true (by kernel_rfl)) h2 bel lt2) trodAll_mk0))), rfl, bel.frame _, fun h => by cases h⟩
theorem over : Rows.netSpoiltRow.holds Tryz.pinned (OpenSpec.ofChange Rows.netSpoiltSpec) :=
  OpenClaim.holds_of_wide 6 Tryz.f6 rfl rfl rfl rfl rfl rfl rfl ⟨rfl, rfl, rfl, rfl, rfl⟩ rfl rfl rfl rfl rfl (by kernel_rfl) Tryz.func6 (by kernel_rfl)
    (of_decide_eq_true (by kernel_rfl)) (by unfold Func.isWrapper; first | (rw [if_pos (by decide +kernel)]; kernel_rfl) | (rw [if_neg (by decide +kernel)]; exact ⟨rfl, rfl⟩))
    (fun os started H enc _ => lifted os started H enc)
theorem proved : Rows.NetSpoiltSaid := over
#print axioms proved
end Go.Proofs.YtliacpkblicnhaaGreat.netSpoilt
namespace Go.Proofs.YtliacpkblicnhaaGreat
/-- The row, under a short name, for the claim. -/
theorem netSpoilt_holds : Rows.NetSpoiltSaid := netSpoilt.proved
end Go.Proofs.YtliacpkblicnhaaGreat
