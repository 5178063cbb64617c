/- Texts of this claim, in one: what the law leans on (part 5). -/
import Derived.Test.YtdhdmbmknpjhbaaGreatK4
set_option linter.unusedVariables false
set_option linter.unusedSimpArgs false
set_option maxRecDepth 100000
namespace Go.Proofs.YtdhdmbmknpjhbaaGreat
open Go Go.Sx Go.Proofs
theorem wprt_ct (p e_ q_ f_ : Nat) (y0 y1 y2 y3 y4 y5 y6 y7 y8 y9 y10 : Value) (A : Option Addr) (b : List UInt8) (cp : Nat) (hcp : b.length ≤ cp) (hcp' : cp ≤ 9223372036854775807) (hb : b.length ≤ 10000000000000) : CtP Tryz.prog 95 [.pointer (some ⟨p, 0, none⟩), .pointer (some ⟨q_, 0, none⟩)] (leftG p e_ A b cp ++ [.cells q_ [y0, y1, y2, y3, y4, y5, y6, y7, y8, y9, y10, .int .u8 0, .int .i64 0, .int .i64 0, .slice none 0 0, .slice none 0 0, .int .u8 0, .slice none 0 0, .int .i64 0, .slice none 0 0, .int .i64 0, .int .i64 0, .int .i64 0, .slice none 0 0, .slice none 0 0, .int .i64 0, .slice none 0 0, .slice none 0 0] f_]) [Pers.row Kd.u8 A b]
    (fun u G Q => ∃ (o : OpD) (r : Res) (g : Grp) (s : Stt) (L' : List UInt8) (x : Lie), wprtF b = some ((o, r, g, s), L') ∧ L'.length ≤ b.length ∧ L'.length ≤ x.c8 ∧ x.c8 ≤ 9223372036854775807 ∧ u = .tuple #[] ∧ G = leftG p e_ x.a8 L' x.c8 ++ [.cells q_ ([y0, y1, y2, y3, y4, y5, y6, y7, y8, y9, y10] ++ msgT o r g s x) f_] ∧ Q = msgU o r g s x ++ [Pers.row Kd.u8 x.a8 L']) (fun v => v = wFt ∧ wprtF b = none) := by
 have hp1 : (256 : Nat) ^ 1 = 256 := p256_1
 refine CtP.intro Tryz.func95 rfl rfl rfl (fun c hc => ?_)
 refine GC.rr 3 ?_;refine GL.callP rfl Tryz.call93 rfl (is := [0]) (js := [0]) rfl rfl (by exact (wnum_ct _ _ _ b _ 1 (by omega) (by omega) hcp hcp' hb).mono (fun _ _ _ h => h) (fun _ h => ⟨h.1, by rw [wprtF, h.2]; rfl⟩)) (fun v a w he h => FinP.panic he h) (GL.ret ?_)
 rintro _ _ _ ⟨v17, L17, A17, c17, hs17, l17, k17, rfl, rfl, rfl⟩
 obtain ⟨hv17, hw17, hx17⟩ := wnumF_rng hs17
 refine GL.pure rfl (p_convR (t := 23) (r := v17) (by rw [Tryz.underlying23]; simp) Tryz.underlying5 rfl (by simp [IntKind.wrap, IntKind.bits, IntKind.signed]; omega)) ?_;refine GL.know (q := Pers.row Kd.u8 none []) (fun _ _ _ => .inl rfl) ?_
 refine GL.know (q := Pers.row kI none []) (fun _ _ _ => .inl rfl) ?_;refine GL.know (q := Pers.row kPage none []) (fun _ _ _ => .inl rfl) ?_;refine GL.know (q := Pers.row kRow none []) (fun _ _ _ => .inl rfl) ?_;refine GL.rz 1 ?_
 refine GC.joinK3 (ks := [0, 1, 4]) (is := []) (js := [0, 1, 2, 3, 5]) (fun (o : OpD) (L1 : List UInt8) (x : Lie) => wpO v17 L17 = some (o, L1) ∧ L1.length ≤ b.length ∧ L1.length ≤ x.c8 ∧ x.c8 ≤ 9223372036854775807) (fun (o : OpD) (L1 : List UInt8) (x : Lie) => []) (fun (o : OpD) (L1 : List UInt8) (x : Lie) => [.cells p [.slice x.a8 L1.length x.c8] e_, .cells q_ [y0, y1, y2, y3, y4, y5, y6, y7, y8, y9, y10, .int .u8 o.kind, .int .i64 o.at_, .int .i64 o.n, .slice x.a1 o.data.length x.c1, .slice x.a2 o.old.length x.c2, .int .u8 0, .slice none 0 0, .int .i64 0, .slice none 0 0, .int .i64 0, .int .i64 0, .int .i64 0, .slice none 0 0, .slice none 0 0, .int .i64 0, .slice none 0 0, .slice none 0 0] f_]) (fun (o : OpD) (L1 : List UInt8) (x : Lie) => [Pers.row Kd.u8 x.a1 o.data, Pers.row Kd.u8 x.a2 o.old, Pers.row Kd.u8 x.a8 L1]) rfl rfl rfl ?_ ?_
 ·refine GC.rr 1 ?_;refine GL.pure rfl (p_andR (r := bitN v17 1) rfl rfl rfl) ?_;refine GL.rz 1 ?_;refine GC.co ?_ ?_
  ·intro h1; try simp only [tst_] at h1
   refine GC.rr 4 ?_;refine GL.ld_ 0 ?_;refine GL.cl Tryz.call129 [] [4] rfl rfl rfl (by exact decop_ct _ L17 _ l17 k17 (by omega)) ?_
   rintro _ _ _ ⟨o28, n28, e28, A28, c28, B28, d28, hs28, hn28, l28, k28, m28, p28, rfl, rfl, rfl⟩
   refine GL.rn 4 ?_;refine GL.step rfl (t_alloc rfl ze_27) (GL.ex fun b_t5 => ?_);refine GL.sn_ 0 ?_;refine GL.rz 2 ?_;refine GC.rr 5 ?_;refine GL.callP rfl Tryz.call97 rfl (is := [1]) (js := [6]) rfl rfl (by exact (wtake_ct _ _ _ L17 _ n28 e28 (fun _ => hn28.1) l17 k17).mono (fun _ _ _ h => h) (fun _ h => ⟨h.2, by simp only [wprtF, hs17, Option.bind_some]; rw [wpO, if_neg (by assumption), hn28.2 h.1]; rfl⟩)) (fun v a w he h => FinP.panic he h) (GL.ret ?_)
   rintro _ _ _ ⟨he37, A37, c37, l37, k37, rfl, rfl, rfl⟩
   refine GL.nl_ ?_;refine GC.region ?_;refine GL.rn 1 ?_;refine GL.ln_ 1 5 ?_;refine GL.rn 2 ?_;refine GL.sn_ 2 ?_;refine GL.nil ?_
   exact fun a w h => ⟨(o28), (L17.drop n28), (⟨A28, c28, B28, d28, none, 0, none, 0, none, 0, none, 0, none, 0, A37, c37⟩), ⟨by rw [wpO, if_neg (by assumption), hs28 he37]; rfl, by have := @drop_len L17 n28; omega, l37, k37⟩, h.ct [0, 1] [1, 2, 0, 3, 4, 5, 6, 8]⟩
  intro h1; try simp only [tst_] at h1
  refine GC.skip ?_
  exact fun a w h => ⟨(zop), (L17), (⟨none, 0, none, 0, none, 0, none, 0, none, 0, none, 0, none, 0, A17, c17⟩), ⟨by rw [wpO, if_pos (by assumption)], by omega, l17, k17⟩, h.ct [0, 0] [3, 3, 4, 0, 1, 2, 3, 5]⟩
 intro o L1 x hO
 try dsimp only [List.cons_append, List.nil_append] at hO ⊢
 obtain ⟨hO, hO1, hO2, hO3⟩ := hO
 refine GC.joinK3 (ks := [0, 1, 4]) (is := []) (js := [0, 1, 3, 4, 5, 6, 7]) (fun (r : Res) (L2 : List UInt8) (y : Lie) => wpR v17 L1 = some (r, L2) ∧ L2.length ≤ b.length ∧ L2.length ≤ y.c8 ∧ y.c8 ≤ 9223372036854775807) (fun (r : Res) (L2 : List UInt8) (y : Lie) => []) (fun (r : Res) (L2 : List UInt8) (y : Lie) => [.cells p [.slice y.a8 L2.length y.c8] e_, .cells q_ [y0, y1, y2, y3, y4, y5, y6, y7, y8, y9, y10, .int .u8 o.kind, .int .i64 o.at_, .int .i64 o.n, .slice x.a1 o.data.length x.c1, .slice x.a2 o.old.length x.c2, .int .u8 r.code, .slice y.a3 r.data.length y.c3, .int .i64 0, .slice none 0 0, .int .i64 0, .int .i64 0, .int .i64 0, .slice none 0 0, .slice none 0 0, .int .i64 0, .slice none 0 0, .slice none 0 0] f_]) (fun (r : Res) (L2 : List UInt8) (y : Lie) => [Pers.row Kd.u8 y.a3 r.data, Pers.row Kd.u8 y.a8 L2]) rfl rfl rfl ?_ ?_
 ·refine GC.rr 1 ?_;refine GL.pure rfl (p_andR (r := bitN v17 2) rfl rfl rfl) ?_;refine GL.rz 1 ?_;refine GC.co ?_ ?_
  ·intro h2; try simp only [tst_] at h2
   refine GC.rr 4 ?_;refine GL.ld_ 0 ?_;refine GL.cl Tryz.call130 [] [2] rfl rfl rfl (by exact decres_ct _ L1 _ hO2 hO3 (by omega)) ?_
   rintro _ _ _ ⟨o51, n51, e51, A51, c51, hs51, hn51, l51, k51, rfl, rfl, rfl⟩
   refine GL.rn 4 ?_;refine GL.step rfl (t_alloc rfl ze_30) (GL.ex fun b_t8 => ?_);refine GL.sn_ 0 ?_;refine GL.rz 2 ?_;refine GC.rr 5 ?_;refine GL.callP rfl Tryz.call97 rfl (is := [1]) (js := [3]) rfl rfl (by exact (wtake_ct _ _ _ L1 _ n51 e51 (fun _ => hn51.1) hO2 hO3).mono (fun _ _ _ h => h) (fun _ h => ⟨h.2, by simp only [wprtF, hs17, hO, Option.bind_some]; rw [wpR, if_neg (by assumption), hn51.2 h.1]; rfl⟩)) (fun v a w he h => FinP.panic he h) (GL.ret ?_)
   rintro _ _ _ ⟨he60, A60, c60, l60, k60, rfl, rfl, rfl⟩
   refine GL.nl_ ?_;refine GC.region ?_;refine GL.rn 1 ?_;refine GL.ln_ 1 2 ?_;refine GL.rn 2 ?_;refine GL.sn_ 2 ?_;refine GL.nil ?_
   exact fun a w h => ⟨(o51), (L1.drop n51), (⟨none, 0, none, 0, A51, c51, none, 0, none, 0, none, 0, none, 0, A60, c60⟩), ⟨by rw [wpR, if_neg (by assumption), hs51 he60]; rfl, by have := @drop_len L1 n51; omega, l60, k60⟩, h.ct [0, 1] [1, 0, 2, 3, 5, 6, 7, 8, 9]⟩
  intro h2; try simp only [tst_] at h2
  refine GC.skip ?_
  exact fun a w h => ⟨(rz), (L1), (⟨none, 0, none, 0, none, 0, none, 0, none, 0, none, 0, none, 0, x.a8, x.c8⟩), ⟨by rw [wpR, if_pos (by assumption)], by omega, hO2, hO3⟩, h.ct [0, 0] [6, 2, 0, 1, 3, 4, 5, 6, 7]⟩
 intro r L2 y hR
 try dsimp only [List.cons_append, List.nil_append] at hR ⊢
 obtain ⟨hR, hR1, hR2, hR3⟩ := hR
 refine GC.joinK3 (ks := [0, 1, 4]) (is := []) (js := [0, 2, 3, 4, 5, 6, 7, 8]) (fun (g : Grp) (L3 : List UInt8) (z : Lie) => wpG v17 L2 = some (g, L3) ∧ L3.length ≤ b.length ∧ L3.length ≤ z.c8 ∧ z.c8 ≤ 9223372036854775807) (fun (g : Grp) (L3 : List UInt8) (z : Lie) => []) (fun (g : Grp) (L3 : List UInt8) (z : Lie) => [.cells p [.slice z.a8 L3.length z.c8] e_, .cells q_ [y0, y1, y2, y3, y4, y5, y6, y7, y8, y9, y10, .int .u8 o.kind, .int .i64 o.at_, .int .i64 o.n, .slice x.a1 o.data.length x.c1, .slice x.a2 o.old.length x.c2, .int .u8 r.code, .slice y.a3 r.data.length y.c3, .int .i64 g.epoch, .slice z.a4 g.members.length z.c4, .int .i64 0, .int .i64 0, .int .i64 0, .slice none 0 0, .slice none 0 0, .int .i64 0, .slice none 0 0, .slice none 0 0] f_]) (fun (g : Grp) (L3 : List UInt8) (z : Lie) => [Pers.row kI z.a4 g.members, Pers.row Kd.u8 z.a8 L3]) rfl rfl rfl ?_ ?_
 ·refine GC.rr 1 ?_;refine GL.pure rfl (p_andR (r := bitN v17 4) rfl rfl rfl) ?_;refine GL.rz 1 ?_;refine GC.co ?_ ?_
  ·intro h3; try simp only [tst_] at h3
   refine GC.region ?_;refine GL.rn 2 ?_;refine GL.callP rfl Tryz.call131 rfl (is := [0]) (js := [1]) rfl rfl (by exact (wgrp_ct _ _ _ L2 _ hR2 hR3 (by omega)).mono (fun _ _ _ h => h) (fun _ h => ⟨h.1, by simp only [wprtF, hs17, hO, hR, Option.bind_some]; rw [wpG, if_neg (by assumption), h.2]; rfl⟩)) (fun v a w he h => FinP.panic he h) (GL.ret ?_)
   rintro _ _ _ ⟨g70, L70, A70, c70, B70, d70, hs70, ht70, l70, k70, m70, n70, rfl, rfl, rfl⟩
   refine GL.rn 2 ?_;refine GL.sn_ 1 ?_;refine GL.nil ?_
   exact fun a w h => ⟨(g70), (L70), (⟨none, 0, none, 0, none, 0, B70, d70, none, 0, none, 0, none, 0, A70, c70⟩), ⟨by rw [wpG, if_neg (by assumption), hs70], by omega, l70, k70⟩, h.ct [0, 0] [0, 1, 2, 4, 5, 6, 7, 8, 9, 10]⟩
  intro h3; try simp only [tst_] at h3
  refine GC.skip ?_
  exact fun a w h => ⟨(zgr), (L2), (⟨none, 0, none, 0, none, 0, none, 0, none, 0, none, 0, none, 0, y.a8, y.c8⟩), ⟨by rw [wpG, if_pos (by assumption)], by omega, hR2, hR3⟩, h.ct [0, 0] [6, 1, 0, 2, 3, 4, 5, 6, 7, 8]⟩
 intro g L3 z hG
 try dsimp only [List.cons_append, List.nil_append] at hG ⊢
 obtain ⟨hG, hG1, hG2, hG3⟩ := hG
 refine GC.rr 1 ?_;refine GL.pure rfl (p_andR (r := bitN v17 8) rfl rfl rfl) ?_;refine GL.rz 1 ?_;refine GC.co ?_ ?_
 ·intro h4; try simp only [tst_] at h4
  refine GC.rr 4 ?_;refine GL.ld_ 0 ?_;refine GL.cl Tryz.call132 [] [1] rfl rfl rfl (by exact decstt_ct _ L3 _ hG2 hG3 (by omega)) ?_
  rintro _ _ _ ⟨g82, t82, f82, A82, cp82, B82, cq82, C82, cr82, hs82, ht82, hl82, j82, k82, l82, m82, n82, o82, rfl, rfl, rfl⟩
  refine GL.rn 4 ?_;refine GL.step rfl (t_alloc rfl ze_39) (GL.ex fun b_t11 => ?_);refine GL.sn_ 0 ?_;refine GL.rz 2 ?_;refine GC.rr 5 ?_;refine GL.callP rfl Tryz.call97 rfl (is := [1]) (js := [4]) rfl rfl (by exact (wtake_ct _ _ _ L3 _ t82 f82 (fun _ => ht82) hG2 hG3).mono (fun _ _ _ h => h) (fun _ h => ⟨h.2, by simp only [wprtF, hs17, hO, hR, hG, Option.bind_some]; rw [wpS, if_neg (by assumption), hs82.2 h.1]; rfl⟩)) (fun v a w he h => FinP.panic he h) (GL.ret ?_)
  rintro _ _ _ ⟨he91, A91, c91, l91, k91, rfl, rfl, rfl⟩
  refine GL.nl_ ?_;refine GC.region ?_;refine GL.rn 1 ?_;refine GL.ln_ 1 7 ?_;refine GL.rn 2 ?_;refine GL.sn_ 2 ?_;refine GL.nil ?_
  refine fun a w h => FinP.back0 rfl (is := [0, 1]) (js := [7, 8, 6, 4, 1, 2, 3, 0]) rfl rfl ?_ h
  clear h
  exact ⟨o, r, g, g82, _, ⟨x.a1, x.c1, x.a2, x.c2, y.a3, y.c3, z.a4, z.c4, A82, cp82, B82, cq82, C82, cr82, A91, c91⟩, by simp only [wprtF, hs17, hO, hR, hG, Option.bind_some]; rw [wpS, if_neg (by assumption), hs82.1 he91]; rfl, by have := @drop_len L3 t82; omega, l91, k91, rfl, rfl, rfl⟩
 intro h4; try simp only [tst_] at h4
 refine GC.skip ?_
 refine fun a w h => FinP.back0 rfl (is := [0, 0]) (js := [3, 4, 2, 0, 6, 5, 7, 1]) rfl rfl ?_ h
 clear h
 exact ⟨o, r, g, zst, L3, ⟨x.a1, x.c1, x.a2, x.c2, y.a3, y.c3, z.a4, z.c4, none, 0, none, 0, none, 0, z.a8, z.c8⟩, by simp only [wprtF, hs17, hO, hR, hG, Option.bind_some]; rw [wpS, if_pos (by assumption)]; rfl, by omega, hG2, hG3, rfl, rfl, rfl⟩
def went (L : List UInt8) : Option (Entry × List UInt8) := (mentF L 0).map fun e => (e.1, L.drop e.2)
def wmsgF (b : List UInt8) : Option (Msg × List UInt8) :=
  (wnumF 1 b).bind fun k => (wnumF 8 k.2).bind fun s => (wnumF 8 s.2).bind fun d => (wsmF d.2).bind fun a1 => (wsmF a1.2).bind fun a2 => (wsmF a2.2).bind fun a3 => (wsmF a3.2).bind fun a4 => (wsmF a4.2).bind fun a5 => (wnumF 8 a5.2).bind fun nn => (wsmF nn.2).bind fun cl => (wsmF cl.2).bind fun sr => (wprtF sr.2).bind fun x => (wnumF 4 x.2).bind fun n => (manyF went n.2 n.1.toNat).map fun r =>
    (⟨k.1, IntKind.i64.wrap s.1, IntKind.i64.wrap d.1, a1.1, a2.1, a3.1, a4.1, a5.1, nn.1, cl.1, sr.1, x.1.1, x.1.2.1, x.1.2.2.1, x.1.2.2.2, r.1⟩, r.2)
theorem zq75_ {X : Prop} (h : X := by (exact GX.done (by kernel_rfl) (fun a w h => ⟨_, _, _, _, _, _, _, _, _, ⟨hs10, hs15, hs20, l20, k20⟩, h.cut (is := [0, 0, 0]) (js := [0]) ⟨rfl, rfl, rfl, trivial⟩ rfl rfl⟩))) : X := h
theorem wmsg_ct (p e_ : Nat) (A : Option Addr) (b : List UInt8) (cp : Nat) (hcp : b.length ≤ cp) (hcp' : cp ≤ 9223372036854775807) (hb : b.length ≤ 10000000000000) : CtP Tryz.prog 50 [.pointer (some ⟨p, 0, none⟩)] (leftG p e_ A b cp) [Pers.row Kd.u8 A b]
    (fun u G Q => ∃ (m : Msg) (s : Lie) (L' : List UInt8) (A' : Option Addr) (c' : Nat), wmsgF b = some (m, L') ∧ L'.length ≤ c' ∧ c' ≤ 9223372036854775807 ∧ u = msgV m s ∧ G = leftG p e_ A' L' c' ∧ Q = msgQ m s ++ [Pers.row Kd.u8 A' L']) (fun v => v = wFt ∧ wmsgF b = none) := by
 have hp1 : (256 : Nat) ^ 1 = 256 := p256_1
 have hp4 : (256 : Nat) ^ 4 = 4294967296 := p256_4
 refine CtP.intro Tryz.func50 rfl rfl rfl (fun c hc => ?_)
 refine GC.sr_ ?_;refine GL.step rfl (t_alloc rfl ze_42) (GL.ex fun b_t2 => ?_);refine GL.nl_ ?_;refine GC.seq' ?_;refine GC.regionXM (m := 18) (M := fun a w => ∃ v10 : Int, ∃ L10 : List UInt8, ∃ v15 : Int, ∃ L15 : List UInt8, ∃ v20 : Int, ∃ L20 : List UInt8, ∃ A20 : Option Addr, ∃ c20 : Nat, ∃ b_t3 : Nat, (wnumF 1 b = some (v10, L10) ∧ wnumF 8 L10 = some (v15, L15) ∧ wnumF 8 L15 = some (v20, L20) ∧ L20.length ≤ c20 ∧ c20 ≤ 9223372036854775807) ∧ St c 95 [(0, .pointer (some ⟨p, 0, none⟩)), (2, .pointer (some ⟨b_t2, 0, none⟩)), (3, .pointer (some ⟨b_t3, 0, none⟩))] [.cells p [.slice A20 L20.length c20] e_, .cells b_t3 [.int .u8 v10, .int .i64 (IntKind.i64.wrap v15), .int .i64 (IntKind.i64.wrap v20), .int .i64 0, .int .i64 0, .int .i64 0, .int .i64 0, .int .i64 0, .int .u64 0, .int .i64 0, .int .i64 0, .int .u8 0, .int .i64 0, .int .i64 0, .slice none 0 0, .slice none 0 0, .int .u8 0, .slice none 0 0, .int .i64 0, .slice none 0 0, .int .i64 0, .int .i64 0, .int .i64 0, .slice none 0 0, .slice none 0 0, .int .i64 0, .slice none 0 0, .slice none 0 0] 42, .cells b_t2 [.int .u8 0, .int .i64 0, .int .i64 0, .int .i64 0, .int .i64 0, .int .i64 0, .int .i64 0, .int .i64 0, .int .u64 0, .int .i64 0, .int .i64 0, .int .u8 0, .int .i64 0, .int .i64 0, .slice none 0 0, .slice none 0 0, .int .u8 0, .slice none 0 0, .int .i64 0, .slice none 0 0, .int .i64 0, .int .i64 0, .int .i64 0, .slice none 0 0, .slice none 0 0, .int .i64 0, .slice none 0 0, .slice none 0 0] 42] [Pers.row Kd.u8 A20 L20] a w) (is := [0]) (js := [0]) wide_ rfl rfl rfl (fun _ _ _ hd hp hD => ⟨hd.trans hD, .inr hp⟩) ?_ ?_
 ·refine GX.tk 0 [0] [0] ?_
  refine GX.tk 1 [0] [0] ?_
  refine GX.tk 2 [0] [0] ?_
  refine GX.tk 5 [0] [0] ?_
  refine GX.tk 6 [0] [0] ?_
  refine GX.tk 7 [0] [0] ?_
  refine GX.tk 10 [0] [0] ?_
  refine GX.tk 11 [0] [0] ?_
  refine GX.tk 12 [0] [0] ?_
  refine GX.al [3, 16] ?_
  refine GXs.consP (i := 3) rfl rfl Tryz.call93 rfl (is := [1]) (js := [0]) rfl rfl (by exact (wnum_ct _ _ _ b _ 1 (by omega) (by omega) hcp hcp' (by omega)).mono (fun _ _ _ h => h) (fun _ h => ⟨h.1, by simp only [wmsgF, h.2, Option.bind_none]⟩)) (by rintro a w ⟨_, _, _, ⟨v10, L10, A10, c10, hs10, l10, k10, rfl, rfl, rfl⟩, h⟩; exact h.me [1] [1]) (GX.ret ?_) ?_
  ·rintro _ _ _ ⟨v10, L10, A10, c10, hs10, l10, k10, rfl, rfl, rfl⟩
   obtain ⟨hv10, hw10, hx10⟩ := wnumF_rng hs10
   refine GX.tp 4 rfl [1] [1] (i_pure (p_convR (t := 23) (r := v10) (by rw [Tryz.underlying23]; simp) Tryz.underlying22 rfl (by simp [IntKind.wrap, IntKind.bits, IntKind.signed]; omega))) ?_
   refine GX.al [8, 16] ?_
   refine GXs.consP (i := 8) rfl rfl Tryz.call93 rfl (is := [0]) (js := [0]) rfl rfl (by exact (wnum_ct _ _ _ L10 _ 8 (by omega) (by omega) l10 k10 (by omega)).mono (fun _ _ _ h => h) (fun _ h => ⟨h.1, by simp only [wmsgF, hs10, Option.bind_some, h.2, Option.bind_none]⟩)) (by rintro a w ⟨_, _, _, ⟨v15, L15, A15, c15, hs15, l15, k15, rfl, rfl, rfl⟩, h⟩; exact h.me [1] [2]) (GX.ret ?_) ?_
   ·rintro _ _ _ ⟨v15, L15, A15, c15, hs15, l15, k15, rfl, rfl, rfl⟩
    obtain ⟨hv15, hw15, hx15⟩ := wnumF_rng hs15
    refine GX.tp 9 rfl [1] [2] (i_pure (p_conv (t := 23) (by rw [Tryz.underlying23]; simp) Tryz.underlying2 rfl)) ?_
    refine GX.al [13, 16] ?_
    refine GXs.consP (i := 13) rfl rfl Tryz.call93 rfl (is := [0]) (js := [0]) rfl rfl (by exact (wnum_ct _ _ _ L15 _ 8 (by omega) (by omega) l15 k15 (by omega)).mono (fun _ _ _ h => h) (fun _ h => ⟨h.1, by simp only [wmsgF, hs10, hs15, Option.bind_some, h.2, Option.bind_none]⟩)) (by rintro a w ⟨_, _, _, ⟨v20, L20, A20, c20, hs20, l20, k20, rfl, rfl, rfl⟩, h⟩; exact h.me [1] [3]) (GX.ret ?_) ?_
    ·rintro _ _ _ ⟨v20, L20, A20, c20, hs20, l20, k20, rfl, rfl, rfl⟩
     obtain ⟨hv20, hw20, hx20⟩ := wnumF_rng hs20
     refine GX.tp 14 rfl [1] [3] (i_pure (p_conv (t := 23) (by rw [Tryz.underlying23]; simp) Tryz.underlying2 rfl)) ?_
     refine GX.tp 15 rfl [1] [3] (i_pure (p_build ze_42 of_42 rfl rfl)) ?_
     refine GX.al [16] ?_
     refine GXs.cons (i := 16) rfl rfl (t_alloc rfl ze_42) (by rintro a w ⟨_, h⟩; exact h.me [2] [3]) (GX.ex fun b_t3 => ?_) GXs.nil
     refine GX.al [17] ?_
     refine GXs.cons (i := 17) rfl rfl (t_storeN (i := 0) rfl rfl rfl sz_42 rfl rfl rfl) (by rintro a w h; exact h.me [2] [3]) ?_ GXs.nil
     exact GX.done (by kernel_rfl) (fun a w h => ⟨_, _, _, _, _, _, _, _, _, ⟨hs10, hs15, hs20, l20, k20⟩, h.cut (is := [1, 0, 0]) (js := [0]) ⟨rfl, rfl, rfl, trivial⟩ rfl rfl⟩)
    refine GXs.cons (i := 16) rfl rfl (t_alloc rfl ze_42) (by rintro a w ⟨_, h⟩; exact h.me [2] [2]) (GX.ex fun b_t3 => ?_) GXs.nil
    refine GX.al [13] ?_
    refine GXs.consP (i := 13) rfl rfl Tryz.call93 rfl (is := [1]) (js := [0]) rfl rfl (by exact (wnum_ct _ _ _ L15 _ 8 (by omega) (by omega) l15 k15 (by omega)).mono (fun _ _ _ h => h) (fun _ h => ⟨h.1, by simp only [wmsgF, hs10, hs15, Option.bind_some, h.2, Option.bind_none]⟩)) (by rintro a w ⟨_, _, _, ⟨v20, L20, A20, c20, hs20, l20, k20, rfl, rfl, rfl⟩, h⟩; exact h.me [2] [3]) (GX.ret ?_) GXs.nil
    rintro _ _ _ ⟨v20, L20, A20, c20, hs20, l20, k20, rfl, rfl, rfl⟩
    obtain ⟨hv20, hw20, hx20⟩ := wnumF_rng hs20
    refine GX.tp 14 rfl [2] [3] (i_pure (p_conv (t := 23) (by rw [Tryz.underlying23]; simp) Tryz.underlying2 rfl)) ?_
    refine GX.tp 15 rfl [2] [3] (i_pure (p_build ze_42 of_42 rfl rfl)) ?_
    refine GX.al [17] ?_
    refine GXs.cons (i := 17) rfl rfl (t_storeN (i := 1) rfl rfl rfl sz_42 rfl rfl rfl) (by rintro a w h; exact h.me [2] [3]) ?_ GXs.nil
    exact zq75_
   refine GXs.cons (i := 16) rfl rfl (t_alloc rfl ze_42) (by rintro a w ⟨_, h⟩; exact h.me [2] [1]) (GX.ex fun b_t3 => ?_) GXs.nil
   refine GX.al [8] ?_
   refine GXs.consP (i := 8) rfl rfl Tryz.call93 rfl (is := [1]) (js := [0]) rfl rfl (by exact (wnum_ct _ _ _ L10 _ 8 (by omega) (by omega) l10 k10 (by omega)).mono (fun _ _ _ h => h) (fun _ h => ⟨h.1, by simp only [wmsgF, hs10, Option.bind_some, h.2, Option.bind_none]⟩)) (by rintro a w ⟨_, _, _, ⟨v15, L15, A15, c15, hs15, l15, k15, rfl, rfl, rfl⟩, h⟩; exact h.me [2] [2]) (GX.ret ?_) GXs.nil
   rintro _ _ _ ⟨v15, L15, A15, c15, hs15, l15, k15, rfl, rfl, rfl⟩
   obtain ⟨hv15, hw15, hx15⟩ := wnumF_rng hs15
   refine GX.tp 9 rfl [2] [2] (i_pure (p_conv (t := 23) (by rw [Tryz.underlying23]; simp) Tryz.underlying2 rfl)) ?_
   refine GX.al [13] ?_
   refine GXs.consP (i := 13) rfl rfl Tryz.call93 rfl (is := [0]) (js := [0]) rfl rfl (by exact (wnum_ct _ _ _ L15 _ 8 (by omega) (by omega) l15 k15 (by omega)).mono (fun _ _ _ h => h) (fun _ h => ⟨h.1, by simp only [wmsgF, hs10, hs15, Option.bind_some, h.2, Option.bind_none]⟩)) (by rintro a w ⟨_, _, _, ⟨v20, L20, A20, c20, hs20, l20, k20, rfl, rfl, rfl⟩, h⟩; exact h.me [2] [3]) (GX.ret ?_) GXs.nil
   rintro _ _ _ ⟨v20, L20, A20, c20, hs20, l20, k20, rfl, rfl, rfl⟩
   obtain ⟨hv20, hw20, hx20⟩ := wnumF_rng hs20
   refine GX.tp 14 rfl [2] [3] (i_pure (p_conv (t := 23) (by rw [Tryz.underlying23]; simp) Tryz.underlying2 rfl)) ?_
   refine GX.tp 15 rfl [2] [3] (i_pure (p_build ze_42 of_42 rfl rfl)) ?_
   refine GX.al [17] ?_
   refine GXs.cons (i := 17) rfl rfl (t_storeN (i := 1) rfl rfl rfl sz_42 rfl rfl rfl) (by rintro a w h; exact h.me [2] [3]) ?_ GXs.nil
   exact zq75_
  refine GXs.cons (i := 16) rfl rfl (t_alloc rfl ze_42) (by rintro a w ⟨_, h⟩; exact h.me [1] [0]) (GX.ex fun b_t3 => ?_) GXs.nil
  refine GX.al [3] ?_
  refine GXs.consP (i := 3) rfl rfl Tryz.call93 rfl (is := [2]) (js := [0]) rfl rfl (by exact (wnum_ct _ _ _ b _ 1 (by omega) (by omega) hcp hcp' (by omega)).mono (fun _ _ _ h => h) (fun _ h => ⟨h.1, by simp only [wmsgF, h.2, Option.bind_none]⟩)) (by rintro a w ⟨_, _, _, ⟨v10, L10, A10, c10, hs10, l10, k10, rfl, rfl, rfl⟩, h⟩; exact h.me [2] [1]) (GX.ret ?_) GXs.nil
  rintro _ _ _ ⟨v10, L10, A10, c10, hs10, l10, k10, rfl, rfl, rfl⟩
  obtain ⟨hv10, hw10, hx10⟩ := wnumF_rng hs10
  refine GX.tp 4 rfl [2] [1] (i_pure (p_convR (t := 23) (r := v10) (by rw [Tryz.underlying23]; simp) Tryz.underlying22 rfl (by simp [IntKind.wrap, IntKind.bits, IntKind.signed]; omega))) ?_
  refine GX.al [8] ?_
  refine GXs.consP (i := 8) rfl rfl Tryz.call93 rfl (is := [0]) (js := [0]) rfl rfl (by exact (wnum_ct _ _ _ L10 _ 8 (by omega) (by omega) l10 k10 (by omega)).mono (fun _ _ _ h => h) (fun _ h => ⟨h.1, by simp only [wmsgF, hs10, Option.bind_some, h.2, Option.bind_none]⟩)) (by rintro a w ⟨_, _, _, ⟨v15, L15, A15, c15, hs15, l15, k15, rfl, rfl, rfl⟩, h⟩; exact h.me [2] [2]) (GX.ret ?_) GXs.nil
  rintro _ _ _ ⟨v15, L15, A15, c15, hs15, l15, k15, rfl, rfl, rfl⟩
  obtain ⟨hv15, hw15, hx15⟩ := wnumF_rng hs15
  refine GX.tp 9 rfl [2] [2] (i_pure (p_conv (t := 23) (by rw [Tryz.underlying23]; simp) Tryz.underlying2 rfl)) ?_
  refine GX.al [13] ?_
  refine GXs.consP (i := 13) rfl rfl Tryz.call93 rfl (is := [0]) (js := [0]) rfl rfl (by exact (wnum_ct _ _ _ L15 _ 8 (by omega) (by omega) l15 k15 (by omega)).mono (fun _ _ _ h => h) (fun _ h => ⟨h.1, by simp only [wmsgF, hs10, hs15, Option.bind_some, h.2, Option.bind_none]⟩)) (by rintro a w ⟨_, _, _, ⟨v20, L20, A20, c20, hs20, l20, k20, rfl, rfl, rfl⟩, h⟩; exact h.me [2] [3]) (GX.ret ?_) GXs.nil
  rintro _ _ _ ⟨v20, L20, A20, c20, hs20, l20, k20, rfl, rfl, rfl⟩
  obtain ⟨hv20, hw20, hx20⟩ := wnumF_rng hs20
  refine GX.tp 14 rfl [2] [3] (i_pure (p_conv (t := 23) (by rw [Tryz.underlying23]; simp) Tryz.underlying2 rfl)) ?_
  refine GX.tp 15 rfl [2] [3] (i_pure (p_build ze_42 of_42 rfl rfl)) ?_
  refine GX.al [17] ?_
  refine GXs.cons (i := 17) rfl rfl (t_storeN (i := 1) rfl rfl rfl sz_42 rfl rfl rfl) (by rintro a w h; exact h.me [2] [3]) ?_ GXs.nil
  exact zq75_
 refine (?_ : GC _ _ _ _)
 refine GC.ex fun v10 => GC.ex fun L10 => GC.ex fun v15 => GC.ex fun L15 => GC.ex fun v20 => GC.ex fun L20 => GC.ex fun A20 => GC.ex fun c20 => GC.ex fun b_t3 => GC.and fun ⟨hs10, hs15, hs20, l20, k20⟩ => ?_;refine GC.seq' ?_
 obtain ⟨hv10, hw10, hx10⟩ := wnumF_rng hs10
 obtain ⟨hv15, hw15, hx15⟩ := wnumF_rng hs15
 obtain ⟨hv20, hw20, hx20⟩ := wnumF_rng hs20
 refine GC.regionXM (m := 30) (M := fun a w => ∃ v26 : Int, ∃ L26 : List UInt8, ∃ v30 : Int, ∃ L30 : List UInt8, ∃ v34 : Int, ∃ L34 : List UInt8, ∃ v38 : Int, ∃ L38 : List UInt8, ∃ v42 : Int, ∃ L42 : List UInt8, ∃ A42 : Option Addr, ∃ c42 : Nat, (wsmF L20 = some (v26, L26) ∧ wsmF L26 = some (v30, L30) ∧ wsmF L30 = some (v34, L34) ∧ wsmF L34 = some (v38, L38) ∧ wsmF L38 = some (v42, L42) ∧ L42.length ≤ c42 ∧ c42 ≤ 9223372036854775807) ∧ St c 95 [(0, .pointer (some ⟨p, 0, none⟩)), (2, .pointer (some ⟨b_t2, 0, none⟩)), (3, .pointer (some ⟨b_t3, 0, none⟩))] [.cells p [.slice A42 L42.length c42] e_, .cells b_t3 [.int .u8 v10, .int .i64 (IntKind.i64.wrap v15), .int .i64 (IntKind.i64.wrap v20), .int .i64 v26, .int .i64 v30, .int .i64 v34, .int .i64 v38, .int .i64 v42, .int .u64 0, .int .i64 0, .int .i64 0, .int .u8 0, .int .i64 0, .int .i64 0, .slice none 0 0, .slice none 0 0, .int .u8 0, .slice none 0 0, .int .i64 0, .slice none 0 0, .int .i64 0, .int .i64 0, .int .i64 0, .slice none 0 0, .slice none 0 0, .int .i64 0, .slice none 0 0, .slice none 0 0] 42, .cells b_t2 [.int .u8 0, .int .i64 0, .int .i64 0, .int .i64 0, .int .i64 0, .int .i64 0, .int .i64 0, .int .i64 0, .int .u64 0, .int .i64 0, .int .i64 0, .int .u8 0, .int .i64 0, .int .i64 0, .slice none 0 0, .slice none 0 0, .int .u8 0, .slice none 0 0, .int .i64 0, .slice none 0 0, .int .i64 0, .int .i64 0, .int .i64 0, .slice none 0 0, .slice none 0 0, .int .i64 0, .slice none 0 0, .slice none 0 0] 42] [Pers.row Kd.u8 A42 L42] a w) (is := [2]) (js := [0]) wide_ rfl rfl rfl (fun _ _ _ hd hp hD => ⟨hd.trans hD, .inr hp⟩) ?_ ?_
 ·refine GX.tk 0 [2] [0] ?_
  refine GX.tk 1 [2] [0] ?_
  refine GX.tk 2 [2] [0] ?_
  refine GX.tk 4 [2] [0] ?_
  refine GX.tk 5 [2] [0] ?_
  refine GX.tk 6 [2] [0] ?_
  refine GX.tk 8 [2] [0] ?_
  refine GX.tk 9 [2] [0] ?_
  refine GX.tk 10 [2] [0] ?_
  refine GX.tk 12 [2] [0] ?_
  refine GX.tk 13 [2] [0] ?_
  refine GX.tk 14 [2] [0] ?_
  refine GX.tk 16 [2] [0] ?_
  refine GX.tk 17 [2] [0] ?_
  refine GX.tk 18 [2] [0] ?_
  refine GX.al [3] ?_
  refine GXs.consP (i := 3) rfl rfl Tryz.call94 rfl (is := [0]) (js := [0]) rfl rfl (by exact (wsm_ct _ _ _ L20 _ l20 k20 (by omega)).mono (fun _ _ _ h => h) (fun _ h => ⟨h.1, by simp only [wmsgF, hs10, hs15, hs20, Option.bind_some, h.2, Option.bind_none]⟩)) (by rintro a w ⟨_, _, _, ⟨v26, L26, A26, c26, hs26, l26, k26, rfl, rfl, rfl⟩, h⟩; exact h.me [2] [1]) (GX.ret ?_) GXs.nil
  rintro _ _ _ ⟨v26, L26, A26, c26, hs26, l26, k26, rfl, rfl, rfl⟩
  obtain ⟨hv26, hw26, hx26⟩ := wsmF_rng hs26
  refine GX.al [7] ?_
  refine GXs.consP (i := 7) rfl rfl Tryz.call94 rfl (is := [0]) (js := [0]) rfl rfl (by exact (wsm_ct _ _ _ L26 _ l26 k26 (by omega)).mono (fun _ _ _ h => h) (fun _ h => ⟨h.1, by simp only [wmsgF, hs10, hs15, hs20, hs26, Option.bind_some, h.2, Option.bind_none]⟩)) (by rintro a w ⟨_, _, _, ⟨v30, L30, A30, c30, hs30, l30, k30, rfl, rfl, rfl⟩, h⟩; exact h.me [2] [2]) (GX.ret ?_) GXs.nil
  rintro _ _ _ ⟨v30, L30, A30, c30, hs30, l30, k30, rfl, rfl, rfl⟩
  obtain ⟨hv30, hw30, hx30⟩ := wsmF_rng hs30
  refine GX.al [11] ?_
  refine GXs.consP (i := 11) rfl rfl Tryz.call94 rfl (is := [0]) (js := [0]) rfl rfl (by exact (wsm_ct _ _ _ L30 _ l30 k30 (by omega)).mono (fun _ _ _ h => h) (fun _ h => ⟨h.1, by simp only [wmsgF, hs10, hs15, hs20, hs26, hs30, Option.bind_some, h.2, Option.bind_none]⟩)) (by rintro a w ⟨_, _, _, ⟨v34, L34, A34, c34, hs34, l34, k34, rfl, rfl, rfl⟩, h⟩; exact h.me [2] [3]) (GX.ret ?_) GXs.nil
  rintro _ _ _ ⟨v34, L34, A34, c34, hs34, l34, k34, rfl, rfl, rfl⟩
  obtain ⟨hv34, hw34, hx34⟩ := wsmF_rng hs34
  refine GX.al [15] ?_
  refine GXs.consP (i := 15) rfl rfl Tryz.call94 rfl (is := [0]) (js := [0]) rfl rfl (by exact (wsm_ct _ _ _ L34 _ l34 k34 (by omega)).mono (fun _ _ _ h => h) (fun _ h => ⟨h.1, by simp only [wmsgF, hs10, hs15, hs20, hs26, hs30, hs34, Option.bind_some, h.2, Option.bind_none]⟩)) (by rintro a w ⟨_, _, _, ⟨v38, L38, A38, c38, hs38, l38, k38, rfl, rfl, rfl⟩, h⟩; exact h.me [2] [4]) (GX.ret ?_) GXs.nil
  rintro _ _ _ ⟨v38, L38, A38, c38, hs38, l38, k38, rfl, rfl, rfl⟩
  obtain ⟨hv38, hw38, hx38⟩ := wsmF_rng hs38
  refine GX.al [19] ?_
  refine GXs.consP (i := 19) rfl rfl Tryz.call94 rfl (is := [0]) (js := [0]) rfl rfl (by exact (wsm_ct _ _ _ L38 _ l38 k38 (by omega)).mono (fun _ _ _ h => h) (fun _ h => ⟨h.1, by simp only [wmsgF, hs10, hs15, hs20, hs26, hs30, hs34, hs38, Option.bind_some, h.2, Option.bind_none]⟩)) (by rintro a w ⟨_, _, _, ⟨v42, L42, A42, c42, hs42, l42, k42, rfl, rfl, rfl⟩, h⟩; exact h.me [2] [5]) (GX.ret ?_) GXs.nil
  rintro _ _ _ ⟨v42, L42, A42, c42, hs42, l42, k42, rfl, rfl, rfl⟩
  obtain ⟨hv42, hw42, hx42⟩ := wsmF_rng hs42
  refine GX.tk 20 [2] [5] ?_
  refine GX.al [21] ?_
  refine GXs.cons (i := 21) rfl rfl (t_store (i := 1) rfl rfl rfl rfl sz_3 rfl rfl rfl) (by rintro a w h; exact h.me [2] [5]) ?_ GXs.nil
  refine GX.tk 22 [2] [5] ?_
  refine GX.al [23] ?_
  refine GXs.cons (i := 23) rfl rfl (t_store (i := 1) rfl rfl rfl rfl sz_3 rfl rfl rfl) (by rintro a w h; exact h.me [2] [5]) ?_ GXs.nil
  refine GX.tk 24 [2] [5] ?_
  refine GX.al [25] ?_
  refine GXs.cons (i := 25) rfl rfl (t_store (i := 1) rfl rfl rfl rfl sz_3 rfl rfl rfl) (by rintro a w h; exact h.me [2] [5]) ?_ GXs.nil
  refine GX.tk 26 [2] [5] ?_
  refine GX.al [27] ?_
  refine GXs.cons (i := 27) rfl rfl (t_store (i := 1) rfl rfl rfl rfl sz_3 rfl rfl rfl) (by rintro a w h; exact h.me [2] [5]) ?_ GXs.nil
  refine GX.tk 28 [2] [5] ?_
  refine GX.al [29] ?_
  refine GXs.cons (i := 29) rfl rfl (t_store (i := 1) rfl rfl rfl rfl sz_3 rfl rfl rfl) (by rintro a w h; exact h.me [2] [5]) ?_ GXs.nil
  exact GX.done (by kernel_rfl) (fun a w h => ⟨_, _, _, _, _, _, _, _, _, _, _, _, ⟨hs26, hs30, hs34, hs38, hs42, l42, k42⟩, h.cut (is := [0, 0, 0]) (js := [0]) ⟨rfl, rfl, rfl, trivial⟩ rfl rfl⟩)
 refine (?_ : GC _ _ _ _)
 refine GC.ex fun v26 => GC.ex fun L26 => GC.ex fun v30 => GC.ex fun L30 => GC.ex fun v34 => GC.ex fun L34 => GC.ex fun v38 => GC.ex fun L38 => GC.ex fun v42 => GC.ex fun L42 => GC.ex fun A42 => GC.ex fun c42 => GC.and fun ⟨hs26, hs30, hs34, hs38, hs42, l42, k42⟩ => ?_
 refine GC.sr_ ?_
 obtain ⟨hv26, hw26, hx26⟩ := wsmF_rng hs26
 obtain ⟨hv30, hw30, hx30⟩ := wsmF_rng hs30
 obtain ⟨hv34, hw34, hx34⟩ := wsmF_rng hs34
 obtain ⟨hv38, hw38, hx38⟩ := wsmF_rng hs38
 obtain ⟨hv42, hw42, hx42⟩ := wsmF_rng hs42
 refine GL.rn 3 ?_;refine GL.callP rfl Tryz.call93 rfl (is := [0]) (js := [0]) rfl rfl (by exact (wnum_ct _ _ _ L42 _ 8 (by omega) (by omega) l42 k42 (by omega)).mono (fun _ _ _ h => h) (fun _ h => ⟨h.1, by simp only [wmsgF, hs10, hs15, hs20, hs26, hs30, hs34, hs38, hs42, Option.bind_some, h.2, Option.bind_none]⟩)) (fun v a w he h => FinP.panic he h) (GL.ret ?_)
 rintro _ _ _ ⟨v51, L51, A51, c51, hs51, l51, k51, rfl, rfl, rfl⟩
 obtain ⟨hv51, hw51, hx51⟩ := wnumF_rng hs51
 refine GL.rn 1 ?_;refine GL.so_ 1 ?_;refine GL.nl_ ?_;refine GC.seq' ?_;refine GC.regionXM (m := 12) (M := fun a w => ∃ v56 : Int, ∃ L56 : List UInt8, ∃ v60 : Int, ∃ L60 : List UInt8, ∃ A60 : Option Addr, ∃ c60 : Nat, (wsmF L51 = some (v56, L56) ∧ wsmF L56 = some (v60, L60) ∧ L60.length ≤ c60 ∧ c60 ≤ 9223372036854775807) ∧ St c 95 [(0, .pointer (some ⟨p, 0, none⟩)), (2, .pointer (some ⟨b_t2, 0, none⟩)), (3, .pointer (some ⟨b_t3, 0, none⟩))] [.cells p [.slice A60 L60.length c60] e_, .cells b_t3 [.int .u8 v10, .int .i64 (IntKind.i64.wrap v15), .int .i64 (IntKind.i64.wrap v20), .int .i64 v26, .int .i64 v30, .int .i64 v34, .int .i64 v38, .int .i64 v42, .int .u64 v51, .int .i64 v56, .int .i64 v60, .int .u8 0, .int .i64 0, .int .i64 0, .slice none 0 0, .slice none 0 0, .int .u8 0, .slice none 0 0, .int .i64 0, .slice none 0 0, .int .i64 0, .int .i64 0, .int .i64 0, .slice none 0 0, .slice none 0 0, .int .i64 0, .slice none 0 0, .slice none 0 0] 42, .cells b_t2 [.int .u8 0, .int .i64 0, .int .i64 0, .int .i64 0, .int .i64 0, .int .i64 0, .int .i64 0, .int .i64 0, .int .u64 0, .int .i64 0, .int .i64 0, .int .u8 0, .int .i64 0, .int .i64 0, .slice none 0 0, .slice none 0 0, .int .u8 0, .slice none 0 0, .int .i64 0, .slice none 0 0, .int .i64 0, .int .i64 0, .int .i64 0, .slice none 0 0, .slice none 0 0, .int .i64 0, .slice none 0 0, .slice none 0 0] 42] [Pers.row Kd.u8 A60 L60] a w) (is := [2]) (js := [0, 1]) wide_ rfl rfl rfl (fun _ _ _ hd hp hD => ⟨hd.trans hD, .inr hp⟩) ?_ ?_
 ·refine GX.tk 0 [2] [0, 1] ?_
  refine GX.tk 1 [2] [0, 1] ?_
  refine GX.tk 2 [2] [0, 1] ?_
  refine GX.tk 4 [2] [0, 1] ?_
  refine GX.tk 5 [2] [0, 1] ?_
  refine GX.tk 6 [2] [0, 1] ?_
  refine GX.al [3] ?_
  refine GXs.consP (i := 3) rfl rfl Tryz.call94 rfl (is := [0]) (js := [0]) rfl rfl (by exact (wsm_ct _ _ _ L51 _ l51 k51 (by omega)).mono (fun _ _ _ h => h) (fun _ h => ⟨h.1, by simp only [wmsgF, hs10, hs15, hs20, hs26, hs30, hs34, hs38, hs42, hs51, Option.bind_some, h.2, Option.bind_none]⟩)) (by rintro a w ⟨_, _, _, ⟨v56, L56, A56, c56, hs56, l56, k56, rfl, rfl, rfl⟩, h⟩; exact h.me [2] [1, 2]) (GX.ret ?_) GXs.nil
  rintro _ _ _ ⟨v56, L56, A56, c56, hs56, l56, k56, rfl, rfl, rfl⟩
  obtain ⟨hv56, hw56, hx56⟩ := wsmF_rng hs56
  refine GX.al [7] ?_
  refine GXs.consP (i := 7) rfl rfl Tryz.call94 rfl (is := [0]) (js := [0]) rfl rfl (by exact (wsm_ct _ _ _ L56 _ l56 k56 (by omega)).mono (fun _ _ _ h => h) (fun _ h => ⟨h.1, by simp only [wmsgF, hs10, hs15, hs20, hs26, hs30, hs34, hs38, hs42, hs51, hs56, Option.bind_some, h.2, Option.bind_none]⟩)) (by rintro a w ⟨_, _, _, ⟨v60, L60, A60, c60, hs60, l60, k60, rfl, rfl, rfl⟩, h⟩; exact h.me [2] [2, 3]) (GX.ret ?_) GXs.nil
  rintro _ _ _ ⟨v60, L60, A60, c60, hs60, l60, k60, rfl, rfl, rfl⟩
  obtain ⟨hv60, hw60, hx60⟩ := wsmF_rng hs60
  refine GX.tk 8 [2] [2, 3] ?_
  refine GX.al [9] ?_
  refine GXs.cons (i := 9) rfl rfl (t_store (i := 1) rfl rfl rfl rfl sz_3 rfl rfl rfl) (by rintro a w h; exact h.me [2] [2, 3]) ?_ GXs.nil
  refine GX.tk 10 [2] [2, 3] ?_
  refine GX.al [11] ?_
  refine GXs.cons (i := 11) rfl rfl (t_store (i := 1) rfl rfl rfl rfl sz_3 rfl rfl rfl) (by rintro a w h; exact h.me [2] [2, 3]) ?_ GXs.nil
  exact GX.done (by kernel_rfl) (fun a w h => ⟨_, _, _, _, _, _, ⟨hs56, hs60, l60, k60⟩, h.cut (is := [0, 0, 0]) (js := [0]) ⟨rfl, rfl, rfl, trivial⟩ rfl rfl⟩)
 refine (?_ : GC _ _ _ _)
 refine GC.ex fun v56 => GC.ex fun L56 => GC.ex fun v60 => GC.ex fun L60 => GC.ex fun A60 => GC.ex fun c60 => GC.and fun ⟨hs56, hs60, l60, k60⟩ => ?_;refine GC.sr_ ?_
 obtain ⟨hv56, hw56, hx56⟩ := wsmF_rng hs56
 obtain ⟨hv60, hw60, hx60⟩ := wsmF_rng hs60
 refine GL.rn 1 ?_;refine GL.callP rfl Tryz.call95 rfl (is := [0, 0]) (js := [0]) rfl rfl (by exact (wprt_ct _ _ _ _ _ _ _ _ _ _ _ _ _ _ _ _ L60 _ l60 k60 (by omega)).mono (fun _ _ _ h => h) (fun _ h => ⟨h.1, by simp only [wmsgF, hs10, hs15, hs20, hs26, hs30, hs34, hs38, hs42, hs51, hs56, hs60, Option.bind_some, h.2, Option.bind_none]⟩)) (fun v a w he h => FinP.panic he h) (GL.ret ?_)
 rintro _ _ _ ⟨o64, r64, g64, s64, L64, x64, hs64, hx64, l64, k64, rfl, rfl, rfl⟩
 refine GL.nl_ ?_;refine GC.seq' ?_;refine GC.rr 3 ?_;refine GL.callP rfl Tryz.call93 rfl (is := [0]) (js := [7]) rfl rfl (by exact (wnum_ct _ _ _ L64 _ 4 (by omega) (by omega) l64 k64 (by omega)).mono (fun _ _ _ h => h) (fun _ h => ⟨h.1, by simp only [wmsgF, hs10, hs15, hs20, hs26, hs30, hs34, hs38, hs42, hs51, hs56, hs60, Option.bind_some, hs64, h.2, Option.bind_none]⟩)) (fun v a w he h => FinP.panic he h) (GL.ret ?_)
 rintro _ _ _ ⟨v68, L68, A68, c68, hs68, l68, k68, rfl, rfl, rfl⟩
 obtain ⟨hv68, hw68, hx68⟩ := wnumF_rng hs68
 refine GL.nilrow 64 12 ?_;refine GL.know (q := Pers.reps kEntry [] []) (fun _ _ _ => rfl) ?_;refine GL.rz 1 ?_;refine GC.block ?_;refine GC.loopK7 (ks := [0, 2, 3, 68]) (is := [3]) (js := (up 1 10)) (fun (k : Nat) (es : List Entry) (V : Value) (cs : List Value) (L : List UInt8) (Al : Option Addr) (cl : Nat) => (es.length = k ∧ L.length ≤ b.length ∧ L.length ≤ cl ∧ cl ≤ 9223372036854775807) ∧ (k : Int) ≤ v68 ∧ manyF went L68 k = some (es, L)) (fun (k : Nat) (es : List Entry) (V : Value) (cs : List Value) (L : List UInt8) (Al : Option Addr) (cl : Nat) => [(69, .int .u64 (k : Int))]) (fun (k : Nat) (es : List Entry) (V : Value) (cs : List Value) (L : List UInt8) (Al : Option Addr) (cl : Nat) => [.cells p [.slice Al L.length cl] e_, .cells b_t3 [.int .u8 v10, .int .i64 (IntKind.i64.wrap v15), .int .i64 (IntKind.i64.wrap v20), .int .i64 v26, .int .i64 v30, .int .i64 v34, .int .i64 v38, .int .i64 v42, .int .u64 v51, .int .i64 v56, .int .i64 v60, .int .u8 o64.kind, .int .i64 o64.at_, .int .i64 o64.n, .slice x64.a1 o64.data.length x64.c1, .slice x64.a2 o64.old.length x64.c2, .int .u8 r64.code, .slice x64.a3 r64.data.length x64.c3, .int .i64 g64.epoch, .slice x64.a4 g64.members.length x64.c4, .int .i64 s64.num, .int .i64 s64.shp.bl, .int .i64 s64.shp.sz, .slice x64.a5 s64.pages.length x64.c5, .slice x64.a6 s64.rows.length x64.c6, .int .i64 s64.grp.epoch, .slice x64.a7 s64.grp.members.length x64.c7, V] 42, .row V 64 12 es.length cs]) (fun (k : Nat) (es : List Entry) (V : Value) (cs : List Value) (L : List UInt8) (Al : Option Addr) (cl : Nat) => [Pers.reps kEntry es cs, Pers.row Kd.u8 Al L]) (fun (k : Nat) (es : List Entry) (V : Value) (cs : List Value) (L : List UInt8) (Al : Option Addr) (cl : Nat) => v68.toNat - k) (0) ([]) (_) ([]) (L68) (_) (_) rfl rfl rfl (fun a w h => ⟨⟨⟨rfl, by omega, l68, k68⟩, by omega, rfl⟩, h.cutK (is := [1, 1, 0, 0]) (js := [0, 1, 1, 2, 3, 4, 5, 6, 7, 8, 9, 10]) (ks := [0, 2, 3, 68]) ⟨rfl, trivial⟩ rfl rfl rfl⟩) ?_
 intro k es V cs L Al cl hk
 try dsimp only [List.cons_append, List.nil_append] at hk ⊢
 refine GC.rg 1 ?_;refine GC.seq' ?_;refine GC.co ?_ ?_
 ·intro h1; try simp only [tst_] at h1
  refine GC.skip (?_ : GC _ _ _ _)
  refine GC.seq' ?_;refine GC.block ?_;refine GC.rr 4 ?_;refine GL.ld_ 0 ?_;refine GL.cl Tryz.call96 [] [1] rfl rfl rfl (by exact decent_ct _ L _ hk.1.2.2.1 hk.1.2.2.2 (by omega)) ?_
  rintro _ _ _ ⟨g77, t77, f77, A77, cp77, B77, cq77, C77, cr77, hs77, ht77, j77, k77, l77, m77, n77, o77, rfl, rfl, rfl⟩
  refine GL.rn 4 ?_;refine GL.step rfl (t_alloc rfl ze_64) (GL.ex fun b_t4 => ?_);refine GL.sn_ 0 ?_;refine GL.rz 2 ?_;refine GC.rr 5 ?_;refine GL.callP rfl Tryz.call97 rfl (is := [1]) (js := [4]) rfl rfl (by exact (wtake_ct _ _ _ L _ t77 f77 (fun _ => ht77) hk.1.2.2.1 hk.1.2.2.2).mono (fun _ _ _ h => h) (fun _ h => ⟨h.2, by simp only [wmsgF, hs10, hs15, hs20, hs26, hs30, hs34, hs38, hs42, hs51, hs56, hs60, hs64, hs68, Option.bind_some]; rw [manyF_fail hk.2.2 (show went L = none from by rw [went, hs77.2 h.1]; rfl) (by omega)]; rfl⟩)) (fun v a w he h => FinP.panic he h) (GL.ret ?_)
  rintro _ _ _ ⟨he86, A86, c86, l86, k86, rfl, rfl, rfl⟩
  refine GL.nl_ ?_;refine GC.region ?_;refine GL.rn 1 ?_;refine GL.ld_ 2 ?_;refine GL.ln_ 1 12 ?_;refine GL.snoc (j := 4) (js := [1, 2, 3]) g77 ((), ((), ((), ((), ((), (((), ((), ((), ((A77, cp77), (B77, cq77))))), ((), (C77, cr77)))))))) rfl rfl ⟨trivial, trivial, trivial, trivial, trivial, ⟨trivial, trivial, trivial, ⟨j77, k77⟩, ⟨l77, m77⟩⟩, trivial, n77, o77⟩ ?_
  refine GL.step rfl (t_buildSlice rfl Tryz.underlying40 sz_64 ze_64 rfl rfl rfl rfl rfl rfl) (GL.ex fun b_t90 => ?_);refine GL.step rfl (t_append (i := 4) (k := 0) rfl el_40 rfl rfl rfl rfl rfl (allOne_mem rfl) (by have := hk.1.1; omega) (fun _ => rfl)) (GL.ex fun v91 => ?_)
  refine GL.shape (i := 4) rfl (fun A_v91 c_v91 e_v91 l_v91 k_v91 => ?_)
  subst e_v91
  refine GL.rn 1 ?_;refine GL.so_ 3 ?_
  refine GL.nil (?_ : GC _ _ _ _)
  refine GC.region ?_;refine GL.pure rfl (p_add rfl rfl (cvU (by omega) (by omega))) ?_;refine GL.rn 1 ?_;refine GL.nil ?_
  exact fun a w h => ⟨(k + 1), (es ++ [g77]), (_), (_), (L.drop t77), (_), (_), (by omega), ⟨⟨by simp; omega, by have := @drop_len L t77; omega, l86, k86⟩, by omega, manyF_next hk.2.2 (show went L = some _ from by rw [went, hs77.1 he86]; rfl)⟩, by rw [List.length_append]; exact h.cut (is := [1, 2, 2, 2]) (js := [0, 1, 7, 8, 9, 10, 11, 12, 13, 14, 15, 16]) ⟨rfl, rfl, rfl, rfl, rfl, trivial⟩ rfl rfl⟩
 intro h1; try simp only [tst_] at h1
 refine GC.exit (?_ : GC _ _ _ _)
 refine GC.sr_ ?_;refine GL.shape (i := 2) rfl (fun A_EN c_EN e_EN l_EN k_EN => ?_)
 subst e_EN
 refine GL.freezeR (i := 2) (j := 0) rfl rfl (by decide) ?_;refine GL.ln_ 1 28 ?_;refine GL.sn_ 2 ?_;refine GL.nl_ ?_;refine GC.ret (FinP.c0 2 42 2 28 [0] [4, 5, 6, 7, 8, 9, 10, 0, 2] ?_)
 exact ⟨⟨v10, IntKind.i64.wrap v15, IntKind.i64.wrap v20, v26, v30, v34, v38, v42, v51, v56, v60, o64, r64, g64, s64, es⟩, ⟨x64.a1, x64.c1, x64.a2, x64.c2, x64.a3, x64.c3, x64.a4, x64.c4, x64.a5, x64.c5, x64.a6, x64.c6, x64.a7, x64.c7, A_EN, c_EN⟩, L, _, _, by simp only [wmsgF, hs10, hs15, hs20, hs26, hs30, hs34, hs38, hs42, hs51, hs56, hs60, hs64, hs68, Option.bind_some]; rw [show v68.toNat = k by omega, hk.2.2]; rfl, hk.1.2.2.1, hk.1.2.2.2, rfl, rfl, rfl⟩
theorem manyF_len {α σ : Type} {f : σ → Option (α × σ)} {t : σ} : ∀ {k : Nat} {xs : List α} {u : σ}, manyF f t k = some (xs, u) → xs.length = k
  | 0, xs, u, h => by
    obtain ⟨rfl, _⟩ := Prod.mk.inj (Option.some.inj h)
    rfl
  | k + 1, xs, u, h => by
    simp only [manyF, Option.bind_eq_some_iff, Option.map_eq_some_iff] at h
    obtain ⟨⟨ys, v⟩, h1, ⟨x, w⟩, h2, h3⟩ := h
    obtain ⟨rfl, _⟩ := Prod.mk.inj h3
    have := manyF_len h1
    simp [this]
theorem manyF_all {α σ : Type} {P : α → Prop} {f : σ → Option (α × σ)} {t : σ} (hf : ∀ t x v, f t = some (x, v) → P x) : ∀ {k : Nat} {xs : List α} {u : σ}, manyF f t k = some (xs, u) → ∀ x ∈ xs, P x
  | 0, xs, u, h => by
    obtain ⟨rfl, _⟩ := Prod.mk.inj (Option.some.inj h)
    intro x hx; cases hx
  | k + 1, xs, u, h => by
    simp only [manyF, Option.bind_eq_some_iff, Option.map_eq_some_iff] at h
    obtain ⟨⟨ys, v⟩, h1, ⟨x, w⟩, h2, h3⟩ := h
    obtain ⟨rfl, _⟩ := Prod.mk.inj h3
    intro y hy
    rcases List.mem_append.1 hy with hy | hy
    · exact manyF_all hf h1 y hy
    · rw [List.mem_singleton.1 hy]; exact hf _ _ _ h2
theorem manyF_dec {α : Type} {f : List UInt8 → Option (α × List UInt8)} {t : List UInt8} (hf : ∀ t x v, f t = some (x, v) → v.length + 1 ≤ t.length) : ∀ {k : Nat} {xs : List α} {u : List UInt8}, manyF f t k = some (xs, u) → u.length + k ≤ t.length
  | 0, xs, u, h => by
    obtain ⟨_, rfl⟩ := Prod.mk.inj (Option.some.inj h)
    exact Nat.le_refl _
  | k + 1, xs, u, h => by
    simp only [manyF, Option.bind_eq_some_iff, Option.map_eq_some_iff] at h
    obtain ⟨⟨ys, v⟩, h1, ⟨x, w⟩, h2, h3⟩ := h
    obtain ⟨_, rfl⟩ := Prod.mk.inj h3
    have := manyF_dec hf h1
    have := hf _ _ _ h2
    dsimp only at *
    omega
theorem ent_len {e : Entry} (h : entOk e) : EntLen e := by
  obtain ⟨_, _, _, _, h5⟩ := h
  rcases h5 with ⟨_, h, _, h2⟩ | ⟨_, h, h2, _⟩
  · have := form_rng h
    exact ⟨by unfold lenOk; omega, by unfold lenOk; omega, by omega⟩
  · have := grp_rng h2
    exact ⟨by rw [h]; simp [zop], by rw [h]; simp [zop], by omega⟩
theorem held_len {s : Stt} (h : heldOk s) : SttLen s := by
  have r := held_rng h
  have h1 := r.pl
  have h2 := r.rl
  have h3 := grp_rng r.gr
  refine ⟨by omega, by omega, by omega, fun p hp => ?_, fun p hp => ?_⟩
  · have := (r.pg p hp).2.2.2.2; unfold lenOk; omega
  · have := (res_rng (r.rw_ p hp).2.2).2.2; unfold lenOk; omega
theorem mentF_ok {b : List UInt8} {t : Nat} {e : Entry} {u : Nat} (h : mentF b t = some (e, u)) : entOk e := by
  simp only [mentF, Option.bind_eq_some_iff, mentC] at h
  obtain ⟨_, _, _, _, _, _, _, _, _, _, _, _, h⟩ := h
  split at h
  · rename_i h0
    rw [Option.some.inj h] at h0
    rwa [entE_iff] at h0
  · cases h
theorem mstF_ok {b : List UInt8} {t : Nat} {e : Stt} {u : Nat} (h : mstF b t = some (e, u)) : heldOk e := by
  simp only [mstF, Option.bind_eq_some_iff, mstC] at h
  obtain ⟨_, _, _, _, _, _, _, _, _, _, _, _, _, _, _, _, h⟩ := h
  split at h
  · rename_i h0
    rw [← (Prod.mk.inj (Option.some.inj h)).1]
    exact h0.1
  · cases h
theorem decOp_ok {b : List UInt8} {o : OpD} {n : Nat} (h : decOp b = some (o, n)) : formD o := by
  unfold decOp at h
  split at h
  · rename_i hh
    rw [← (Prod.mk.inj (Option.some.inj h)).1]
    exact (formE_iff ..).1 hh.2
  · cases h
theorem wnum_lt {n : Nat} {L M : List UInt8} {v : Int} (h : wnumF n L = some (v, M)) : M.length + n = L.length := (wnumF_rng h).2.2
theorem went_ok {L M : List UInt8} {e : Entry} (h : went L = some (e, M)) : entOk e := by
  simp only [went, Option.map_eq_some_iff] at h
  obtain ⟨⟨e', u⟩, h1, h2⟩ := h
  obtain ⟨rfl, _⟩ := Prod.mk.inj h2
  exact mentF_ok h1
theorem mnumF_step {b : List UInt8} {t n u : Nat} {v : Int} (h : mnumF b t n = some (v, u)) : u = t + n ∧ u ≤ b.length := ⟨(mnumF_rng h).2.1, (mnumF_rng h).1⟩
theorem mentF_step {b : List UInt8} {e : Entry} {u : Nat} (h : mentF b 0 = some (e, u)) : 1 ≤ u ∧ 1 ≤ b.length := by
  simp only [mentF, Option.bind_eq_some_iff] at h
  obtain ⟨⟨k, t1⟩, h1, ⟨n, t2⟩, h2, ⟨v, t3⟩, h3, ⟨cc, t4⟩, h4, ⟨s, t5⟩, h5, ⟨x, t6⟩, h6, h7⟩ := h
  have e1 := mnumF_step h1
  have e2 := mnumF_step h2
  have e3 := mnumF_step h3
  have e4 := mnumF_step h4
  have e5 := mnumF_step h5
  dsimp only at *
  simp only [mentC] at h7
  split at h7
  · obtain ⟨_, rfl⟩ := Prod.mk.inj (Option.some.inj h7)
    refine ⟨?_, by omega⟩
    unfold mentB at h6
    split at h6
    · simp only [Option.map_eq_some_iff] at h6
      obtain ⟨⟨o, m⟩, _, h8⟩ := h6
      have := (Prod.mk.inj h8).2
      dsimp only at this
      omega
    · split at h6
      · simp only [Option.map_eq_some_iff, mgrpF, Option.bind_eq_some_iff] at h6
        obtain ⟨⟨o, m⟩, ⟨⟨g1, u1⟩, h8, ⟨g2, u2⟩, h9, ⟨g3, u3⟩, h10, h11⟩, h12⟩ := h6
        have f1 := mnumF_step h8
        have f2 := mnumF_step h9
        have := (Prod.mk.inj h12).2
        have := (Prod.mk.inj h11).2
        dsimp only at *
        have hge : ∀ (k : Nat) (xs : List Int) (u : Nat), manyF (fun t => mnumF b t 1) u2 k = some (xs, u) → u2 ≤ u := by
          intro k
          induction k with
          | zero => intro xs u h; obtain ⟨_, rfl⟩ := Prod.mk.inj (Option.some.inj h); exact Nat.le_refl _
          | succ k ih =>
            intro xs u h
            simp only [manyF, Option.bind_eq_some_iff, Option.map_eq_some_iff] at h
            obtain ⟨⟨ys, v⟩, j1, ⟨x, w⟩, j2, j3⟩ := h
            obtain ⟨_, rfl⟩ := Prod.mk.inj j3
            have := ih _ _ j1
            have := mnumF_step j2
            dsimp only at *
            omega
        have := hge _ _ _ h10
        omega
      · have := (Prod.mk.inj (Option.some.inj h6)).2
        omega
  · cases h7
theorem went_dec (t : List UInt8) (x : Entry) (v : List UInt8) (h : went t = some (x, v)) : v.length + 1 ≤ t.length := by
  simp only [went, Option.map_eq_some_iff] at h
  obtain ⟨⟨e', u⟩, h1, h2⟩ := h
  obtain ⟨_, rfl⟩ := Prod.mk.inj h2
  have := mentF_step h1
  rw [List.length_drop]
  dsimp only
  omega
structure MsgF (b : List UInt8) (m : Msg) (M : List UInt8) : Prop where
  len : MsgLen m
  nonce : 0 ≤ m.nonce ∧ m.nonce < 18446744073709551616
  log : m.log.length ≤ b.length
theorem wmsgF_all {b : List UInt8} {m : Msg} {M : List UInt8} (h : wmsgF b = some (m, M)) : MsgF b m M := by
  simp only [wmsgF, Option.bind_eq_some_iff, Option.map_eq_some_iff] at h
  obtain ⟨⟨k, b1⟩, h1, ⟨sv, b2⟩, h2, ⟨d, b3⟩, h3, ⟨a1, b4⟩, h4, ⟨a2, b5⟩, h5, ⟨a3, b6⟩, h6, ⟨a4, b7⟩, h7, ⟨a5, b8⟩, h8, ⟨nn, b9⟩, h9, ⟨cl, b10⟩, h10, ⟨sr, b11⟩, h11, ⟨⟨o, r, g, s⟩, b12⟩, h12, ⟨n, b13⟩, h13, ⟨es, b14⟩, h14, h15⟩ := h
  dsimp only at *
  obtain ⟨rfl, rfl⟩ := Prod.mk.inj h15
  have q9 := wnumF_rng h9
  have e8 : (256 : Nat) ^ 8 = 18446744073709551616 := p256_8
  simp only [wprtF, Option.bind_eq_some_iff, Option.map_eq_some_iff] at h12
  obtain ⟨⟨pn, c1⟩, g1, ⟨o', c2⟩, g2, ⟨r', c3⟩, g3, ⟨g', c4⟩, g4, ⟨s', c5⟩, g5, g6⟩ := h12
  dsimp only at *
  cases g6
  have lo : lenOk o.data.length ∧ lenOk o.old.length ∧ c2.length ≤ c1.length := by
    unfold wpO at g2
    split at g2
    · obtain ⟨rfl, rfl⟩ := Prod.mk.inj (Option.some.inj g2); simp [zop]
    · simp only [Option.map_eq_some_iff] at g2
      obtain ⟨⟨o2, n2⟩, j1, j2⟩ := g2
      obtain ⟨rfl, rfl⟩ := Prod.mk.inj j2
      have := form_rng (decOp_ok j1)
      exact ⟨by unfold lenOk; dsimp only; omega, by unfold lenOk; dsimp only; omega, drop_len⟩
  have lr : lenOk r.data.length ∧ c3.length ≤ c2.length := by
    unfold wpR at g3
    split at g3
    · obtain ⟨rfl, rfl⟩ := Prod.mk.inj (Option.some.inj g3); simp [rz]
    · simp only [Option.map_eq_some_iff] at g3
      obtain ⟨⟨o2, n2⟩, j1, j2⟩ := g3
      obtain ⟨rfl, rfl⟩ := Prod.mk.inj j2
      have := decRes_len j1
      exact ⟨by unfold lenOk; dsimp only; omega, drop_len⟩
  have lg : g.members.length ≤ 17592186043904 ∧ c4.length ≤ c3.length := by
    unfold wpG at g4
    split at g4
    · obtain ⟨rfl, rfl⟩ := Prod.mk.inj (Option.some.inj g4); simp [zgr]
    · simp only [wgrpF, Option.bind_eq_some_iff, Option.map_eq_some_iff] at g4
      obtain ⟨⟨e1, d1⟩, j1, ⟨e2, d2⟩, j2, ⟨e3, d3⟩, j3, j4⟩ := g4
      obtain ⟨rfl, rfl⟩ := Prod.mk.inj j4
      have f1 := wsmF_rng j1
      have f2 := wnumF_rng j2
      have f3 := manyF_len j3
      have f4 := manyF_dec (fun t x v h => by have := wnum_lt h; omega) j3
      have e1 : (256 : Nat) ^ 1 = 256 := p256_1
      dsimp only at *
      omega
  have ls : SttLen s ∧ b12.length ≤ c4.length := by
    unfold wpS at g5
    split at g5
    · obtain ⟨rfl, rfl⟩ := Prod.mk.inj (Option.some.inj g5); exact ⟨zstLen, Nat.le_refl _⟩
    · simp only [Option.map_eq_some_iff] at g5
      obtain ⟨⟨o2, n2⟩, j1, j2⟩ := g5
      obtain ⟨rfl, rfl⟩ := Prod.mk.inj j2
      exact ⟨held_len (mstF_ok j1), drop_len⟩
  have f1 := wnum_lt h1
  have f2 := wnum_lt h2
  have f3 := wnum_lt h3
  have f4 := (wsmF_rng h4).2.2
  have f5 := (wsmF_rng h5).2.2
  have f6 := (wsmF_rng h6).2.2
  have f7 := (wsmF_rng h7).2.2
  have f8 := (wsmF_rng h8).2.2
  have f9 := wnum_lt h9
  have f10 := (wsmF_rng h10).2.2
  have f11 := (wsmF_rng h11).2.2
  have f12 := wnum_lt g1
  have f13 := wnum_lt h13
  have f14 := manyF_len h14
  have f15 := manyF_dec went_dec h14
  have f16 := wnumF_rng h13
  have e4 : (256 : Nat) ^ 4 = 4294967296 := p256_4
  try dsimp only at *
  exact ⟨⟨lo.1, lo.2.1, lr.1, lg.1, ls.1, by dsimp only; omega, fun e he => ent_len (manyF_all (P := entOk) (fun t x v h => went_ok h) h14 e he)⟩, by dsimp only; omega, by dsimp only; omega⟩
def At (b : List UInt8) (t : Nat) (L : List UInt8) : Prop := t ≤ b.length ∧ b.drop t = L
theorem At.zero (b : List UInt8) : At b 0 b := ⟨Nat.zero_le _, rfl⟩
theorem At.len {b : List UInt8} {t : Nat} {L : List UInt8} (h : At b t L) : t + L.length = b.length := by
  have := congrArg List.length h.2
  rw [List.length_drop] at this
  have := h.1
  omega
theorem At.step {b : List UInt8} {t : Nat} {x L : List UInt8} (h : At b t (x ++ L)) : At b (t + x.length) L ∧ seg b t (t + x.length) = x ∧ t + x.length ≤ b.length := by
  have hl := h.len
  rw [List.length_append] at hl
  have e : b.drop (t + x.length) = L := by rw [← List.drop_drop, h.2, List.drop_left]
  refine ⟨⟨by omega, e⟩, ?_, by omega⟩
  have e2 : seg b t (t + x.length) = (b.drop t).take x.length := by rw [seg, List.drop_take]; congr 1; omega
  rw [e2, h.2, List.take_left]
theorem At.seg {b : List UInt8} {t : Nat} {L : List UInt8} (h : At b t L) : Go.Sx.seg b t b.length = L := by rw [seg_drop, h.2]
theorem At.num {b : List UInt8} {t n : Nat} {v : Int} {L : List UInt8} (h : At b t (leN n v.toNat ++ L)) (h0 : 0 ≤ v) (h1 : v.toNat < 256 ^ n) (h2 : v ≤ 4611686018427387904) : ∃ u, mnumF b t n = some (v, u) ∧ At b u L := by
  obtain ⟨g1, g2, g3⟩ := h.step
  rw [leN_length] at g1 g2 g3
  refine ⟨t + n, ?_, g1⟩
  rw [mnumF, if_pos g3, getV, if_pos g3, getX, if_pos g3, g2, valN_leN _ _ h1, if_neg (by omega), show ((v.toNat : Nat) : Int) = v by omega]
theorem flZ_single (n : Nat) (x : Int) : flZ n [x] = leN n x.toNat := by simp [flZ]
theorem flZ_cons (n : Nat) (x : Int) (l : List Int) : flZ n (x :: l) = leN n x.toNat ++ flZ n l := by simp [flZ]
theorem flZ_nil (n : Nat) : flZ n [] = [] := rfl
theorem byI_le {x : Int} (h : 0 ≤ x) (h' : x < 256) : [byI x] = leN 1 x.toNat := by
  have : x.toNat % 256 = x.toNat := by omega
  simp [leN, byI, this]
theorem manyF_cons {α σ : Type} {f : σ → Option (α × σ)} {t u v : σ} {x : α} {xs : List α} (hx : f t = some (x, u)) : ∀ {k : Nat} {xs : List α} {v : σ}, manyF f u k = some (xs, v) → manyF f t (k + 1) = some (x :: xs, v)
  | 0, xs, v, h => by
    obtain ⟨rfl, rfl⟩ := Prod.mk.inj (Option.some.inj h)
    simp [manyF, hx]
  | k + 1, xs, v, h => by
    rw [manyF] at h
    simp only [Option.bind_eq_some_iff, Option.map_eq_some_iff] at h
    obtain ⟨⟨ys, w⟩, h1, ⟨y, z⟩, h2, h3⟩ := h
    have ih := manyF_cons (f := f) (t := t) (u := u) (v := v) (x := x) (xs := xs) hx h1
    obtain ⟨rfl, rfl⟩ := Prod.mk.inj h3
    rw [manyF, ih]
    simp [h2]
theorem manyF_enc {α σ : Type} {f : σ → Option (α × σ)} {enc : α → List UInt8} (I : σ → List UInt8 → Prop) (L : List UInt8) : ∀ {xs : List α} {t : σ}, (∀ x ∈ xs, ∀ t L, I t (enc x ++ L) → ∃ u, f t = some (x, u) ∧ I u L) → I t (xs.flatMap enc ++ L) → ∃ u, manyF f t xs.length = some (xs, u) ∧ I u L
  | [], t, _, h => ⟨t, rfl, h⟩
  | x :: xs, t, hf, h => by
    rw [List.flatMap_cons, List.append_assoc] at h
    obtain ⟨u, h1, h2⟩ := hf x (List.mem_cons_self ..) t _ h
    obtain ⟨v, h3, h4⟩ := manyF_enc I L (xs := xs) (fun y hy => hf y (List.mem_cons_of_mem _ hy)) h2
    exact ⟨v, manyF_cons (v := v) (xs := xs) h1 h3, h4⟩
theorem numS_at {b : List UInt8} {t n v : Nat} {L : List UInt8} (h : At b t (leN n v ++ L)) (h1 : v < 256 ^ n) : numS b t 0 n = (v, t + n, 0) ∧ At b (t + n) L := by
  obtain ⟨g1, g2, g3⟩ := h.step
  rw [leN_length] at g1 g2 g3
  refine ⟨?_, g1⟩
  rw [numS, if_pos rfl, if_pos g3, g2, valN_leN _ _ h1]
theorem txF_at {b : List UInt8} {t : Nat} {d L : List UInt8} (h : At b t (leN 4 d.length ++ (d ++ L))) (h1 : d.length ≤ 16777216) : txF b t = (d, t + 4 + d.length, 0) ∧ At b (t + 4 + d.length) L := by
  obtain ⟨g1, g2, g3⟩ := h.step
  rw [leN_length] at g1 g2 g3
  obtain ⟨g4, g5, g6⟩ := g1.step
  have e : valN (leN 4 d.length) = d.length := valN_leN _ _ (by rw [p256_4]; omega)
  refine ⟨?_, g4⟩
  rw [txF, if_pos g3, g2, e, if_pos h1, if_pos g6, g5]
theorem txS_at {b : List UInt8} {t : Nat} {d L : List UInt8} (h : At b t (leN 4 d.length ++ (d ++ L))) (h1 : d.length ≤ 16777216) : txS b t 0 = (d, t + 4 + d.length, 0) ∧ At b (t + 4 + d.length) L := by
  obtain ⟨g1, g2⟩ := txF_at h h1
  refine ⟨?_, g2⟩
  rw [txS, if_pos rfl, g1, if_pos rfl]
theorem decOp_at {b : List UInt8} {o : OpD} {L : List UInt8} (h : b = opB o ++ L) (hf : formD o) : ∃ u, decOp b = some (o, u) ∧ At b u L := by
  obtain ⟨r1, r2, r3, r4, r5, r6, r7, r8⟩ := form_rng hf
  have h0 := At.zero b
  rw [show At b 0 b = At b 0 (leN 1 o.kind.toNat ++ (leN 4 o.at_.toNat ++ (leN 4 o.n.toNat ++ (leN 4 o.data.length ++ (o.data ++ (leN 4 o.old.length ++ (o.old ++ L))))))) from by
    conv => lhs; rw [show b = opB o ++ L from h]
    rw [h, opB, byI_le (by omega) (by omega)]; simp [flI, List.append_assoc]] at h0
  obtain ⟨e1, h1⟩ := numS_at h0 (by rw [p256_1]; omega)
  obtain ⟨e2, h2⟩ := numS_at h1 (by rw [p256_4]; omega)
  obtain ⟨e3, h3⟩ := numS_at h2 (by rw [p256_4]; omega)
  obtain ⟨e4, h4⟩ := txS_at h3 (by omega)
  obtain ⟨e5, h5⟩ := txS_at h4 (by omega)
  refine ⟨_, ?_, h5⟩
  have eo : (⟨((o.kind.toNat : Nat) : Int), ((o.at_.toNat : Nat) : Int), ((o.n.toNat : Nat) : Int), o.data, o.old⟩ : OpD) = o := by
    rw [show ((o.kind.toNat : Nat) : Int) = o.kind by omega, show ((o.at_.toNat : Nat) : Int) = o.at_ by omega, show ((o.n.toNat : Nat) : Int) = o.n by omega]
  have hS := decOpS_eq e1 e2 e3 e4 e5
  rw [eo] at hS
  rw [decOp, hS]
  exact if_pos ⟨rfl, (formE_iff ..).2 hf⟩
theorem decRes_at {b : List UInt8} {r : Res} {L : List UInt8} (h : b = resB r ++ L) (hf : resOk r.code r.data.length = true) : ∃ u, decRes b = some (r, u) ∧ At b u L := by
  obtain ⟨r1, r2, r3⟩ := res_rng hf
  have h0 := At.zero b
  have hb : b = leN 1 r.code.toNat ++ (leN 4 r.data.length ++ (r.data ++ L)) := by rw [h, resB, byI_le (by omega) (by omega)]; simp [List.append_assoc]
  have h0 : At b 0 (leN 1 r.code.toNat ++ (leN 4 r.data.length ++ (r.data ++ L))) := ⟨Nat.zero_le _, hb⟩
  obtain ⟨e1, h1⟩ := numS_at h0 (by rw [p256_1]; omega)
  obtain ⟨e2, h2⟩ := txS_at h1 (by omega)
  refine ⟨_, ?_, h2⟩
  have eo : (⟨((r.code.toNat : Nat) : Int), r.data⟩ : Res) = r := by rw [show ((r.code.toNat : Nat) : Int) = r.code by omega]
  have hS := decResS_eq e1 e2
  rw [eo] at hS
  rw [decRes, hS]
  exact if_pos ⟨rfl, hf⟩
theorem mgrpF_at {b : List UInt8} {t : Nat} {g : Grp} {L : List UInt8} (h : At b t (grpB g ++ L)) (hg : groupOk g.epoch g.members = true) : ∃ u, mgrpF b t = some (g, u) ∧ At b u L := by
  obtain ⟨r1, r2, r3, r4, r5⟩ := grp_rng hg
  simp only [grpB, flZ_single, List.append_assoc] at h
  obtain ⟨u1, e1, h1⟩ := h.num r4 (by rw [p256_8]; omega) r5
  obtain ⟨u2, e2, h2⟩ := h1.num (by omega) (by rw [p256_1]; omega) (by omega)
  obtain ⟨u3, e3, h3⟩ := manyF_enc (f := fun t => mnumF b t 1) (enc := fun x : Int => leN 1 x.toNat) (At b) L (xs := g.members) (fun x hx t L h => by
    have := r1 x hx
    exact h.num (by omega) (by rw [p256_1]; omega) (by omega)) h2
  refine ⟨u3, ?_, h3⟩
  simp only [mgrpF, e1, e2, Option.bind_some]
  rw [show ((g.members.length : Nat) : Int).toNat = g.members.length from rfl, e3]
  rfl
theorem At.here {b : List UInt8} {t u : Nat} {M L : List UInt8} (h : At b t M) (hu : At M u L) : At b (t + u) L := by
  have h1 := h.len
  have h2 := hu.len
  exact ⟨by omega, by rw [← List.drop_drop, h.2, hu.2]⟩
theorem mentF_at {b : List UInt8} {t : Nat} {e : Entry} {L : List UInt8} (h : At b t (entB e ++ L)) (he : entOk e) : ∃ u, mentF b t = some (e, u) ∧ At b u L := by
  obtain ⟨r1, r2, r3, r4, r5, r6, r7⟩ := ent_rng he
  have e8 : (256 : Nat) ^ 8 = 18446744073709551616 := p256_8
  simp only [entB, flZ_cons, flZ_nil, byI_le (show 0 ≤ e.kind by omega) (show e.kind < 256 by omega), List.append_assoc, List.nil_append] at h
  obtain ⟨u1, e1, h1⟩ := h.num (by omega) (by rw [p256_1]; omega) (by omega)
  obtain ⟨u2, e2, h2⟩ := h1.num (by omega) (by omega) (by omega)
  obtain ⟨u3, e3, h3⟩ := h2.num (by omega) (by omega) (by omega)
  obtain ⟨u4, e4, h4⟩ := h3.num (by omega) (by omega) (by omega)
  obtain ⟨u5, e5, h5⟩ := h4.num (by omega) (by omega) (by omega)
  have fin : ∀ u, mentB b e.kind e.num e.view e.client e.serial u5 = some (e, u) → mentF b t = some (e, u) := fun u hu => by
    simp only [mentF, e1, e2, e3, e4, e5, Option.bind_some, hu, mentC]
    exact if_pos (if_pos he)
  obtain ⟨_, _, _, _, hk⟩ := he
  rcases hk with ⟨k1, k2, k3, k4⟩ | ⟨k1, k2, k3, _⟩
  · rw [if_neg (by omega)] at h5
    obtain ⟨u6, e6, h6⟩ := decOp_at (show Go.Sx.seg b u5 b.length = opB e.op ++ L from h5.seg) k2
    refine ⟨u5 + u6, fin _ ?_, ?_⟩
    · rw [mentB, if_pos k1, e6]
      have : e.grp = zgr := by
        have hm : e.grp.members = [] := List.eq_nil_of_length_eq_zero k4
        rw [gr_ext]; exact ⟨k3, hm⟩
      show some (_, _) = some (_, _)
      rw [← this]
    · rw [h5.seg] at h6; exact h5.here h6
  · rw [if_pos (by omega)] at h5
    obtain ⟨u6, e6, h6⟩ := mgrpF_at h5 k3
    refine ⟨u6, fin _ ?_, h6⟩
    rw [mentB, if_neg (by omega), if_pos k1, e6]
    show some (_, _) = some (_, _)
    rw [← k2]
theorem mpgF_at {b : List UInt8} {p : Page} (hp : 0 ≤ p.at_ ∧ p.at_ ≤ 4096 ∧ 1 ≤ p.ver ∧ p.ver ≤ 4611686018427387904 ∧ p.data.length ≤ 4096) (t : Nat) (L : List UInt8) (h : At b t (pgB p ++ L)) : ∃ u, mpgF b t = some (p, u) ∧ At b u L := by
  have e8 : (256 : Nat) ^ 8 = 18446744073709551616 := p256_8
  have e4_ : (256 : Nat) ^ 4 = 4294967296 := p256_4
  simp only [pgB, flZ_single, List.append_assoc] at h
  obtain ⟨u1, e1, h1⟩ := h.num (by omega) (by omega) (by omega)
  obtain ⟨u2, e2, h2⟩ := h1.num (by omega) (by omega) (by omega)
  obtain ⟨e3, h3⟩ := txF_at h2 (by omega)
  refine ⟨_, ?_, h3⟩
  simp only [mpgF, e1, e2, Option.bind_some, mtxF, e3, if_true, Option.map_some]
theorem mrowF_at {b : List UInt8} {r : Row} (hr : (1 ≤ r.client ∧ r.client ≤ 4611686018427387904) ∧ (1 ≤ r.serial ∧ r.serial ≤ 4611686018427387904) ∧ resOk r.result.code r.result.data.length = true) (t : Nat) (L : List UInt8) (h : At b t (rowBy r ++ L)) : ∃ u, mrowF b t = some (r, u) ∧ At b u L := by
  have e8 : (256 : Nat) ^ 8 = 18446744073709551616 := p256_8
  simp only [rowBy, flZ_cons, flZ_nil, List.append_assoc, List.nil_append] at h
  obtain ⟨u1, e1, h1⟩ := h.num (by omega) (by omega) (by omega)
  obtain ⟨u2, e2, h2⟩ := h1.num (by omega) (by omega) (by omega)
  obtain ⟨u3, e3, h3⟩ := decRes_at (show Go.Sx.seg b u2 b.length = resB r.result ++ L from h2.seg) hr.2.2
  refine ⟨u2 + u3, ?_, ?_⟩
  · simp only [mrowF, e1, e2, Option.bind_some, e3, Option.map_some]
  · rw [h2.seg] at h3; exact h2.here h3
theorem mstF_at {b : List UInt8} {t : Nat} {s : Stt} {L : List UInt8} (h : At b t (sttB s ++ L)) (hs : heldOk s) (hb : b.length ≤ 33554432) : ∃ u, mstF b t = some (s, u) ∧ At b u L := by
  have r := held_rng hs
  have e8 : (256 : Nat) ^ 8 = 18446744073709551616 := p256_8
  have e4_ : (256 : Nat) ^ 4 = 4294967296 := p256_4
  have q1 := r.num
  have q2 := r.bl
  have q3 := r.sz
  have q4 := r.pl
  have q5 := r.rl
  simp only [sttB, sttH, flZ_cons, flZ_nil, byI_le (show 0 ≤ (s.rows.length : Int) by omega) (show (s.rows.length : Int) < 256 by omega), List.append_assoc, List.nil_append] at h
  obtain ⟨u1, e1, h1⟩ := h.num (by omega) (by omega) (by omega)
  obtain ⟨u2, e2, h2⟩ := h1.num (by omega) (by omega) (by omega)
  obtain ⟨u3, e3, h3⟩ := h2.num (by omega) (by omega) (by omega)
  obtain ⟨u4, e4, h4⟩ := h3.num (by omega) (by omega) (by omega)
  obtain ⟨u5, e5, h5⟩ := manyF_enc (f := mpgF b) (enc := pgB) (At b) _ (xs := s.pages) (fun x hx t L h => mpgF_at (r.pg x hx) t L h) h4
  obtain ⟨u6, e6, h6⟩ := h5.num (by omega) (by rw [p256_1]; omega) (by omega)
  obtain ⟨u7, e7, h7⟩ := manyF_enc (f := mrowF b) (enc := rowBy) (At b) _ (xs := s.rows) (fun x hx t L h => mrowF_at (r.rw_ x hx) t L h) h6
  obtain ⟨u9, e9, h9⟩ := mgrpF_at h7 r.gr
  refine ⟨u9, ?_, h9⟩
  simp only [mstF, e1, e2, e3, e4, Option.bind_some]
  rw [show ((s.pages.length : Nat) : Int).toNat = s.pages.length from rfl, e5]
  simp only [Option.bind_some, e6]
  rw [show ((s.rows.length : Nat) : Int).toNat = s.rows.length from rfl, e7]
  simp only [Option.bind_some, e9, mstC]
  exact if_pos ⟨hs, Nat.le_trans h9.1 hb⟩
theorem rd_zero {b : List UInt8} (h : rdE b = 0) : 16 ≤ b.length ∧ rdN b + 20 ≤ b.length ∧ sealB (seg b 0 (rdN b + 16)) = seg b 0 (rdN b + 20) := by
  unfold rdE at h
  split at h
  · cases h
  · split at h
    · cases h
    · split at h
      · cases h
      · split at h
        · cases h
        · rename_i h1 h2 h3 h4
          exact ⟨by omega, by omega, Classical.not_not.1 h4⟩
theorem valN_leN4 {v : Nat} (h : v < 4294967296) : valN (leN 4 v) = v := by
  rw [leN4]
  simp only [valN]
  simp only [show (256 : Nat) ^ 1 = 256 from rfl, show (256 : Nat) ^ 2 = 65536 from rfl, show (256 : Nat) ^ 3 = 16777216 from rfl]
  have e : ∀ a : Nat, (UInt8.ofNat (a % 256)).toNat = a % 256 := fun a => by simp
  simp only [e]
  omega
theorem rdN_frame {F : List UInt8} {B : List UInt8} (hF : F = frameB B) (hB : B.length ≤ 16777216) {G : List UInt8} (hG : ∀ i : Nat, 12 ≤ i → i < 16 → G[i]? = F[i]?) (hl : 16 ≤ G.length) : rdN G = B.length := by
  have e : seg G 12 (12 + 4) = leN 4 B.length := by
    apply List.ext_getElem?
    intro i
    by_cases hi : i < 4
    · rw [seg, List.getElem?_drop, List.getElem?_take, if_pos (by omega), hG _ (by omega) (by omega), hF, frameB, sealB, headB]
      have h12 : ([80, 76, 4, 0] ++ leN 8 0 : List UInt8).length = 12 := by simp [leN_length]
      rw [List.append_assoc, List.append_assoc, List.getElem?_append_right (by omega), h12, show 12 + i - 12 = i by omega, List.getElem?_append_left (by rw [leN_length]; exact hi)]
    · rw [List.getElem?_eq_none (by rw [seg_length (by omega)]; omega), List.getElem?_eq_none (by rw [leN_length]; omega)]
  rw [rdN, e, valN_leN4 (by omega)]
abbrev msgZ : Value := .agg #[.int .u8 0, .int .i64 0, .int .i64 0, .int .i64 0, .int .i64 0, .int .i64 0, .int .i64 0, .int .i64 0, .int .u64 0, .int .i64 0, .int .i64 0, .int .u8 0, .int .i64 0, .int .i64 0, .slice none 0 0, .slice none 0 0, .int .u8 0, .slice none 0 0, .int .i64 0, .slice none 0 0, .int .i64 0, .int .i64 0, .int .i64 0, .slice none 0 0, .slice none 0 0, .int .i64 0, .slice none 0 0, .slice none 0 0]
theorem wbodyo_ok (m : Msg) (s : Lie) (hm : MsgLen m) (hok : msgOk m) (hn : 0 ≤ m.nonce ∧ m.nonce < 18446744073709551616) (hlog : m.log.length < 100000) (hf : (bodyB m).length ≤ 16777216) : Ct Tryz.prog 45 [msgV m s] [] (msgQ m s)
    (fun u G Q => ∃ A cp, (bodyB m).length ≤ cp ∧ cp ≤ 9223372036854775807 ∧ u = .tuple #[.slice A (bodyB m).length cp, .bool true] ∧ G = [rowOf A cp (bodyB m)] ∧ Q = []) :=
  Ct.mono (wbody_all m s hm hok hn hlog) fun u G Q h => h.elim (fun h => h.2) (fun h => by omega)
theorem wbodyo_long (m : Msg) (s : Lie) (hm : MsgLen m) (hok : msgOk m) (hn : 0 ≤ m.nonce ∧ m.nonce < 18446744073709551616) (hlog : m.log.length < 100000) (hf : ¬ (bodyB m).length ≤ 16777216) : Ct Tryz.prog 45 [msgV m s] [] (msgQ m s)
    (fun u G Q => (∃ A n cp, u = .tuple #[.slice A n cp, .bool false]) ∧ G = [] ∧ Q = []) :=
  Ct.mono (wbody_all m s hm hok hn hlog) fun u G Q h => h.elim (fun h => by omega) (fun h => h.2)
theorem wchko_ok (m : Msg) (s : Lie) (hm : MsgLen m) (h : msgOk m) : Ct Tryz.prog 12 [msgV m s] [] (msgQ m s) (fun u G Q => u = .int .i64 0 ∧ G = [] ∧ Q = []) := by
  have := wchk_ct m s hm; rw [msgE_yes h] at this; exact this
theorem wchko_no (m : Msg) (s : Lie) (hm : MsgLen m) (h : ¬ msgOk m) : Ct Tryz.prog 12 [msgV m s] [] (msgQ m s) (fun u G Q => u = .int .i64 160 ∧ G = [] ∧ Q = []) := by
  have := wchk_ct m s hm; rw [msgE_no h] at this; exact this
def encFo (m : Msg) : Int × List UInt8 := if msgOk m then (if (bodyB m).length ≤ 16777216 then (0, frameB (bodyB m)) else (2, [])) else (160, [])
abbrev EncO (e : Int) (F : List UInt8) (u : Value) (G : List Own) (Q : List Pers) : Prop := ∃ A cp, F.length ≤ cp ∧ cp ≤ 9223372036854775807 ∧ u = .tuple #[.slice A F.length cp, .int .i64 e] ∧ G = [rowOf A cp F] ∧ Q = []
theorem wenco_bad (m : Msg) (s : Lie) (hm : MsgLen m) (h : ¬ msgOk m) : Ct Tryz.prog 16 [msgV m s] [] (msgQ m s) (EncO 160 []) := by
 refine Ct.intro Tryz.func16 rfl rfl rfl (fun c hc => ?_)
 refine GC.sr_ ?_;refine GL.step rfl (t_box rfl rfl rfl) (GL.ex fun b_t1 => ?_);refine GL.rz 2 ?_;refine GC.seq' ?_;refine GC.sr_ ?_;refine GL.ln_ 0 28 ?_;refine GL.cl Tryz.call12 [] (up 0 8) rfl rfl rfl (by exact wchko_no m s hm h) ?_
 rintro _ _ _ ⟨rfl, rfl, rfl⟩
 refine GL.rz 1 ?_;refine GC.rg 2 ?_;refine GC.cond_true rfl ?_;refine GC.rg 3 ?_;refine GC.nilrow 5 1 ?_;refine GC.ret (Fin.b2 2 3 [0] [] ?_)
 exact ⟨none, 0, by simp, by simp, rfl, rfl, rfl⟩
theorem wenco_ok (m : Msg) (s : Lie) (hm : MsgLen m) (hn : 0 ≤ m.nonce ∧ m.nonce < 18446744073709551616) (hlog : m.log.length < 100000) (h : msgOk m) (hf : (bodyB m).length ≤ 16777216) : Ct Tryz.prog 16 [msgV m s] [] (msgQ m s) (EncO 0 (frameB (bodyB m))) := by
 refine Ct.intro Tryz.func16 rfl rfl rfl (fun c hc => ?_)
 refine GC.sr_ ?_;refine GL.step rfl (t_box rfl rfl rfl) (GL.ex fun b_t1 => ?_);refine GL.rz 2 ?_;refine GC.seq' ?_;refine GC.sr_ ?_;refine GL.ln_ 0 28 ?_;refine GL.cl Tryz.call12 [] (up 0 8) rfl rfl rfl (by exact wchko_ok m s hm h) ?_
 rintro _ _ _ ⟨rfl, rfl, rfl⟩
 refine GL.rz 1 ?_;refine GC.rg 2 ?_;refine GC.cond_false rfl ?_
 refine GC.skip (?_ : GC _ _ _ _)
 refine GC.sr_ ?_;refine GL.ln_ 0 28 ?_;refine GL.cl Tryz.call45 [] (up 0 8) rfl rfl rfl (by exact wbodyo_ok m s hm h hn hlog hf) ?_
 rintro _ _ _ ⟨A14, cp14, l14, k14, rfl, rfl, rfl⟩
 refine GL.rz 5 ?_;refine GC.seq' ?_;refine GC.rg 2 ?_;refine GC.cond_false rfl ?_
 refine GC.skip (?_ : GC _ _ _ _)
 refine GC.sr_ ?_;refine GL.freezeB (i := 0) rfl ?_;refine GL.rn 1 ?_;refine GL.pure rfl (p_build ze_55 of_55 rfl rfl) ?_;refine GL.cl Tryz.call46 [] [0] rfl rfl rfl (by exact fwrite_ct _ (bodyB m) _ hf) ?_
 rintro _ _ _ ⟨A21, cp21, l21, k21, rfl, rfl, rfl⟩
 refine GL.rz 4 ?_;refine GC.ret (Fin.b2 2 3 [0] [] ?_)
 exact ⟨_, _, l21, k21, rfl, rfl, rfl⟩
theorem wenco_long (m : Msg) (s : Lie) (hm : MsgLen m) (hn : 0 ≤ m.nonce ∧ m.nonce < 18446744073709551616) (hlog : m.log.length < 100000) (h : msgOk m) (hf : ¬ (bodyB m).length ≤ 16777216) : Ct Tryz.prog 16 [msgV m s] [] (msgQ m s) (EncO 2 []) := by
 refine Ct.intro Tryz.func16 rfl rfl rfl (fun c hc => ?_)
 refine GC.sr_ ?_;refine GL.step rfl (t_box rfl rfl rfl) (GL.ex fun b_t1 => ?_);refine GL.rz 2 ?_;refine GC.seq' ?_;refine GC.sr_ ?_;refine GL.ln_ 0 28 ?_;refine GL.cl Tryz.call12 [] (up 0 8) rfl rfl rfl (by exact wchko_ok m s hm h) ?_
 rintro _ _ _ ⟨rfl, rfl, rfl⟩
 refine GL.rz 1 ?_;refine GC.rg 2 ?_;refine GC.cond_false rfl ?_
 refine GC.skip (?_ : GC _ _ _ _)
 refine GC.sr_ ?_;refine GL.ln_ 0 28 ?_;refine GL.cl Tryz.call45 [] (up 0 8) rfl rfl rfl (by exact wbodyo_long m s hm h hn hlog hf) ?_
 rintro _ _ _ ⟨⟨A14, n14, cp14, rfl⟩, rfl, rfl⟩
 refine GL.rz 5 ?_;refine GC.seq' ?_;refine GC.rg 2 ?_;refine GC.cond_true rfl ?_;refine GC.rg 2 ?_;refine GC.nilrow 5 1 ?_;refine GC.ret (Fin.b2 2 3 [0] [] ?_)
 exact ⟨none, 0, by simp, by simp, rfl, rfl, rfl⟩
theorem wenco_ct (m : Msg) (s : Lie) (hm : MsgLen m) (hn : 0 ≤ m.nonce ∧ m.nonce < 18446744073709551616) (hlog : m.log.length < 100000) : Ct Tryz.prog 16 [msgV m s] [] (msgQ m s) (EncO (encFo m).1 (encFo m).2) := by
  by_cases h : msgOk m
  · by_cases hf : (bodyB m).length ≤ 16777216
    · rw [show encFo m = (0, frameB (bodyB m)) by rw [encFo, if_pos h, if_pos hf]]; exact wenco_ok m s hm hn hlog h hf
    · rw [show encFo m = (2, []) by rw [encFo, if_pos h, if_neg hf]]; exact wenco_long m s hm hn hlog h hf
  · rw [show encFo m = (160, []) by rw [encFo, if_neg h]]; exact wenco_bad m s hm h
theorem rd_fr0 {F B : List UInt8} (hF : F = frameB B) (hB : B.length ≤ 16777216) : rdN F = B.length ∧ rdE F = 0 ∧ (gt F 2).toNat = 4 ∧ valN (seg F 4 12) = 0 ∧ seg F 16 (B.length + 16) = B := by
  have hl : F.length = B.length + 20 := by rw [hF, frameB_len]
  have hn : rdN F = B.length := rdN_frame hF hB (fun i _ _ => rfl) (by omega)
  have hh : (headB B).length = B.length + 16 := headB_len B
  have h0 : gt F 0 = 80 ∧ gt F 1 = 76 ∧ gt F 2 = 4 ∧ gt F 3 = 0 := by rw [hF]; exact ⟨rfl, rfl, rfl, rfl⟩
  have e1 : seg F 0 (B.length + 16) = headB B := by
    rw [hF, frameB, sealB, seg, List.drop_zero, List.take_append_of_le_length (by omega), ← hh, List.take_length]
  have e2 : seg F 0 (B.length + 20) = F := by rw [← hl]; exact seg_all F
  refine ⟨hn, ?_, by rw [h0.2.2.1]; rfl, ?_, ?_⟩
  · rw [rdE, if_neg (by omega), if_neg (by rw [hn, h0.1, h0.2.1, h0.2.2.2]; exact fun h => h ⟨rfl, rfl, rfl, hB⟩), if_neg (by omega), if_neg (by rw [hn, e1, e2, hF]; exact fun h => h rfl)]
  · rw [hF]; rfl
  · have : seg F 16 (B.length + 16) = (headB B).drop 16 := by rw [← e1]; simp [seg]
    rw [this]; rfl
theorem rd_fr {F B : List UInt8} (hF : F = frameB B) (hB : B.length ≤ 16777216) {k s : Int} {bd : List UInt8} {n : Int} (h : rdR F k s bd n) : k = 4 ∧ s = 0 ∧ B = bd ∧ n = ((B.length + 20 : Nat) : Int) := by
  obtain ⟨g1, g2, g3, g4, g5⟩ := rd_fr0 hF hB
  obtain ⟨h1, h2, h3, h4, _⟩ := h g2
  rw [g3] at h1
  rw [g4] at h2
  rw [g1, g5] at h3
  rw [g1] at h4
  exact ⟨h1, h2, h3.symm, h4⟩
theorem recW_ct (p4 p5 : Nat) : CtR Tryz.prog 49 [.pointer (some ⟨p4, 0, none⟩), .pointer (some ⟨p5, 0, none⟩)] [.cells p4 (msgL zms ⟨none, 0, none, 0, none, 0, none, 0, none, 0, none, 0, none, 0, none, 0⟩) 42, .cells p5 [.int .i64 0] 45] [] wFt
    (fun u G Q => u = .tuple #[] ∧ G = [.cells p4 (msgL zms ⟨none, 0, none, 0, none, 0, none, 0, none, 0, none, 0, none, 0, none, 0⟩) 42, .cells p5 [.int .i64 160] 45] ∧ Q = []) := by
  refine CtR.intro Tryz.func49 rfl rfl rfl rfl rfl (fun c hc => ?_)
  refine GC.seq' ?_
  refine GC.seq' ?_
  refine GC.region ?_
  refine GL.pure rfl (p_move rfl) ?_
  refine GL.pure rfl (p_ifNil rfl Tryz.underlying20) ?_
  refine GL.nil (?_ : GC _ _ _ _)
  refine GC.cond_false rfl ?_
  refine GC.skip (?_ : GC _ _ _ _)
  refine GC.seq' ?_
  refine GC.seq' ?_
  refine GC.region ?_
  refine GL.pure rfl (p_move rfl) ?_
  refine GL.pure rfl (p_assert rfl Tryz.underlying90 (fun m h => by cases h)) ?_
  refine GL.pure rfl (p_move rfl) ?_
  refine GL.pure rfl (p_extract rfl rfl) ?_
  refine GL.pure rfl (p_extract rfl rfl) ?_
  refine GL.step rfl (t_alloc rfl ze_90) (GL.ex fun b_t3 => ?_)
  refine GL.step rfl (t_storeN (i := 0) rfl rfl rfl sz_90 rfl rfl rfl) ?_
  refine GL.pure rfl (p_assign rfl) ?_
  refine GL.nil (?_ : GC _ _ _ _)
  refine GC.seq' ?_
  refine GC.region ?_
  refine GL.pure rfl (p_move rfl) ?_
  refine GL.pure rfl (p_not rfl) ?_
  refine GL.nil (?_ : GC _ _ _ _)
  refine GC.cond_false rfl ?_
  refine GC.skip (?_ : GC _ _ _ _)
  refine GC.region ?_
  refine GL.pure rfl (p_build ze_42 of_42 rfl rfl) ?_
  refine GL.step rfl (t_storeN (i := 1) rfl rfl rfl sz_42 rfl rfl rfl) ?_
  refine GL.step rfl (t_store (i := 2) rfl rfl rfl rfl sz_45 rfl rfl rfl) ?_
  refine GL.nil ?_
  refine fun a w h => Fin.back0 rfl (is := [1, 1]) (js := []) rfl rfl ?_ h
  clear h
  exact ⟨rfl, rfl, rfl⟩
def wdecF (B : List UInt8) : Option Msg := (wmsgF B).bind fun r => if r.2 = [] ∧ msgOk r.1 ∧ bodyB r.1 = B then some r.1 else none
abbrev DecM (x : Option Msg) (u : Value) (G : List Own) (Q : List Pers) : Prop := ∃ (m : Msg) (s : Lie) (k : Int), ((k = 0 → x = some m) ∧ (k ≠ 0 → x = none ∧ m = zms ∧ k = 160)) ∧ u = .tuple #[msgV m s, .int .i64 k] ∧ G = [] ∧ Q = msgQ m s
theorem zq76_ {X : Prop} (h : X := by (exact ⟨zms, ⟨none, 0, none, 0, none, 0, none, 0, none, 0, none, 0, none, 0, none, 0⟩, 160, ⟨fun h => absurd h (by decide), fun _ => ⟨by rw [wdecF, hs43, Option.bind_some]; exact if_neg (fun hh => by have h0 := congrArg List.length hh.1; simp only [List.length_nil] at h0; first | omega | exact absurd (msgE_yes hh.2.1) (by assumption)), rfl, rfl⟩⟩, rfl, rfl, rfl⟩)) : X := h
theorem zq77_ {X : Prop} (h : X := by (exact ⟨zms, ⟨none, 0, none, 0, none, 0, none, 0, none, 0, none, 0, none, 0, none, 0⟩, 160, ⟨fun h => absurd h (by decide), fun _ => ⟨by rw [wdecF, hs43, Option.bind_some]; exact if_neg (fun hh => by first | exact absurd hh.2.2 (by assumption) | exact hlen (by rw [hh.2.2]; exact hB)), rfl, rfl⟩⟩, rfl, rfl, rfl⟩)) : X := h
theorem wdec_ct (A : Option Addr) (B F : List UInt8) (cp : Nat) (hF : F = frameB B) (hB : B.length ≤ 16777216) (hlog : ∀ m M, wmsgF B = some (m, M) → m.log.length < 100000) (hcp : F.length ≤ cp) (hcp' : cp ≤ 9223372036854775807) : Ct Tryz.prog 18 [.slice A F.length cp] [] [Pers.row Kd.u8 A F] (DecM (wdecF B)) := by
 have hfl : F.length = B.length + 20 := by rw [hF, frameB_len]
 refine Ct.introD Tryz.func18 rfl rfl rfl (fun c hc hcD => ?_)
 refine GC.sr_ ?_;refine GL.step rfl (t_alloc rfl ze_42) (GL.ex fun b_t2 => ?_);refine GL.step rfl (t_alloc rfl ze_45) (GL.ex fun b_t3 => ?_);refine GL.nl_ ?_;refine GC.sr_ ?_;refine GL.know (q := Pers.row Kd.u8 none []) (fun _ _ _ => .inl rfl) ?_
 refine GL.know (q := Pers.row kI none []) (fun _ _ _ => .inl rfl) ?_;refine GL.know (q := Pers.row kPage none []) (fun _ _ _ => .inl rfl) ?_;refine GL.know (q := Pers.row kRow none []) (fun _ _ _ => .inl rfl) ?_;refine GL.know (q := Pers.row kEntry none []) (fun _ _ _ => .inl rfl) ?_
 refine GL.rn 1 ?_;refine GL.cl Tryz.call48 [] [5] rfl rfl rfl (by exact fread_ct _ F _ (by omega) hcp hcp') ?_
 rintro _ _ _ ⟨k13, s13, A13, bd13, cp13, n13, l13, c13, hr13, rfl, rfl, rfl⟩
 obtain ⟨rfl, rfl, rfl, rfl⟩ := rd_fr hF hB hr13
 rw [(rd_fr0 hF hB).2.1]
 refine GL.rn 4 ?_;refine GL.step rfl (t_alloc rfl ze_55) (GL.ex fun b_t4 => ?_);refine GL.sn_ 0 ?_;refine GL.rz 2 ?_;refine GC.seq' ?_;refine GC.rg 2 ?_;refine GC.cond_false rfl ?_
 refine GC.skip (?_ : GC _ _ _ _)
 refine GC.seq' ?_;refine GC.rr 5 ?_;refine GL.sp 25 ?_ ?_
 ·intro h1; try simp only [tst_] at h1
  exfalso; exact h1 (by omega)
 intro h1; try simp only [tst_] at h1
 refine GL.rn 1 ?_;refine GL.dg_ 0 ?_;refine GL.rn 3 ?_;refine GL.sp 30 ?_ ?_
 ·intro h2; try simp only [tst_] at h2
  exfalso; exact h2 trivial
 intro h2; try simp only [tst_] at h2
 refine GL.rn 1 ?_;refine GL.dg_ 0 ?_;refine GL.rz 2 ?_;refine GC.co ?_ ?_
 ·intro h3; try simp only [tst_] at h3
  exfalso; exact h3 trivial
 intro h3; try simp only [tst_] at h3
 refine GC.skip (?_ : GC _ _ _ _)
 refine GC.sr_ ?_;refine GL.pure rfl (p_makeFunc rfl rfl) ?_;refine GL.defer (f := 49) (us := [_, _]) hcD rfl ?_;refine GL.nr 1 ?_;refine GL.ld_ 0 ?_;refine GL.pure rfl (p_build ze_94 of_94 rfl rfl) ?_;refine GL.pure rfl (p_build ze_96 of_96 rfl rfl) ?_
 refine GL.step rfl (t_box rfl rfl rfl) (GL.ex fun b_t41 => ?_);refine GL.rz 1 ?_;refine GC.rr 1 ?_;refine GL.callP rfl Tryz.call50 rfl (is := [0]) (js := [0]) rfl rfl (by exact wmsg_ct _ _ _ B _ l13 c13 (by omega)) (fun v a w he h => by obtain ⟨rfl, hno⟩ := he; exact FinD.catch Tryz.call49 (recW_ct _ _) (isC := [2, 1]) (jsC := []) rfl rfl (fun u G2 Q2 a w hR h => by obtain ⟨rfl, rfl, rfl⟩ := hR; exact Fin.back (rs := [.cell 2 42, .cell 3 45]) (vs := [_, _]) (is := []) (js := [4, 4, 4, 3, 2, 1, 3, 0]) rfl ⟨⟨0, _, _, _, _, rfl, rfl, .inr ⟨[_, _, _, _, _, _, _, _, _, _, _, _, _, _, _, _, _, _, _, _, _, _, _, _, _, _, _, _], rfl, ag_42, sz_42, ⟨rfl, rfl, rfl, rfl, rfl, rfl, rfl, rfl, rfl, rfl, rfl, rfl, rfl, rfl, rfl, rfl, rfl, rfl, rfl, rfl, rfl, rfl, rfl, rfl, rfl, rfl, rfl, rfl, trivial⟩⟩⟩, ⟨1, _, _, _, _, rfl, rfl, .inl ⟨ag_45, rfl⟩⟩, trivial⟩ rfl rfl (by exact ⟨zms, ⟨none, 0, none, 0, none, 0, none, 0, none, 0, none, 0, none, 0, none, 0⟩, 160, ⟨fun h => absurd h (by decide), fun _ => ⟨by rw [wdecF, hno]; rfl, rfl, rfl⟩⟩, rfl, rfl, rfl⟩) (((((h.know (q := Pers.row Kd.u8 none []) (fun _ _ _ => .inl rfl)).know (q := Pers.row kI none []) (fun _ _ _ => .inl rfl)).know (q := Pers.row kPage none []) (fun _ _ _ => .inl rfl)).know (q := Pers.row kRow none []) (fun _ _ _ => .inl rfl)).know (q := Pers.row kEntry none []) (fun _ _ _ => .inl rfl))) h) (GL.ret ?_)
 rintro _ _ _ ⟨m43, s43, L43, A43, c43, hs43, l43, k43, rfl, rfl, rfl⟩
 have hM := wmsgF_all hs43
 refine GL.step rfl (t_alloc rfl ze_42) (GL.ex fun b_t8 => ?_);refine GL.sn_ 0 ?_;refine GL.nl_ ?_;refine GC.seq' ?_;refine GC.rr 4 ?_;refine GL.ld_ 1 ?_;refine GL.rn 3 ?_;refine GL.sp 51 ?_ ?_
 ·intro h4; try simp only [tst_] at h4
  refine GL.rz 4 ?_;refine GC.cond_true rfl ?_;refine GC.sr_ ?_;refine GL.pure rfl (p_build ze_42 of_42 rfl rfl) ?_;refine GL.sn_ 4 ?_;refine GL.so_ 3 ?_;refine GL.nl_ ?_;refine GC.ret ?_
  refine fun a w h => FinD.back1 Tryz.call49 (decode_idle _ _) (rs := [.cell 2 42, .cell 3 45]) (vs := [_, _]) (is := []) (js := [14, 14, 14, 13, 12, 11, 13, 10]) rfl ⟨⟨4, _, _, _, _, rfl, rfl, .inr ⟨[_, _, _, _, _, _, _, _, _, _, _, _, _, _, _, _, _, _, _, _, _, _, _, _, _, _, _, _], rfl, ag_42, sz_42, ⟨rfl, rfl, rfl, rfl, rfl, rfl, rfl, rfl, rfl, rfl, rfl, rfl, rfl, rfl, rfl, rfl, rfl, rfl, rfl, rfl, rfl, rfl, rfl, rfl, rfl, rfl, rfl, rfl, trivial⟩⟩⟩, ⟨3, _, _, _, _, rfl, rfl, .inl ⟨ag_45, rfl⟩⟩, trivial⟩ rfl rfl ?_ h
  clear h
  exact zq76_
 intro h4; try simp only [tst_] at h4
 refine GL.lg_ 0 28 ?_;refine GL.stepG rfl (s := 51) rfl rfl (t_call rfl Tryz.call12 rfl (is := []) (js := (up 0 8)) rfl rfl (by exact wchk_ct m43 s43 hM.len)) (GL.ret ?_)
 rintro _ _ _ ⟨rfl, rfl, rfl⟩
 refine GL.rz 2 ?_;refine GC.co ?_ ?_
 ·intro h5; try simp only [tst_] at h5
  refine GC.sr_ ?_;refine GL.pure rfl (p_build ze_42 of_42 rfl rfl) ?_;refine GL.sn_ 4 ?_;refine GL.so_ 3 ?_;refine GL.nl_ ?_;refine GC.ret ?_
  refine fun a w h => FinD.back1 Tryz.call49 (decode_idle _ _) (rs := [.cell 2 42, .cell 3 45]) (vs := [_, _]) (is := []) (js := [14, 14, 14, 13, 12, 11, 13, 10]) rfl ⟨⟨4, _, _, _, _, rfl, rfl, .inr ⟨[_, _, _, _, _, _, _, _, _, _, _, _, _, _, _, _, _, _, _, _, _, _, _, _, _, _, _, _], rfl, ag_42, sz_42, ⟨rfl, rfl, rfl, rfl, rfl, rfl, rfl, rfl, rfl, rfl, rfl, rfl, rfl, rfl, rfl, rfl, rfl, rfl, rfl, rfl, rfl, rfl, rfl, rfl, rfl, rfl, rfl, rfl, trivial⟩⟩⟩, ⟨3, _, _, _, _, rfl, rfl, .inl ⟨ag_45, rfl⟩⟩, trivial⟩ rfl rfl ?_ h
  clear h
  exact zq76_
 intro h5; try simp only [tst_] at h5
 refine GC.skip (?_ : GC _ _ _ _)
 iterate 2 refine GC.seq' ?_
 have hok : msgOk m43 := by rw [← msgE_iff]; assumption
 by_cases hlen : (bodyB m43).length ≤ 16777216
 ·skip
  refine GC.region ?_;refine GL.ln_ 0 28 ?_;refine GL.cl Tryz.call45 [] (up 0 8) rfl rfl rfl (by exact wbodyo_ok m43 s43 hM.len hok hM.nonce (hlog _ _ hs43) hlen) ?_
  rintro _ _ _ ⟨A59, cp59, l59, k59, rfl, rfl, rfl⟩
  refine GL.rn 5 ?_
  refine GL.nil (?_ : GC _ _ _ _)
  refine GC.rr 5 ?_;refine GL.dg_ 3 ?_;refine GL.freezeB (i := 0) rfl ?_;refine GL.stepG rfl (s := 64) rfl rfl (t_call rfl Tryz.call35 rfl (is := []) (js := [0, 10]) rfl rfl (by exact equal_ct _ (bodyB m43) _ _ B _)) (GL.ret ?_)
  rintro _ _ _ ⟨rfl, rfl, rfl⟩
  refine GL.rz 2 ?_;refine GC.co ?_ ?_
  ·intro h6; try simp only [tst_] at h6
   refine GC.sr_ ?_;refine GL.pure rfl (p_build ze_42 of_42 rfl rfl) ?_;refine GL.sn_ 4 ?_;refine GL.so_ 3 ?_;refine GL.nl_ ?_;refine GC.ret ?_
   refine fun a w h => FinD.back1 Tryz.call49 (decode_idle _ _) (rs := [.cell 2 42, .cell 3 45]) (vs := [_, _]) (is := []) (js := [15, 15, 15, 14, 13, 12, 14, 11]) rfl ⟨⟨4, _, _, _, _, rfl, rfl, .inr ⟨[_, _, _, _, _, _, _, _, _, _, _, _, _, _, _, _, _, _, _, _, _, _, _, _, _, _, _, _], rfl, ag_42, sz_42, ⟨rfl, rfl, rfl, rfl, rfl, rfl, rfl, rfl, rfl, rfl, rfl, rfl, rfl, rfl, rfl, rfl, rfl, rfl, rfl, rfl, rfl, rfl, rfl, rfl, rfl, rfl, rfl, rfl, trivial⟩⟩⟩, ⟨3, _, _, _, _, rfl, rfl, .inl ⟨ag_45, rfl⟩⟩, trivial⟩ rfl rfl ?_ h
   clear h
   exact zq77_
  intro h6; try simp only [tst_] at h6
  refine GC.skip (?_ : GC _ _ _ _)
  refine GC.sr_ ?_;refine GL.ln_ 0 28 ?_;refine GL.sn_ 4 ?_;refine GL.so_ 3 ?_;refine GL.nl_ ?_;refine GC.ret ?_
  refine fun a w h => FinD.back1 Tryz.call49 (decode_idle _ _) (rs := [.cell 2 42, .cell 3 45]) (vs := [_, _]) (is := []) (js := (up 1 8)) rfl ⟨⟨4, _, _, _, _, rfl, rfl, .inr ⟨[_, _, _, _, _, _, _, _, _, _, _, _, _, _, _, _, _, _, _, _, _, _, _, _, _, _, _, _], rfl, ag_42, sz_42, ⟨rfl, rfl, rfl, rfl, rfl, rfl, rfl, rfl, rfl, rfl, rfl, rfl, rfl, rfl, rfl, rfl, rfl, rfl, rfl, rfl, rfl, rfl, rfl, rfl, rfl, rfl, rfl, rfl, trivial⟩⟩⟩, ⟨3, _, _, _, _, rfl, rfl, .inl ⟨ag_45, rfl⟩⟩, trivial⟩ rfl rfl ?_ h
  clear h
  exact ⟨m43, s43, 0, ⟨fun _ => by rw [wdecF, hs43, Option.bind_some]; exact if_pos ⟨List.eq_nil_of_length_eq_zero (by show L43.length = 0; omega), hok, by assumption⟩, fun h => absurd rfl h⟩, rfl, rfl, rfl⟩
 skip
 refine GC.region ?_;refine GL.ln_ 0 28 ?_;refine GL.cl Tryz.call45 [] (up 0 8) rfl rfl rfl (by exact wbodyo_long m43 s43 hM.len hok hM.nonce (hlog _ _ hs43) hlen) ?_
 rintro _ _ _ ⟨⟨A59, n59, cp59, rfl⟩, rfl, rfl⟩
 refine GL.rn 5 ?_
 refine GL.nil (?_ : GC _ _ _ _)
 refine GC.rr 6 ?_
 skip
 refine GL.rz 3 ?_;refine GC.cond_true rfl ?_;refine GC.sr_ ?_;refine GL.pure rfl (p_build ze_42 of_42 rfl rfl) ?_;refine GL.sn_ 4 ?_;refine GL.so_ 3 ?_;refine GL.nl_ ?_;refine GC.ret ?_
 refine fun a w h => FinD.back1 Tryz.call49 (decode_idle _ _) (rs := [.cell 2 42, .cell 3 45]) (vs := [_, _]) (is := []) (js := [14, 14, 14, 13, 12, 11, 13, 10]) rfl ⟨⟨4, _, _, _, _, rfl, rfl, .inr ⟨[_, _, _, _, _, _, _, _, _, _, _, _, _, _, _, _, _, _, _, _, _, _, _, _, _, _, _, _], rfl, ag_42, sz_42, ⟨rfl, rfl, rfl, rfl, rfl, rfl, rfl, rfl, rfl, rfl, rfl, rfl, rfl, rfl, rfl, rfl, rfl, rfl, rfl, rfl, rfl, rfl, rfl, rfl, rfl, rfl, rfl, rfl, trivial⟩⟩⟩, ⟨3, _, _, _, _, rfl, rfl, .inl ⟨ag_45, rfl⟩⟩, trivial⟩ rfl rfl ?_ h
 clear h
 exact zq77_
theorem wnum_app {n v : Nat} {L : List UInt8} (h : v < 256 ^ n) : wnumF n (leN n v ++ L) = some ((v : Int), L) := by
  have hl := leN_length n v
  have e1 : seg (leN n v ++ L) 0 n = leN n v := by rw [seg, List.drop_zero, List.take_append_of_le_length (by omega)]; exact List.take_of_length_le (by omega)
  have e2 : (leN n v ++ L).drop n = L := List.drop_left' hl
  rw [wnumF, if_pos (by rw [List.length_append]; omega), e1, e2, valN_leN _ _ h]
theorem wsm_app {v : Int} {L : List UInt8} (h : in62 v) : wsmF (leN 8 (u64 v) ++ L) = some (v, L) := by
  obtain ⟨h0, h1⟩ := h
  have e : u64 v = v.toNat := by unfold u64; omega
  have h8 : v.toNat < 256 ^ 8 := by rw [p256_8]; omega
  rw [wsmF, e, wnum_app h8, Option.bind_some]
  have : ((v.toNat : Nat) : Int) = v := by omega
  dsimp only
  rw [this, if_pos h1]
theorem wrap_u64 {v : Int} (h : -9223372036854775808 ≤ v) (h' : v ≤ 9223372036854775807) : IntKind.i64.wrap ((u64 v : Nat) : Int) = v := by
  unfold u64
  simp [IntKind.wrap, IntKind.bits, IntKind.signed]
  omega
theorem bit1 (m : Msg) : bitN (partsN m) 1 = 0 ↔ m.op = zop := by rw [bitN, partsN, and_b1, bi1]; simp
theorem bit2 (m : Msg) : bitN (partsN m) 2 = 0 ↔ m.res = rz := by rw [bitN, partsN, and_b2, bi2]; simp
theorem bit4 (m : Msg) : bitN (partsN m) 4 = 0 ↔ m.grp = zgr := by rw [bitN, partsN, and_b4, bi4]; simp
theorem bit8 (m : Msg) : bitN (partsN m) 8 = 0 ↔ m.stt = zst := by rw [bitN, partsN, and_b8, bi8]; simp
theorem wpO_app {m : Msg} {L : List UInt8} (hr : MsgR m) : wpO (partsN m) (pO m ++ L) = some (m.op, L) := by
  unfold wpO pO
  by_cases h : m.op = zop
  · rw [if_pos ((bit1 m).2 h), if_pos h, h]; rfl
  · rw [if_neg (fun g => h ((bit1 m).1 g)), if_neg h]
    obtain ⟨u, e, g⟩ := decOp_at (b := opB m.op ++ L) rfl (hr.op h)
    rw [e, Option.map_some, g.2]
theorem wpR_app {m : Msg} {L : List UInt8} (hr : MsgR m) : wpR (partsN m) (pR m ++ L) = some (m.res, L) := by
  unfold wpR pR
  by_cases h : m.res = rz
  · rw [if_pos ((bit2 m).2 h), if_pos h, h]; rfl
  · rw [if_neg (fun g => h ((bit2 m).1 g)), if_neg h]
    obtain ⟨u, e, g⟩ := decRes_at (b := resB m.res ++ L) rfl (hr.res h)
    rw [e, Option.map_some, g.2]
theorem wgrp_app {g : Grp} {L : List UInt8} (hg : groupOk g.epoch g.members = true) : wgrpF (grpB g ++ L) = some (g, L) := by
  obtain ⟨r1, r2, r3, r4, r5⟩ := grp_rng hg
  have e8 : u64 g.epoch = g.epoch.toNat := by unfold u64; omega
  rw [grpB, flZ_single, flZ_single, ← e8, List.append_assoc, List.append_assoc, wgrpF, wsm_app ⟨r4, r5⟩, Option.bind_some, wnum_app (by rw [p256_1]; omega), Option.bind_some]
  obtain ⟨u, e1, e2⟩ := manyF_enc (f := wnumF 1) (enc := fun x : Int => leN 1 x.toNat) (fun t M => t = M) L (xs := g.members) (t := flZ 1 g.members ++ L) (fun x hx t M h => by
    have := r1 x hx
    refine ⟨M, ?_, rfl⟩
    rw [h, wnum_app (by rw [p256_1]; omega)]
    have : ((x.toNat : Nat) : Int) = x := by omega
    rw [this]) rfl
  subst e2
  rw [show ((((g.members.length : Int)).toNat : Nat) : Int).toNat = g.members.length by omega, e1]
  rfl
theorem wpG_app {m : Msg} {L : List UInt8} (hr : MsgR m) : wpG (partsN m) (pG m ++ L) = some (m.grp, L) := by
  unfold wpG pG
  by_cases h : m.grp = zgr
  · rw [if_pos ((bit4 m).2 h), if_pos h, h]; rfl
  · rw [if_neg (fun g => h ((bit4 m).1 g)), if_neg h, wgrp_app (hr.grp h)]
theorem wpS_app {m : Msg} {L : List UInt8} (hr : MsgR m) (hl : (pS m ++ L).length ≤ 33554432) : wpS (partsN m) (pS m ++ L) = some (m.stt, L) := by
  unfold wpS
  by_cases h : m.stt = zst
  · rw [if_pos ((bit8 m).2 h), pS, if_pos h, h]; rfl
  · rw [if_neg (fun g => h ((bit8 m).1 g))]
    rw [pS, if_neg h] at hl ⊢
    obtain ⟨u, e, g⟩ := mstF_at (At.zero (sttB m.stt ++ L)) (hr.stt h) hl
    rw [e, Option.map_some, g.2]
theorem went_app {e : Entry} {L : List UInt8} (he : entOk e) : went (entB e ++ L) = some (e, L) := by
  obtain ⟨u, h, g⟩ := mentF_at (At.zero (entB e ++ L)) he
  rw [went, h, Option.map_some, g.2]
theorem wmsg_back {m : Msg} (hok : msgOk m) (hn : 0 ≤ m.nonce ∧ m.nonce < 18446744073709551616) (hlog : m.log.length < 100000) (hB : (bodyB m).length ≤ 16777216) : wmsgF (bodyB m) = some (m, []) := by
  have hr := msg_rng hok
  have hpn := partsN_rng m
  obtain ⟨⟨n1, n2, n3, n4, n5, n6, n7⟩, k1, k2, w1, w2, _, _⟩ := hok
  have p8 : (256 : Nat) ^ 8 = 18446744073709551616 := p256_8
  have p4 : (256 : Nat) ^ 4 = 4294967296 := p256_4
  have p1 : (256 : Nat) ^ 1 = 256 := p256_1
  have hl : (pS m ++ (leN 4 m.log.length ++ m.log.flatMap entB)).length ≤ 33554432 := by
    simp only [bodyB, preB, List.length_append] at hB
    simp only [List.length_append]; omega
  have hs : -4611686018427387904 ≤ m.src ∧ m.src < 64 := w1
  have hd : -4611686018427387904 ≤ m.dst ∧ m.dst < 64 := w2
  obtain ⟨u, e1, e2⟩ := manyF_enc (f := went) (enc := entB) (fun t M => t = M) [] (xs := m.log) (t := m.log.flatMap entB ++ []) (fun x hx t M h => ⟨M, by rw [h, went_app (hr.log x hx)], rfl⟩) rfl
  subst e2
  rw [List.append_nil] at e1
  rw [bodyB, preB, hdB, byI_le (by omega) (by omega), byI_le hpn.1 hpn.2]
  simp only [flI, List.flatMap_cons, List.flatMap_nil, List.append_assoc, List.append_nil, List.nil_append]
  rw [wmsgF, wnum_app (by omega), Option.bind_some, wnum_app (by rw [p8]; exact u64_lt _), Option.bind_some, wnum_app (by rw [p8]; exact u64_lt _), Option.bind_some, wsm_app n1, Option.bind_some, wsm_app n2, Option.bind_some, wsm_app n3, Option.bind_some, wsm_app n4, Option.bind_some, wsm_app n5, Option.bind_some, wnum_app (by rw [p8]; exact u64_lt _), Option.bind_some, wsm_app n6, Option.bind_some, wsm_app n7, Option.bind_some]
  rw [wprtF, wnum_app (by omega), Option.bind_some]
  dsimp only
  rw [show ((m.kind.toNat : Nat) : Int) = m.kind by omega, show (((partsN m).toNat : Nat) : Int) = partsN m by omega, wpO_app hr, Option.bind_some, wpR_app hr, Option.bind_some, wpG_app hr, Option.bind_some, wpS_app hr hl, Option.map_some, Option.bind_some]
  dsimp only
  rw [wnum_app (by omega), Option.bind_some]
  dsimp only
  rw [show ((m.log.length : Nat) : Int).toNat = m.log.length from rfl, e1, Option.map_some, wrap_u64 (by omega) (by omega), wrap_u64 (by omega) (by omega), ← u64_eq hn.1 hn.2]
theorem wdec_back {m : Msg} (hok : msgOk m) (hn : 0 ≤ m.nonce ∧ m.nonce < 18446744073709551616) (hlog : m.log.length < 100000) (hB : (bodyB m).length ≤ 16777216) : wdecF (bodyB m) = some m := by
  rw [wdecF, wmsg_back hok hn hlog hB, Option.bind_some]
  exact if_pos ⟨rfl, hok, rfl⟩
theorem awM_ok : msgOk awM := by rw [← msgE_iff]; decide +kernel
theorem awM_body : bodyB awM = awB := by decide +kernel
theorem awM_enc : Ct Tryz.prog 16 [awV] [] [] (EncO 0 awF) := by
  have h := wenco_ct awM lie0 awM_len ⟨by decide, by decide⟩ (by decide)
  rw [show encFo awM = (0, awF) from by rw [encFo, if_pos awM_ok, awM_body, if_pos (by rw [awB_len]; omega)]; rfl] at h
  exact Ct.qperm h (fun q hq => .inr (nilq hq))
theorem awM_dec : wdecF awB = some awM := by
  rw [← awM_body]; exact wdec_back awM_ok ⟨by decide, by decide⟩ (by decide) (by rw [awM_body, awB_len]; omega)
theorem awM_log (m : Msg) (M : List UInt8) (h : wmsgF awB = some (m, M)) : m.log.length < 100000 := by
  have := (wmsgF_all h).log; rw [awB_len] at this; omega
theorem awM_two {m : Msg} {k : Int} (h : (k = 0 → wdecF awB = some m) ∧ (k ≠ 0 → wdecF awB = none ∧ m = zms ∧ k = 160)) : k = 0 ∧ m = awM := by
  by_cases hk : k = 0
  · have := h.1 hk
    rw [awM_dec] at this
    exact ⟨hk, (Option.some.inj this).symm⟩
  · have := (h.2 hk).1
    rw [awM_dec] at this; cases this
theorem awM_same (s : Lie) : Ct Tryz.prog 14 [awV, msgV awM s] [] (msgQ awM s) (fun u G Q => u = .bool true ∧ G = [] ∧ Q = []) :=
  Ct.qperm (Ct.mono (wsame_ct awM awM lie0 s awM_len) fun u G Q h => ⟨h.1.trans (by simp), h.2⟩) fun q hq => by
    rcases List.mem_append.1 hq with hq | hq
    · exact .inr (nilq hq)
    · exact .inl hq
theorem awk_ct : Ct Tryz.prog 11 [] [] [] (fun u G Q => u = .bool true ∧ G = [] ∧ Q = []) := by
 refine Ct.intro Tryz.func11 rfl rfl rfl (fun c hc => ?_)
 refine GC.rg 1 ?_;refine GC.sr_ ?_;refine GL.pure rfl (p_build ze_42 of_42 rfl rfl) ?_;refine GL.step rfl (t_alloc rfl ze_42) (GL.ex fun b_t1 => ?_);refine GL.sn_ 0 ?_;refine GL.nl_ ?_;refine GC.sr_ ?_;refine GL.ln_ 0 28 ?_
 refine GL.cl Tryz.call16 [] [] rfl rfl rfl (by exact awM_enc) ?_
 rintro _ _ _ ⟨A9, cp9, l9, k9, rfl, rfl, rfl⟩
 refine GL.rz 5 ?_;refine GC.rr 1 ?_;refine GL.freezeB (i := 0) rfl ?_;refine GL.cl Tryz.call18 [] [0] rfl rfl rfl (by exact wdec_ct _ awB awF _ rfl (by rw [awB_len]; omega) awM_log l9 k9) ?_
 rintro _ _ _ ⟨m14, s14, k14, hd14, rfl, rfl, rfl⟩
 obtain ⟨rfl, rfl⟩ := awM_two hd14
 refine GL.rn 3 ?_;refine GL.step rfl (t_alloc rfl ze_42) (GL.ex fun b_t4 => ?_);refine GL.sn_ 0 ?_;refine GL.rz 1 ?_;refine GC.rr 12 ?_;refine GL.sp 28 ?_ ?_
 ·intro h1; try simp only [tst_] at h1
  first
  | (exfalso; first | exact h1 rfl | exact h1 trivial | exact h1 (by rw [awF_len]; rfl) | exact absurd h1 (by decide))
  |(skip
    refine GL.lg_ 1 28 ?_;refine GL.lg_ 0 28 ?_;refine GL.stepG rfl (s := 28) rfl rfl (t_call rfl Tryz.call14 rfl (is := []) (js := (up 0 8)) rfl rfl (by exact awM_same s14)) (GL.ret ?_)
    rintro _ _ _ ⟨rfl, rfl, rfl⟩
    refine GL.rn 3 ?_;refine GL.dg_ 0 ?_;refine GL.rz 3 ?_;refine GC.ret (Fin.b1 0 [] [] ?_)
    exact ⟨by first | rfl | decide, rfl, rfl⟩)
 intro h1; try simp only [tst_] at h1
 first
 | (exfalso; first | exact h1 rfl | exact h1 trivial | exact h1 (by rw [awF_len]; rfl) | exact absurd h1 (by decide))
 |(skip
   refine GL.rz 10 ?_;refine GC.ret (Fin.b1 0 [] [] ?_)
   exact ⟨by first | rfl | decide, rfl, rfl⟩)
theorem quo256 {v : Nat} (h : v < 18446744073709551616) : IntKind.u64.wrap ((v : Int).tdiv 256) = ((v / 256 : Nat) : Int) := by
  have e : (v : Int).tdiv 256 = ((v / 256 : Nat) : Int) := by
    rw [Int.tdiv_eq_ediv_of_nonneg (by omega)]; rfl
  rw [e]; exact wrap64 (by omega)
theorem rem256 (v : Nat) : (v : Int).tmod 256 = ((v % 256 : Nat) : Int) := by
  rw [Int.tmod_eq_emod_of_nonneg (by omega)]; rfl
theorem wrapB2 (m : Nat) : IntKind.u8.wrap ((m % 256 : Nat) : Int) = ((UInt8.ofNat (m % 256)).toNat : Int) := by
  have := wrapB (m % 256)
  rwa [Nat.mod_mod] at this
theorem div_lt64 {v k : Nat} (h : v < 18446744073709551616) : v / 256 ^ k < 18446744073709551616 := Nat.lt_of_le_of_lt (Nat.div_le_self ..) h
theorem div_succ (v k : Nat) : v / 256 ^ k / 256 = v / 256 ^ (k + 1) := by rw [Nat.div_div_eq_div_mul, Nat.pow_succ]
theorem rfits_ok (v n : Nat) (h' : n ≤ 8) (hv : v < 256 ^ n) : Ct Tryz.prog 106 [.int .u64 (v : Int), .int .i64 (n : Int)] [] [] (fun u G Q => u = .bool true ∧ G = [] ∧ Q = []) := by
 have h8 : 256 ^ n ≤ 256 ^ 8 := Nat.pow_le_pow_right (by decide) h'
 have h64 : v < 18446744073709551616 := by omega
 refine Ct.intro Tryz.func106 rfl rfl rfl (fun c hc => ?_)
 refine GC.rg 1 ?_;refine GC.seq' ?_;refine GC.rg 1 ?_;refine GC.block ?_;refine GC.loopK1 (ks := [1]) (is := []) (js := []) (fun (k : Nat) => k ≤ n) (fun (k : Nat) => [(0, .int .u64 ((v / 256 ^ k : Nat) : Int)), (5, .int .i64 (k : Int))]) (fun (k : Nat) => []) (fun (k : Nat) => []) (fun (k : Nat) => n - k) (0) rfl rfl rfl (fun a w h => ⟨by omega, by simp only [Nat.pow_zero, Nat.div_one]; exact h.cutK (is := []) (js := []) (ks := [1]) ⟨rfl, rfl, trivial⟩ rfl rfl rfl⟩) ?_
 intro k hk
 try dsimp only [List.cons_append, List.nil_append] at hk ⊢
 refine GC.seq' ?_;refine GC.rg 3 ?_;refine GC.co ?_ ?_
 ·intro h1; try simp only [tst_] at h1
  refine GC.skip (?_ : GC _ _ _ _)
  refine GC.seq' ?_;refine GC.block ?_;refine GC.region ?_;refine GL.rn 1 ?_;refine GL.pure rfl (p_quo (r := ((v / 256 ^ k / 256 : Nat) : Int)) rfl rfl (by decide) (quo256 (div_lt64 h64))) ?_;refine GL.rn 1 ?_
  refine GL.nil (?_ : GC _ _ _ _)
  refine GC.region ?_;refine GL.rn 1 ?_;refine GL.pure rfl (p_add rfl rfl (w64 (by omega) (by omega))) ?_;refine GL.rn 1 ?_;refine GL.nil ?_
  exact fun a w h => ⟨(k + 1), (by omega), by omega, by rw [← div_succ]; exact h.ct [] []⟩
 intro h1; try simp only [tst_] at h1
 refine GC.exit (?_ : GC _ _ _ _)
 refine GC.rg 3 ?_;refine GC.ret (Fin.b1 4 [] [] ?_)
 obtain rfl : k = n := by omega
 exact ⟨congrArg Value.bool (decide_eq_true (by rw [Nat.div_eq_of_lt hv]; rfl)), rfl, rfl⟩
theorem r1put_ct (A : Option Addr) (b : List UInt8) (cp v n : Nat) (hn : 1 ≤ n) (hn' : n ≤ 8) (hb : b.length ≤ 10000000000000) (hv : v < 256 ^ n) : Ct Tryz.prog 55 [.slice A b.length cp, .int .u64 (v : Int), .int .i64 (n : Int)] [] [Pers.row Kd.u8 A b]
    (fun u G Q => ∃ A' cp', (b ++ leN n v).length ≤ cp' ∧ cp' ≤ 9223372036854775807 ∧ u = .tuple #[.slice A' (b ++ leN n v).length cp', .int .i64 0] ∧ G = [rowOf A' cp' (b ++ leN n v)] ∧ Q = []) := by
 have h8 : 256 ^ n ≤ 256 ^ 8 := Nat.pow_le_pow_right (by decide) hn'
 have h64 : v < 18446744073709551616 := by omega
 refine Ct.intro Tryz.func55 rfl rfl rfl (fun c hc => ?_)
 refine GC.rg 2 ?_;refine GC.seq' ?_;refine GC.rr 3 ?_;refine GL.sp 12 ?_ ?_
 ·intro h1; try simp only [tst_] at h1
  first
  | (exfalso; omega)
  |(skip
    refine GL.rz 3 ?_;refine GC.cond_true rfl ?_;refine GC.rg 2 ?_;refine GC.ret (Fin.b2 6 7 [] [] ?_)
    skip)
 intro h1; try simp only [tst_] at h1
 first
 | (exfalso; omega)
 |(skip
   refine GL.rz 3 ?_;refine GC.co ?_ ?_
   ·intro h2; try simp only [tst_] at h2
    first
    | (exfalso; omega)
    |(skip
      refine GC.rg 2 ?_;refine GC.ret (Fin.b2 6 7 [] [] ?_)
      skip)
   intro h2; try simp only [tst_] at h2
   first
   | (exfalso; omega)
   |(skip
     refine GC.skip (?_ : GC _ _ _ _)
     refine GC.seq' ?_;refine GC.rr 2 ?_;refine GL.cl Tryz.call106 [] [] rfl rfl rfl (by exact rfits_ok v n hn' hv) ?_
     rintro _ _ _ ⟨rfl, rfl, rfl⟩
     refine GL.rz 1 ?_;refine GC.cond_false rfl ?_
     refine GC.skip (?_ : GC _ _ _ _)
     refine GC.sr_ ?_;refine GL.step rfl (t_buildSlice rfl Tryz.underlying25 sz_5 ze_5 rfl rfl rfl rfl rfl rfl) (GL.ex fun b_t20 => ?_);refine GL.rn 1 ?_;refine GL.torow (i := 0) (m := 0) (sz := 1) rfl rfl (by decide) rfl ?_
     refine GL.step rfl (t_appendS (i := 0) (k := 0) rfl el_25 rfl rfl rfl rfl (by simp; omega) (fun _ => rfl)) (GL.ex fun v22 => ?_);refine GL.rowIs (i := 0) (m' := (b).length) (cs' := (b).map u8v) rfl (by first | (simp only [List.length_append, List.length_cons, List.length_nil, List.append_assoc]; done) | (simp only [List.length_append, List.length_cons, List.length_nil, List.append_assoc]; omega) | (simp [leN_length]; done) | (simp [leN_length]; omega) | rfl) (by first | (simp only [List.map_append, List.map_cons, List.map_nil, List.append_assoc]; done) | (simp [leN_length]; done) | rfl) rfl ?_
     refine GL.rz 1 ?_;refine GC.seq' ?_;refine GC.rg 1 ?_;refine GC.block ?_;refine GC.loopK2 (ks := [2]) (is := []) (js := [0]) (fun (k : Nat) (U : Value) => k ≤ n) (fun (k : Nat) (U : Value) => [(1, .int .u64 ((v / 256 ^ k : Nat) : Int)), (8, U), (9, .int .i64 (k : Int))]) (fun (k : Nat) (U : Value) => [.row U 5 1 (b.length + k) ((b ++ leN k v).map u8v)]) (fun (k : Nat) (U : Value) => []) (fun (k : Nat) (U : Value) => n - k) (0) (_) rfl rfl rfl (fun a w h => ⟨by omega, by simp only [leN, List.append_nil, Nat.pow_zero, Nat.div_one]; exact h.cutK (is := [0]) (js := [0]) (ks := [2]) ⟨rfl, rfl, rfl, trivial⟩ rfl rfl rfl⟩) ?_
     intro k U hk
     try dsimp only [List.cons_append, List.nil_append] at hk ⊢
     refine GC.seq' ?_;refine GC.rg 3 ?_;refine GC.co ?_ ?_
     ·intro h3; try simp only [tst_] at h3
      first
      | (exfalso; omega)
      |(skip
        refine GC.skip (?_ : GC _ _ _ _)
        refine GC.seq' ?_;refine GC.block ?_;refine GC.rr 2 ?_;refine GL.pure rfl (p_rem (r := ((v / 256 ^ k % 256 : Nat) : Int)) rfl rfl (by decide) (rem256 _)) ?_;refine GL.pure rfl (p_convR (t := 23) (r := ((UInt8.ofNat (v / 256 ^ k % 256)).toNat : Int)) (by rw [Tryz.underlying23]; simp) Tryz.underlying5 rfl (wrapB2 _)) ?_
        refine GL.step rfl (t_buildSlice rfl Tryz.underlying25 sz_5 ze_5 rfl rfl rfl rfl rfl rfl) (GL.ex fun b_t32 => ?_);refine GL.step rfl (t_append (i := 1) (k := 0) rfl el_25 rfl rfl rfl rfl rfl (allOne_mem rfl) (by simp; omega) (fun _ => rfl)) (GL.ex fun v33 => ?_)
        refine GL.rz 1 ?_;refine GC.region ?_;refine GL.rn 1 ?_;refine GL.pure rfl (p_quo (r := ((v / 256 ^ k / 256 : Nat) : Int)) rfl rfl (by decide) (quo256 (div_lt64 h64))) ?_;refine GL.rn 1 ?_
        refine GL.nil (?_ : GC _ _ _ _)
        refine GC.region ?_;refine GL.rn 1 ?_;refine GL.pure rfl (p_add rfl rfl (w64 (by omega) (by omega))) ?_;refine GL.rn 1 ?_;refine GL.nil ?_
        exact fun a w h => ⟨(k + 1), (v33), (by omega), by omega, by rw [leN_succ, ← List.append_assoc, List.map_append, ← div_succ]; exact h.ct [1] [0]⟩)
     intro h3; try simp only [tst_] at h3
     first
     | (exfalso; omega)
     |(skip
       refine GC.exit (?_ : GC _ _ _ _)
       refine GC.seq' ?_
       obtain rfl : k = n := by omega
       refine GC.rowIs (i := 0) (m' := ((b ++ leN k v)).length) (cs' := ((b ++ leN k v)).map u8v) rfl (by first | (simp only [List.length_append, List.length_cons, List.length_nil, List.append_assoc]; done) | (simp only [List.length_append, List.length_cons, List.length_nil, List.append_assoc]; omega) | (simp [leN_length]; done) | (simp [leN_length]; omega) | rfl) (by first | (simp only [List.map_append, List.map_cons, List.map_nil, List.append_assoc]; done) | (simp [leN_length]; done) | rfl) rfl ?_
       refine GC.shape (i := 0) rfl (fun A_t20 c_t20 e_t20 l_t20 k_t20 => ?_)
       subst e_t20
       refine GC.region ?_;refine GL.rn 3 ?_
       refine GL.nil (?_ : GC _ _ _ _)
       refine GC.ret (Fin.b2 6 7 [0] [] ?_)
       exact ⟨_, _, l_t20, k_t20, rfl, rfl, rfl⟩)))
theorem rtext_ct (A : Option Addr) (b : List UInt8) (cp : Nat) (B : Option Addr) (s : List UInt8) (cq : Nat) (hb : b.length ≤ 1000000000000) (hs : s.length ≤ 16777216) : Ct Tryz.prog 56 [.slice A b.length cp, .slice B s.length cq] [] [Pers.row Kd.u8 A b, Pers.row Kd.u8 B s]
    (fun u G Q => ∃ A' cp', (b ++ leN 4 s.length ++ s).length ≤ cp' ∧ cp' ≤ 9223372036854775807 ∧ u = .tuple #[.slice A' (b ++ leN 4 s.length ++ s).length cp', .int .i64 0] ∧ G = [rowOf A' cp' (b ++ leN 4 s.length ++ s)] ∧ Q = []) := by
 refine Ct.intro Tryz.func56 rfl rfl rfl (fun c hc => ?_)
 refine GC.rg 2 ?_;refine GC.seq' ?_;refine GC.rg 3 ?_;refine GC.co ?_ ?_
 ·intro h1; try simp only [tst_] at h1
  first
  | (exfalso; omega)
  |(skip
    refine GC.rg 2 ?_;refine GC.ret (Fin.b2 4 5 [] [] ?_)
    skip)
 intro h1; try simp only [tst_] at h1
 first
 | (exfalso; omega)
 |(skip
   refine GC.skip (?_ : GC _ _ _ _)
   refine GC.rr 3 ?_;refine GL.pure rfl (p_convR (t := 3) (r := ((s.length : Nat) : Int)) (by rw [Tryz.underlying3]; simp) Tryz.underlying23 rfl (cvU (by omega) (by omega))) ?_
   refine GL.cl Tryz.call55 [] [0] rfl rfl rfl (by exact r1put_ct _ b _ s.length 4 (by omega) (by omega) (by omega) (by rw [p256_4]; omega)) ?_
   rintro _ _ _ ⟨A16, cp16, l16, k16, rfl, rfl, rfl⟩
   refine GL.rz 5 ?_;refine GC.rr 2 ?_;refine GL.step rfl (t_appendS (i := 0) (k := 1) rfl el_25 rfl rfl rfl rfl (by simp [leN_length]; omega) (fun _ => rfl)) (GL.ex fun v21 => ?_)
   refine GL.rowIs (i := 0) (m' := ((b ++ leN 4 s.length ++ s)).length) (cs' := ((b ++ leN 4 s.length ++ s)).map u8v) rfl (by first | (simp only [List.length_append, List.length_cons, List.length_nil, List.append_assoc]; done) | (simp only [List.length_append, List.length_cons, List.length_nil, List.append_assoc]; omega) | (simp [leN_length]; done) | (simp [leN_length]; omega) | rfl) (by first | (simp only [List.map_append, List.map_cons, List.map_nil, List.append_assoc]; done) | (simp [leN_length]; done) | rfl) rfl ?_
   refine GL.shape (i := 0) rfl (fun A_rp16 c_rp16 e_rp16 l_rp16 k_rp16 => ?_)
   subst e_rp16
   refine GL.rz 2 ?_;refine GC.ret (Fin.b2 4 5 [0] [] ?_)
   exact ⟨_, _, l_rp16, k_rp16, rfl, rfl, rfl⟩)
theorem rputall_ct (A : Option Addr) (b : List UInt8) (cp n : Nat) (L : Option Addr) (l : List Nat) (cl : Nat) (hn : 1 ≤ n) (hn' : n ≤ 8) (hb : b.length + 8 * l.length ≤ 10000000000000) (hl : ∀ x ∈ l, x < 256 ^ n) : Ct Tryz.prog 84 [.slice A b.length cp, .int .i64 (n : Int), .slice L l.length cl] [] [Pers.row Kd.u8 A b, Pers.row kU L l]
    (fun u G Q => ∃ A' cp', (b ++ flI n l).length ≤ cp' ∧ cp' ≤ 9223372036854775807 ∧ u = .tuple #[.slice A' (b ++ flI n l).length cp', .int .i64 0] ∧ G = [rowOf A' cp' (b ++ flI n l)] ∧ Q = []) := by
 have h8 : 256 ^ n ≤ 256 ^ 8 := Nat.pow_le_pow_right (by decide) hn'
 refine Ct.intro Tryz.func84 rfl rfl rfl (fun c hc => ?_)
 refine GC.rg 2 ?_;refine GC.seq' ?_;refine GC.rr 3 ?_;refine GL.sp 14 ?_ ?_
 ·intro h1; try simp only [tst_] at h1
  first
  | (exfalso; omega)
  |(skip
    refine GL.rz 3 ?_;refine GC.cond_true rfl ?_;refine GC.rg 2 ?_;refine GC.ret (Fin.b2 6 7 [] [] ?_)
    skip)
 intro h1; try simp only [tst_] at h1
 first
 | (exfalso; omega)
 |(skip
   refine GL.rz 3 ?_;refine GC.co ?_ ?_
   ·intro h2; try simp only [tst_] at h2
    first
    | (exfalso; omega)
    |(skip
      refine GC.rg 2 ?_;refine GC.ret (Fin.b2 6 7 [] [] ?_)
      skip)
   intro h2; try simp only [tst_] at h2
   first
   | (exfalso; omega)
   |(skip
     refine GC.skip (?_ : GC _ _ _ _)
     refine GC.sr_ ?_;refine GL.step rfl (t_buildSlice rfl Tryz.underlying25 sz_5 ze_5 rfl rfl rfl rfl rfl rfl) (GL.ex fun b_t18 => ?_);refine GL.rn 1 ?_;refine GL.torow (i := 0) (m := 0) (sz := 1) rfl rfl (by decide) rfl ?_
     refine GL.step rfl (t_appendS (i := 0) (k := 0) rfl el_25 rfl rfl rfl rfl (by first | (simp; omega) | skip; have := nk_le hn' (show k ≤ l.length by omega); (try simp only [List.length_append, flI_length, List.length_take, leN_length, List.length_cons, List.length_nil]); omega) (fun _ => rfl)) (GL.ex fun v20 => ?_)
     refine GL.rowIs (i := 0) (m' := (b).length) (cs' := (b).map u8v) rfl (by first | (simp only [List.length_append, List.length_cons, List.length_nil, List.append_assoc]; done) | (simp only [List.length_append, List.length_cons, List.length_nil, List.append_assoc]; omega) | (simp [leN_length, flI_length]; done) | (simp [leN_length, flI_length]; omega) | rfl) (by first | (simp only [List.map_append, List.map_cons, List.map_nil, List.append_assoc]; done) | (simp [leN_length, flI_length]; done) | rfl) rfl ?_
     refine GL.rz 1 ?_;refine GC.seq' ?_;refine GC.rg 1 ?_;refine GC.block ?_;refine GC.loopK2 (ks := [1, 2]) (is := []) (js := [0, 1]) (fun (k : Nat) (U : Value) => k ≤ l.length) (fun (k : Nat) (U : Value) => [(8, U), (9, .int .i64 (k : Int))]) (fun (k : Nat) (U : Value) => [.row U 5 1 (b.length + n * k) ((b ++ flI n (l.take k)).map u8v)]) (fun (k : Nat) (U : Value) => []) (fun (k : Nat) (U : Value) => l.length - k) (0) (_) rfl rfl rfl (fun a w h => ⟨by omega, by simp only [flI, List.take_zero, List.flatMap_nil, List.append_nil, Nat.mul_zero]; exact h.cutK (is := [0]) (js := [0, 1]) (ks := [1, 2]) ⟨rfl, rfl, trivial⟩ rfl rfl rfl⟩) ?_
     intro k U hk
     try dsimp only [List.cons_append, List.nil_append] at hk ⊢
     refine GC.seq' ?_;refine GC.rg 4 ?_;refine GC.co ?_ ?_
     ·intro h3; try simp only [tst_] at h3
      first
      | (exfalso; omega)
      |(skip
        refine GC.skip (?_ : GC _ _ _ _)
        refine GC.seq' ?_;refine GC.block ?_
        iterate 2 refine GC.seq' ?_
        have hx := hl _ (gt_elem (l := l) (k := k) (by omega))
        refine GC.region ?_;refine GL.rn 2 ?_;refine GL.step rfl (t_index (i := 1) rfl rfl rfl rfl Tryz.underlying126 sz_23 (by omega) (gt_ok (by omega) (by omega))) (GL.ex fun p_x29 => GL.ex fun r_x29 => GL.and fun ok_x29 => ?_)
        rcases r_x29 with _
        refine GL.step rfl (t_mem rfl (m_loadP (i := 0) rfl rfl ag_23 rfl)) ?_;refine GL.rn 1 ?_;refine GL.cl Tryz.call106 [] [] rfl rfl rfl (by exact rfits_ok (gt l (k : Int)) n hn' (hl _ (gt_elem (by omega)))) ?_
        rintro _ _ _ ⟨rfl, rfl, rfl⟩
        refine GL.rn 1 ?_
        refine GL.nil (?_ : GC _ _ _ _)
        refine GC.cond_false rfl ?_
        refine GC.skip (?_ : GC _ _ _ _)
        refine GC.rr 2 ?_;refine GL.step rfl (t_index (i := 2) rfl rfl rfl rfl Tryz.underlying126 sz_23 (by omega) (gt_ok (by omega) (by omega))) (GL.ex fun p_x36 => GL.ex fun r_x36 => GL.and fun ok_x36 => ?_)
        rcases r_x36 with _
        refine GL.step rfl (t_mem rfl (m_loadP (i := 0) rfl rfl ag_23 rfl)) ?_;refine GL.rz 1 ?_;refine GC.rg 1 ?_;refine GC.block ?_;refine GC.loopK2 (ks := [1, 2, 9]) (is := []) (js := [0, 1, 2, 3]) (fun (j : Nat) (U : Value) => j ≤ n) (fun (j : Nat) (U : Value) => [(8, U), (10, .int .u64 ((gt l (k : Int) / 256 ^ j : Nat) : Int)), (11, .int .i64 (j : Int))]) (fun (j : Nat) (U : Value) => [.row U 5 1 (b.length + n * k + j) ((b ++ flI n (l.take k) ++ leN j (gt l (k : Int))).map u8v)]) (fun (j : Nat) (U : Value) => []) (fun (j : Nat) (U : Value) => n - j) (0) (_) rfl rfl rfl (fun a w h => ⟨by omega, by simp only [leN, List.append_nil, Nat.pow_zero, Nat.div_one]; exact h.cutK (is := [0]) (js := [0, 1, 2, 3]) (ks := [1, 2, 9]) ⟨rfl, rfl, rfl, trivial⟩ rfl rfl rfl⟩) ?_
        intro j U hj
        try dsimp only [List.cons_append, List.nil_append] at hj ⊢
        refine GC.seq' ?_;refine GC.rg 3 ?_;refine GC.co ?_ ?_
        ·intro h4; try simp only [tst_] at h4
         first
         | (exfalso; omega)
         |(skip
           refine GC.skip (?_ : GC _ _ _ _)
           refine GC.seq' ?_;refine GC.block ?_;refine GC.rr 2 ?_;refine GL.pure rfl (p_rem (r := ((gt l (k : Int) / 256 ^ j % 256 : Nat) : Int)) rfl rfl (by decide) (rem256 _)) ?_;refine GL.pure rfl (p_convR (t := 23) (r := ((UInt8.ofNat (gt l (k : Int) / 256 ^ j % 256)).toNat : Int)) (by rw [Tryz.underlying23]; simp) Tryz.underlying5 rfl (wrapB2 _)) ?_
           refine GL.step rfl (t_buildSlice rfl Tryz.underlying25 sz_5 ze_5 rfl rfl rfl rfl rfl rfl) (GL.ex fun b_t47 => ?_);refine GL.step rfl (t_append (i := 1) (k := 0) rfl el_25 rfl rfl rfl rfl rfl (allOne_mem rfl) (by first | (simp; omega) | skip; have := nk_le hn' (show k ≤ l.length by omega); (try simp only [List.length_append, flI_length, List.length_take, leN_length, List.length_cons, List.length_nil]); omega) (fun _ => rfl)) (GL.ex fun v48 => ?_)
           refine GL.rz 1 ?_;refine GC.region ?_;refine GL.rn 1 ?_;refine GL.pure rfl (p_quo (r := ((gt l (k : Int) / 256 ^ j / 256 : Nat) : Int)) rfl rfl (by decide) (quo256 (div_lt64 (by omega)))) ?_;refine GL.rn 1 ?_
           refine GL.nil (?_ : GC _ _ _ _)
           refine GC.region ?_;refine GL.rn 1 ?_;refine GL.pure rfl (p_add rfl rfl (w64 (by omega) (by omega))) ?_;refine GL.rn 1 ?_;refine GL.nil ?_
           exact fun a w h => ⟨(j + 1), (v48), (by omega), by omega, by rw [leN_succ, ← List.append_assoc (b ++ flI n (l.take k)), List.map_append, ← div_succ]; exact h.ct [1] [0, 1, 2, 3]⟩)
        intro h4; try simp only [tst_] at h4
        first
        | (exfalso; omega)
        |(skip
          refine GC.exit (?_ : GC _ _ _ _)
          refine GC.region ?_;refine GL.rn 1 ?_;refine GL.pure rfl (p_add rfl rfl (w64 (by omega) (by omega))) ?_;refine GL.rn 1 ?_;refine GL.nil ?_
          obtain rfl : j = n := by omega
          exact fun a w h => ⟨(k + 1), (_), (by omega), by omega, by rw [flI_take (by omega), ← List.append_assoc, Nat.mul_succ, ← Nat.add_assoc]; exact h.cut (is := [0]) (js := [2, 3]) ⟨rfl, rfl, rfl, rfl, trivial⟩ rfl rfl⟩))
     intro h3; try simp only [tst_] at h3
     first
     | (exfalso; omega)
     |(skip
       refine GC.exit (?_ : GC _ _ _ _)
       refine GC.seq' ?_
       obtain rfl : k = l.length := by omega
       rw [List.take_length]
       refine GC.rowIs (i := 0) (m' := ((b ++ flI n l)).length) (cs' := ((b ++ flI n l)).map u8v) rfl (by first | (simp only [List.length_append, List.length_cons, List.length_nil, List.append_assoc]; done) | (simp only [List.length_append, List.length_cons, List.length_nil, List.append_assoc]; omega) | (simp [leN_length, flI_length]; done) | (simp [leN_length, flI_length]; omega) | rfl) (by first | (simp only [List.map_append, List.map_cons, List.map_nil, List.append_assoc]; done) | (simp [leN_length, flI_length]; done) | rfl) rfl ?_
       refine GC.shape (i := 0) rfl (fun A_t18 c_t18 e_t18 l_t18 k_t18 => ?_)
       subst e_t18
       refine GC.region ?_;refine GL.rn 3 ?_
       refine GL.nil (?_ : GC _ _ _ _)
       refine GC.ret (Fin.b2 6 7 [0] [] ?_)
       exact ⟨_, _, l_t18, k_t18, rfl, rfl, rfl⟩)))
theorem flI2 (n a b_ : Nat) : flI n [a, b_] = leN n a ++ leN n b_ := by simp [flI]
theorem rform_ok (o : OpD) (h : formD o) (A : Option Addr) (cp : Nat) (B : Option Addr) (cq : Nat) : Ct Tryz.prog 28 [opD o A cp B cq] [] [] (fun v G Q => v = .int .i64 0 ∧ G = [] ∧ Q = []) := by
  have r := form_rng h
  have := formR_ct o.kind o.at_ o.n A o.data.length cp B o.old.length cq (by omega) (by omega)
  rw [(formE_iff ..).2 h] at this
  exact this
theorem rencop_ct (o : OpD) (A : Option Addr) (cp : Nat) (B : Option Addr) (cq : Nat) (hf : formD o) : Ct Tryz.prog 86 [opD o A cp B cq] [] [Pers.row Kd.u8 A o.data, Pers.row Kd.u8 B o.old]
    (fun u G Q => ∃ A' cp', (opB o).length ≤ cp' ∧ cp' ≤ 9223372036854775807 ∧ u = .tuple #[.slice A' (opB o).length cp', .int .i64 0] ∧ G = [rowOf A' cp' (opB o)] ∧ Q = []) := by
 obtain ⟨r1, r2, r3, r4, r5, r6, r7, r8⟩ := form_rng hf
 have e : [byI o.kind] ++ leN 4 o.at_.toNat ++ leN 4 o.n.toNat ++ leN 4 o.data.length ++ o.data ++ leN 4 o.old.length ++ o.old = opB o := by rw [opB, flI2]; simp only [List.append_assoc]
 rw [← e]
 refine Ct.intro Tryz.func86 rfl rfl rfl (fun c hc => ?_)
 refine GC.sr_ ?_;refine GL.step rfl (t_box rfl rfl rfl) (GL.ex fun b_t1 => ?_);refine GL.rz 2 ?_;refine GC.sr_ ?_;refine GL.ln_ 0 5 ?_;refine GL.cl Tryz.call28 [] [] rfl rfl rfl (by exact rform_ok o hf _ _ _ _) ?_
 rintro _ _ _ ⟨rfl, rfl, rfl⟩
 refine GL.rz 1 ?_;refine GC.seq' ?_;refine GC.rg 2 ?_;refine GC.cond_false rfl ?_
 refine GC.skip (?_ : GC _ _ _ _)
 refine GC.rr 1 ?_;refine GL.ld_ 0 ?_;refine GL.reval 12 rfl (congrArg (Value.int .u8) (byI_eq (by omega) (by omega))) ?_;refine GL.step rfl (t_buildSlice rfl Tryz.underlying25 sz_5 ze_5 rfl rfl rfl rfl rfl rfl) (GL.ex fun b_t13 => ?_)
 refine GL.rz 1 ?_;refine GC.rr 2 ?_;refine GL.ld_ 1 ?_;refine GL.pure rfl (p_convR (t := 3) (r := ((o.at_.toNat : Nat) : Int)) (by rw [Tryz.underlying3]; simp) Tryz.underlying23 rfl (cvZ (by omega) (by omega))) ?_
 refine GL.freezeC (enc := u8v) (xs := [byI o.kind]) (h1 := fun _ => rfl) (i := 0) rfl ?_;refine GL.cl Tryz.call55 [] [0] rfl rfl rfl (by exact r1put_ct _ [byI o.kind] _ o.at_.toNat 4 (by omega) (by omega) (by simp) (by rw [p256_4]; omega)) ?_
 rintro _ _ _ ⟨A19, cp19, l19, k19, rfl, rfl, rfl⟩
 refine GL.rz 4 ?_;refine GC.rr 2 ?_;refine GL.ld_ 1 ?_;refine GL.pure rfl (p_convR (t := 3) (r := ((o.n.toNat : Nat) : Int)) (by rw [Tryz.underlying3]; simp) Tryz.underlying23 rfl (cvZ (by omega) (by omega))) ?_
 refine GL.freezeB (i := 0) rfl ?_;refine GL.cl Tryz.call55 [] [0] rfl rfl rfl (by exact r1put_ct _ ([byI o.kind] ++ leN 4 o.at_.toNat) _ o.n.toNat 4 (by omega) (by omega) (by simp [leN_length]) (by rw [p256_4]; omega)) ?_
 rintro _ _ _ ⟨A27, cp27, l27, k27, rfl, rfl, rfl⟩
 refine GL.rz 4 ?_;refine GC.rr 2 ?_;refine GL.ld_ 1 ?_;refine GL.freezeB (i := 0) rfl ?_;refine GL.cl Tryz.call56 [] [0, 3] rfl rfl rfl (by exact rtext_ct _ ([byI o.kind] ++ leN 4 o.at_.toNat ++ leN 4 o.n.toNat) _ _ o.data _ (by simp [leN_length]) (by omega)) ?_
 rintro _ _ _ ⟨A34, cp34, l34, k34, rfl, rfl, rfl⟩
 refine GL.rz 4 ?_;refine GC.rr 2 ?_;refine GL.ld_ 1 ?_;refine GL.freezeB (i := 0) rfl ?_;refine GL.cl Tryz.call56 [] [0, 5] rfl rfl rfl (by exact rtext_ct _ ([byI o.kind] ++ leN 4 o.at_.toNat ++ leN 4 o.n.toNat ++ leN 4 o.data.length ++ o.data) _ _ o.old _ (by simp [leN_length]; omega) (by omega)) ?_
 rintro _ _ _ ⟨A41, cp41, l41, k41, rfl, rfl, rfl⟩
 refine GL.rz 4 ?_;refine GC.rg 3 ?_;refine GC.ret (Fin.b2 2 3 [0] [] ?_)
 exact ⟨_, _, l41, k41, rfl, rfl, rfl⟩
theorem rres_ok (r : Res) (h : resOk r.code r.data.length = true) (A : Option Addr) (cp : Nat) : Ct Tryz.prog 30 [.agg #[.int .u8 r.code, .slice A r.data.length cp]] [] [] (fun v G Q => v = .int .i64 0 ∧ G = [] ∧ Q = []) := by
  have := rres_ct r.code A r.data.length cp
  rw [if_pos h] at this
  exact this
theorem rencres_ct (r : Res) (A : Option Addr) (cp : Nat) (hf : resOk r.code r.data.length = true) : Ct Tryz.prog 87 [.agg #[.int .u8 r.code, .slice A r.data.length cp]] [] [Pers.row Kd.u8 A r.data]
    (fun u G Q => ∃ A' cp', (resB r).length ≤ cp' ∧ cp' ≤ 9223372036854775807 ∧ u = .tuple #[.slice A' (resB r).length cp', .int .i64 0] ∧ G = [rowOf A' cp' (resB r)] ∧ Q = []) := by
 obtain ⟨r1, r2, r3⟩ := res_rng hf
 refine Ct.intro Tryz.func87 rfl rfl rfl (fun c hc => ?_)
 refine GC.sr_ ?_;refine GL.step rfl (t_box rfl rfl rfl) (GL.ex fun b_t1 => ?_);refine GL.rz 2 ?_;refine GC.sr_ ?_;refine GL.ln_ 0 2 ?_;refine GL.cl Tryz.call30 [] [] rfl rfl rfl (by exact rres_ok r hf _ _) ?_
 rintro _ _ _ ⟨rfl, rfl, rfl⟩
 refine GL.rz 1 ?_;refine GC.seq' ?_;refine GC.rg 2 ?_;refine GC.cond_false rfl ?_
 refine GC.skip (?_ : GC _ _ _ _)
 refine GC.rr 1 ?_;refine GL.ld_ 0 ?_;refine GL.reval 14 rfl (congrArg (Value.int .u8) (byI_eq (by omega) (by omega))) ?_;refine GL.step rfl (t_buildSlice rfl Tryz.underlying25 sz_5 ze_5 rfl rfl rfl rfl rfl rfl) (GL.ex fun b_t15 => ?_)
 refine GL.rn 1 ?_;refine GL.ld_ 1 ?_;refine GL.freezeC (enc := u8v) (xs := [byI r.code]) (h1 := fun _ => rfl) (i := 0) rfl ?_;refine GL.cl Tryz.call56 [] [0, 1] rfl rfl rfl (by exact rtext_ct _ [byI r.code] _ _ r.data _ (by simp) (by omega)) ?_
 rintro _ _ _ ⟨A18, cp18, l18, k18, rfl, rfl, rfl⟩
 refine GL.rz 5 ?_;refine GC.rg 3 ?_;refine GC.ret (Fin.b2 2 3 [0] [] ?_)
 exact ⟨_, _, l18, k18, rfl, rfl, rfl⟩
theorem r7put_ct (A : Option Addr) (b : List UInt8) (cp : Nat) (v : Int) (n : Nat) (hn : 1 ≤ n) (hn' : n ≤ 8) (hb : b.length ≤ 10000000000000) (h0 : 0 ≤ v) (hv : v.toNat < 256 ^ n) : Ct Tryz.prog 126 [.slice A b.length cp, .int .i64 v, .int .i64 (n : Int)] [] [Pers.row Kd.u8 A b]
    (fun u G Q => ∃ A' cp', (b ++ leN n v.toNat).length ≤ cp' ∧ cp' ≤ 9223372036854775807 ∧ u = .slice A' (b ++ leN n v.toNat).length cp' ∧ G = [rowOf A' cp' (b ++ leN n v.toNat)] ∧ Q = []) := by
 have h8 : 256 ^ n ≤ 256 ^ 8 := Nat.pow_le_pow_right (by decide) hn'
 refine Ct.intro Tryz.func126 rfl rfl rfl (fun c hc => ?_)
 refine GC.rg 1 ?_;refine GC.rr 2 ?_;refine GL.pure rfl (p_convR (t := 3) (r := ((v.toNat : Nat) : Int)) (by rw [Tryz.underlying3]; simp) Tryz.underlying23 rfl (cvZ (by omega) (by omega))) ?_
 refine GL.rn 1 ?_;refine GL.cl Tryz.call55 [] [0] rfl rfl rfl (by exact r1put_ct _ b _ v.toNat n hn hn' hb hv) ?_
 rintro _ _ _ ⟨A14, cp14, l14, k14, rfl, rfl, rfl⟩
 refine GL.rz 5 ?_;refine GC.rg 2 ?_;refine GC.ret (Fin.b1 6 [0] [] ?_)
 exact ⟨_, _, l14, k14, rfl, rfl, rfl⟩
theorem r7put_nil (v : Int) (n : Nat) (hn : 1 ≤ n) (hn' : n ≤ 8) (h0 : 0 ≤ v) (hv : v.toNat < 256 ^ n) : Ct Tryz.prog 126 [.slice none 0 0, .int .i64 v, .int .i64 (n : Int)] [] []
    (fun u G Q => ∃ A' cp', (leN n v.toNat).length ≤ cp' ∧ cp' ≤ 9223372036854775807 ∧ u = .slice A' (leN n v.toNat).length cp' ∧ G = [rowOf A' cp' (leN n v.toNat)] ∧ Q = []) :=
  Ct.free (r7put_ct none [] 0 v n hn hn' (by simp) h0 hv) nil8
theorem flZ_one (n : Nat) (x : Int) : flZ n [x] = leN n x.toNat := by simp [flZ]
theorem flZ_two (n : Nat) (x y : Int) : flZ n [x, y] = leN n x.toNat ++ leN n y.toNat := by simp [flZ]
theorem flZ_three (n : Nat) (x y z : Int) : flZ n [x, y, z] = leN n x.toNat ++ leN n y.toNat ++ leN n z.toNat := by simp [flZ]
theorem flZ_four (n : Nat) (x y z u : Int) : flZ n [x, y, z, u] = leN n x.toNat ++ leN n y.toNat ++ leN n z.toNat ++ leN n u.toNat := by simp [flZ]
theorem r7grp_ct (A : Option Addr) (b : List UInt8) (cp : Nat) (g : Grp) (B : Option Addr) (cq : Nat) (hg : groupOk g.epoch g.members = true) (hb : b.length ≤ 1000000000000) : Ct Tryz.prog 127 [.slice A b.length cp, grpV g.epoch B g.members.length cq] [] [Pers.row Kd.u8 A b, Pers.row kI B g.members]
    (fun u G Q => ∃ A' cp', (b ++ grpB g).length ≤ cp' ∧ cp' ≤ 9223372036854775807 ∧ u = .slice A' (b ++ grpB g).length cp' ∧ G = [rowOf A' cp' (b ++ grpB g)] ∧ Q = []) := by
 obtain ⟨r1, r2, r3, r4, r5⟩ := grp_rng hg
 refine Ct.intro Tryz.func127 rfl rfl rfl (fun c hc => ?_)
 refine GC.sr_ ?_;refine GL.step rfl (t_box rfl rfl rfl) (GL.ex fun b_t3 => ?_);refine GL.rz 1 ?_;refine GC.seq' ?_;refine GC.regionC (m := 9) (is := [0]) (js := [0, 1]) wide_ rfl rfl rfl ?_;refine GA.tk 0 [0] [0, 1] ?_
 refine GA.tk 1 [0] [0, 1] ?_;refine GA.tp 2 rfl [0] [0, 1] (i_mem (m_load (i := 0) rfl rfl ag_3 rfl)) ?_;refine GA.tk 4 [0] [0, 1] ?_;refine GA.tp 5 rfl [0] [0, 1] (i_mem (m_load (i := 0) rfl rfl ag_31 rfl)) ?_;refine GA.tk 6 [0] [0, 1] ?_
 refine GA.al [3] ?_
 refine GAs.cons (i := 3) rfl rfl (t_call rfl Tryz.call126 rfl (is := []) (js := [0]) rfl rfl (by exact r7put_ct _ b _ g.epoch 8 (by omega) (by omega) (by omega) (by omega) (by rw [p256_8]; omega))) (by rintro a w ⟨_, _, _, ⟨A9, cp9, l9, k9, rfl, rfl, rfl⟩, h⟩; exact h.me [1] [0, 1]) (GA.ret ?_) GAs.nil
 rintro _ _ _ ⟨A9, cp9, l9, k9, rfl, rfl, rfl⟩
 refine GA.freezeB (i := 0) rfl ?_;refine GA.al [7] ?_
 refine GAs.cons (i := 7) rfl rfl (t_call rfl Tryz.call126 rfl (is := []) (js := [0]) rfl rfl (by exact r7put_ct _ (b ++ leN 8 g.epoch.toNat) _ (g.members.length : Int) 1 (by omega) (by omega) (by simp [leN_length]; omega) (by omega) (by rw [p256_1]; omega))) (by rintro a w ⟨_, _, _, ⟨A13, cp13, l13, k13, rfl, rfl, rfl⟩, h⟩; exact h.me [1] [1, 2]) (GA.ret ?_) GAs.nil
 rintro _ _ _ ⟨A13, cp13, l13, k13, rfl, rfl, rfl⟩
 refine GA.tk 8 [1] [1, 2] ?_
 refine GA.done (by kernel_rfl) (?_ : GC _ _ _ _)
 refine GC.seq' ?_;refine GC.rg 1 ?_;refine GC.block ?_;refine GC.loopK3 (ks := [3]) (is := [1]) (js := [0, 1, 2]) (fun (k : Nat) (A1 : Option Addr) (c1 : Nat) => k ≤ g.members.length ∧ (b ++ leN 8 g.epoch.toNat ++ leN 1 (g.members.length : Int).toNat ++ flZ 1 (g.members.take k)).length ≤ c1 ∧ c1 ≤ 9223372036854775807) (fun (k : Nat) (A1 : Option Addr) (c1 : Nat) => [(0, .slice A1 (b ++ leN 8 g.epoch.toNat ++ leN 1 (g.members.length : Int).toNat ++ flZ 1 (g.members.take k)).length c1), (5, .int .i64 (k : Int))]) (fun (k : Nat) (A1 : Option Addr) (c1 : Nat) => [rowOf A1 c1 (b ++ leN 8 g.epoch.toNat ++ leN 1 (g.members.length : Int).toNat ++ flZ 1 (g.members.take k))]) (fun (k : Nat) (A1 : Option Addr) (c1 : Nat) => []) (fun (k : Nat) (A1 : Option Addr) (c1 : Nat) => g.members.length - k) (0) (_) (_) rfl rfl rfl (fun a w h => ⟨⟨by omega, by simp only [flZ, List.take_zero, List.flatMap_nil, List.append_nil]; exact l13, k13⟩, by simp only [flZ, List.take_zero, List.flatMap_nil, List.append_nil]; exact h.cutK (is := [0, 0]) (js := [0, 1, 2]) (ks := [3]) ⟨rfl, rfl, trivial⟩ rfl rfl rfl⟩) ?_
 intro k A1 c1 hk
 try dsimp only [List.cons_append, List.nil_append] at hk ⊢
 obtain ⟨hk, hc1, hc2⟩ := hk
 refine GC.seq' ?_;refine GC.rr 2 ?_;refine GL.ld_ 1 ?_;refine GL.rz 2 ?_;refine GC.co ?_ ?_
 ·intro h1; try simp only [tst_] at h1
  refine GC.skip (?_ : GC _ _ _ _)
  refine GC.seq' ?_;refine GC.block ?_
  have hx := r1 _ (gt_elem (l := g.members) (k := k) (by omega))
  refine GC.region ?_;refine GL.rn 2 ?_;refine GL.ld_ 1 ?_;refine GL.rn 1 ?_;refine GL.step rfl (t_index (i := 2) rfl rfl rfl rfl Tryz.underlying31 sz_3 (by omega) (gt_ok (by omega) (by omega))) (GL.ex fun p_x25 => GL.ex fun r_x25 => GL.and fun ok_x25 => ?_)
  rcases r_x25 with _
  refine GL.step rfl (t_mem rfl (m_loadP (i := 0) rfl rfl ag_3 rfl)) ?_;refine GL.freezeB (i := 0) rfl ?_;refine GL.cl Tryz.call126 [] [0] rfl rfl rfl (by exact r7put_ct _ (b ++ leN 8 g.epoch.toNat ++ leN 1 (g.members.length : Int).toNat ++ flZ 1 (g.members.take k)) _ (gt g.members (k : Int)) 1 (by omega) (by omega) (by simp only [List.length_append, leN_length, flZ_length, List.length_take]; omega) (by omega) (by rw [p256_1]; omega)) ?_
  rintro _ _ _ ⟨A27, cp27, l27, k27, rfl, rfl, rfl⟩
  refine GL.rn 1 ?_
  refine GL.nil (?_ : GC _ _ _ _)
  refine GC.region ?_;refine GL.rn 1 ?_;refine GL.pure rfl (p_add rfl rfl (w64 (by omega) (by omega))) ?_;refine GL.rn 1 ?_;refine GL.nil ?_
  exact fun a w h => ⟨(k + 1), (A27), (cp27), (by omega), ⟨by omega, by rw [flZ_take (by omega), ← List.append_assoc]; exact l27, k27⟩, by rw [flZ_take (by omega), ← List.append_assoc]; exact h.ct [0, 0] [2, 3, 4]⟩
 intro h1; try simp only [tst_] at h1
 refine GC.exit (?_ : GC _ _ _ _)
 refine GC.rg 2 ?_;refine GC.ret (Fin.b1 4 [0] [] ?_)
 obtain rfl : k = g.members.length := by omega
 have e : b ++ leN 8 g.epoch.toNat ++ leN 1 (g.members.length : Int).toNat ++ flZ 1 g.members = b ++ grpB g := by rw [grpB, flZ_one, flZ_one]; simp only [List.append_assoc]
 rw [List.take_length, e] at hc1
 rw [List.take_length, e]
 exact ⟨_, _, hc1, hc2, rfl, rfl, rfl⟩
theorem r7grp_nil (g : Grp) (B : Option Addr) (cq : Nat) (hg : groupOk g.epoch g.members = true) : Ct Tryz.prog 127 [.slice none 0 0, grpV g.epoch B g.members.length cq] [] [Pers.row kI B g.members]
    (fun u G Q => ∃ A' cp', (grpB g).length ≤ cp' ∧ cp' ≤ 9223372036854775807 ∧ u = .slice A' (grpB g).length cp' ∧ G = [rowOf A' cp' (grpB g)] ∧ Q = []) :=
  Ct.free (r7grp_ct none [] 0 g B cq hg (by simp)) nil8
theorem rent_ok (e : Entry) (h : entOk e) (A : Option Addr) (cp : Nat) (B : Option Addr) (cq : Nat) (C : Option Addr) (cr : Nat) (hl : EntLen e) : Ct Tryz.prog 65 [entV e A cp B cq C cr] [] (entQ e A B C) (fun u G Q => u = .int .i64 0 ∧ G = [] ∧ Q = []) := by
  have := rent_ct e A cp B cq C cr hl
  rw [show entE e = 0 from if_pos h] at this
  exact this
theorem rencent_ct (e : Entry) (A : Option Addr) (cp : Nat) (B : Option Addr) (cq : Nat) (C : Option Addr) (cr : Nat) (he_ : entOk e) (hl : EntLen e) : Ct Tryz.prog 90 [entV e A cp B cq C cr] [] (entQ e A B C)
    (fun u G Q => ∃ A' cp', (entB e).length ≤ cp' ∧ cp' ≤ 9223372036854775807 ∧ u = .tuple #[.slice A' (entB e).length cp', .int .i64 0] ∧ G = [rowOf A' cp' (entB e)] ∧ Q = []) := by
 obtain ⟨r1, r2, r3, r4, r5, r6, r7⟩ := ent_rng he_
 refine Ct.intro Tryz.func90 rfl rfl rfl (fun c hc => ?_)
 refine GC.sr_ ?_;refine GL.step rfl (t_box rfl rfl rfl) (GL.ex fun b_t1 => ?_);refine GL.rz 2 ?_;refine GC.seq' ?_;refine GC.sr_ ?_;refine GL.ln_ 0 12 ?_;refine GL.cl Tryz.call65 [] [0, 1, 2] rfl rfl rfl (by exact rent_ok e he_ _ _ _ _ _ _ hl) ?_
 rintro _ _ _ ⟨rfl, rfl, rfl⟩
 refine GL.rz 1 ?_;refine GC.cond_false rfl ?_
 refine GC.skip (?_ : GC _ _ _ _)
 refine GC.rr 1 ?_;refine GL.ld_ 0 ?_;refine GL.reval 11 rfl (congrArg (Value.int .u8) (byI_eq (by omega) (by omega))) ?_;refine GL.step rfl (t_buildSlice rfl Tryz.underlying25 sz_5 ze_5 rfl rfl rfl rfl rfl rfl) (GL.ex fun b_t12 => ?_)
 refine GL.rz 1 ?_;refine GC.seq' ?_;refine GC.freezeC (enc := u8v) (xs := [byI e.kind]) (h1 := fun _ => rfl) (i := 0) rfl ?_;refine GC.regionC (m := 14) (is := [0]) (js := [0, 1, 2, 3]) wide_ rfl rfl rfl ?_;refine GA.tk 0 [0] [0, 1, 2, 3] ?_
 refine GA.tk 1 [0] [0, 1, 2, 3] ?_;refine GA.tp 2 rfl [0] [0, 1, 2, 3] (i_mem (m_load (i := 0) rfl rfl ag_3 rfl)) ?_;refine GA.tk 4 [0] [0, 1, 2, 3] ?_;refine GA.tp 5 rfl [0] [0, 1, 2, 3] (i_mem (m_load (i := 0) rfl rfl ag_3 rfl)) ?_
 refine GA.tk 7 [0] [0, 1, 2, 3] ?_;refine GA.tp 8 rfl [0] [0, 1, 2, 3] (i_mem (m_load (i := 0) rfl rfl ag_3 rfl)) ?_;refine GA.tk 10 [0] [0, 1, 2, 3] ?_;refine GA.tp 11 rfl [0] [0, 1, 2, 3] (i_mem (m_load (i := 0) rfl rfl ag_3 rfl)) ?_
 refine GA.al [3] ?_
 refine GAs.cons (i := 3) rfl rfl (t_call rfl Tryz.call126 rfl (is := []) (js := [0]) rfl rfl (by exact r7put_ct _ [byI e.kind] _ e.num 8 (by omega) (by omega) (by simp) (by omega) (by rw [p256_8]; omega))) (by rintro a w ⟨_, _, _, ⟨A16, cp16, l16, k16, rfl, rfl, rfl⟩, h⟩; exact h.me [1] [0, 1, 2, 3]) (GA.ret ?_) GAs.nil
 rintro _ _ _ ⟨A16, cp16, l16, k16, rfl, rfl, rfl⟩
 refine GA.freezeB (i := 0) rfl ?_;refine GA.al [6] ?_
 refine GAs.cons (i := 6) rfl rfl (t_call rfl Tryz.call126 rfl (is := []) (js := [0]) rfl rfl (by exact r7put_ct _ ([byI e.kind] ++ leN 8 e.num.toNat) _ e.view 8 (by omega) (by omega) (by simp [leN_length]) (by omega) (by rw [p256_8]; omega))) (by rintro a w ⟨_, _, _, ⟨A19, cp19, l19, k19, rfl, rfl, rfl⟩, h⟩; exact h.me [1] [1, 2, 3, 4]) (GA.ret ?_) GAs.nil
 rintro _ _ _ ⟨A19, cp19, l19, k19, rfl, rfl, rfl⟩
 refine GA.freezeB (i := 0) rfl ?_;refine GA.al [9] ?_
 refine GAs.cons (i := 9) rfl rfl (t_call rfl Tryz.call126 rfl (is := []) (js := [0]) rfl rfl (by exact r7put_ct _ ([byI e.kind] ++ leN 8 e.num.toNat ++ leN 8 e.view.toNat) _ e.client 8 (by omega) (by omega) (by simp [leN_length]) (by omega) (by rw [p256_8]; omega))) (by rintro a w ⟨_, _, _, ⟨A22, cp22, l22, k22, rfl, rfl, rfl⟩, h⟩; exact h.me [1] [2, 3, 4, 5]) (GA.ret ?_) GAs.nil
 rintro _ _ _ ⟨A22, cp22, l22, k22, rfl, rfl, rfl⟩
 refine GA.freezeB (i := 0) rfl ?_;refine GA.al [12] ?_
 refine GAs.cons (i := 12) rfl rfl (t_call rfl Tryz.call126 rfl (is := []) (js := [0]) rfl rfl (by exact r7put_ct _ ([byI e.kind] ++ leN 8 e.num.toNat ++ leN 8 e.view.toNat ++ leN 8 e.client.toNat) _ e.serial 8 (by omega) (by omega) (by simp [leN_length]) (by omega) (by rw [p256_8]; omega))) (by rintro a w ⟨_, _, _, ⟨A25, cp25, l25, k25, rfl, rfl, rfl⟩, h⟩; exact h.me [1] [3, 4, 5, 6]) (GA.ret ?_) GAs.nil
 rintro _ _ _ ⟨A25, cp25, l25, k25, rfl, rfl, rfl⟩
 refine GA.tk 13 [1] [3, 4, 5, 6] ?_
 refine GA.done (by kernel_rfl) (?_ : GC _ _ _ _)
 refine GC.seq' ?_;refine GC.rr 1 ?_;refine GL.ld_ 1 ?_;refine GL.rz 1 ?_;refine GC.co ?_ ?_
 ·intro h1; try simp only [tst_] at h1
  refine GC.rr 2 ?_;refine GL.ln_ 1 2 ?_;refine GL.freezeB (i := 0) rfl ?_;refine GL.cl Tryz.call127 [] [0, 7] rfl rfl rfl (by exact r7grp_ct _ ([byI e.kind] ++ leN 8 e.num.toNat ++ leN 8 e.view.toNat ++ leN 8 e.client.toNat ++ leN 8 e.serial.toNat) _ e.grp _ _ (r6 (by assumption)) (by simp [leN_length])) ?_
  rintro _ _ _ ⟨A32, cp32, l32, k32, rfl, rfl, rfl⟩
  refine GL.rz 2 ?_;refine GC.ret (Fin.b2 2 3 [0] [] ?_)
  have eb : entB e = [byI e.kind] ++ leN 8 e.num.toNat ++ leN 8 e.view.toNat ++ leN 8 e.client.toNat ++ leN 8 e.serial.toNat ++ grpB e.grp := by rw [entB, if_pos (by assumption), flZ_four]; simp only [List.append_assoc]
  rw [eb]
  exact ⟨_, _, l32, k32, rfl, rfl, rfl⟩
 intro h1; try simp only [tst_] at h1
 refine GC.skip (?_ : GC _ _ _ _)
 refine GC.rr 1 ?_;refine GL.ln_ 1 5 ?_;refine GL.cl Tryz.call86 [] [4, 5] rfl rfl rfl (by exact rencop_ct e.op _ _ _ _ (r7 (by assumption))) ?_
 rintro _ _ _ ⟨A36, cp36, l36, k36, rfl, rfl, rfl⟩
 refine GL.rz 5 ?_;refine GC.rr 2 ?_;refine GL.freezeB (i := 0) rfl ?_;refine GL.step rfl (t_appendS (i := 0) (k := 0) rfl el_25 rfl rfl rfl rfl (by have := opB_len (r7 (by assumption)); simp [leN_length]; omega) (fun _ => rfl)) (GL.ex fun v41 => ?_)
 refine GL.rowIs (i := 0) (m' := (([byI e.kind] ++ leN 8 e.num.toNat ++ leN 8 e.view.toNat ++ leN 8 e.client.toNat ++ leN 8 e.serial.toNat ++ opB e.op)).length) (cs' := (([byI e.kind] ++ leN 8 e.num.toNat ++ leN 8 e.view.toNat ++ leN 8 e.client.toNat ++ leN 8 e.serial.toNat ++ opB e.op)).map u8v) rfl (by first | (simp only [List.length_append, List.length_cons, List.length_nil, List.append_assoc]; done) | (simp only [List.length_append, List.length_cons, List.length_nil, List.append_assoc]; omega) | (simp; done) | (simp; omega) | rfl) (by first | (simp only [List.map_append, List.map_cons, List.map_nil, List.append_assoc]; done) | (simp; done) | rfl) rfl ?_
 refine GL.shape (i := 0) rfl (fun A_r725 c_r725 e_r725 l_r725 k_r725 => ?_)
 subst e_r725
 refine GL.rz 2 ?_;refine GC.ret (Fin.b2 2 3 [0] [] ?_)
 have eb : entB e = [byI e.kind] ++ leN 8 e.num.toNat ++ leN 8 e.view.toNat ++ leN 8 e.client.toNat ++ leN 8 e.serial.toNat ++ opB e.op := by rw [entB, if_neg (by assumption), flZ_four]; simp only [List.append_assoc]
 rw [eb]
 exact ⟨_, _, l_r725, k_r725, rfl, rfl, rfl⟩
theorem rseal_ct (A : Option Addr) (b : List UInt8) (cp : Nat) (hb : b.length ≤ 10000000000000) : Ct Tryz.prog 57 [.slice A b.length cp] [] [Pers.row Kd.u8 A b]
    (fun u G Q => ∃ A' cp', (sealB b).length ≤ cp' ∧ cp' ≤ 9223372036854775807 ∧ u = .slice A' (sealB b).length cp' ∧ G = [rowOf A' cp' (sealB b)] ∧ Q = []) := by
 refine Ct.intro Tryz.func57 rfl rfl rfl (fun c hc => ?_)
 refine GC.rg 1 ?_;refine GC.rr 1 ?_;refine GL.cl Tryz.call107 [] [0] rfl rfl rfl (by exact of_ct _ b _ (by omega)) ?_
 rintro _ _ _ ⟨rfl, rfl, rfl⟩
 refine GL.rz 1 ?_;refine GC.sr_ ?_;refine GL.step rfl (t_buildSlice rfl Tryz.underlying25 sz_5 ze_5 rfl rfl rfl rfl rfl rfl) (GL.ex fun b_t6 => ?_);refine GL.rn 1 ?_;refine GL.torow (i := 0) (m := 0) (sz := 1) rfl rfl (by decide) rfl ?_
 refine GL.step rfl (t_appendS (i := 0) (k := 0) rfl el_25 rfl rfl rfl rfl (by simp; omega) (fun _ => rfl)) (GL.ex fun v8 => ?_);refine GL.rn 1 ?_;refine GL.pure rfl (p_convR (t := 144) (by rw [Tryz.underlying144]; simp) Tryz.underlying5 rfl (wrapB _)) ?_
 refine GL.rn 1 ?_;refine GL.pure rfl (p_shrR rfl rfl (by decide) (shr1 _)) ?_;refine GL.pure rfl (p_convR (t := 144) (by rw [Tryz.underlying144]; simp) Tryz.underlying5 rfl (wrapB _)) ?_
 refine GL.rn 1 ?_;refine GL.pure rfl (p_shrR rfl rfl (by decide) (shr2 _)) ?_;refine GL.pure rfl (p_convR (t := 144) (by rw [Tryz.underlying144]; simp) Tryz.underlying5 rfl (wrapB _)) ?_
 refine GL.rn 1 ?_;refine GL.pure rfl (p_shrR rfl rfl (by decide) (shr3 _)) ?_;refine GL.pure rfl (p_convR (t := 144) (by rw [Tryz.underlying144]; simp) Tryz.underlying5 rfl (wrapB _)) ?_
 refine GL.step rfl (t_buildSlice rfl Tryz.underlying25 sz_5 ze_5 rfl rfl rfl rfl rfl rfl) (GL.ex fun b_t20 => ?_);refine GL.step rfl (t_append (i := 1) (k := 0) rfl el_25 rfl rfl rfl rfl rfl (allOne_mem rfl) (by simp; omega) (fun _ => rfl)) (GL.ex fun v21 => ?_)
 refine GL.rowIs (i := 1) (m' := ((sealB b)).length) (cs' := ((sealB b)).map u8v) rfl (by first | (simp only [List.length_append, List.length_cons, List.length_nil, List.append_assoc]; done) | (simp only [List.length_append, List.length_cons, List.length_nil, List.append_assoc]; omega) | (simp [leN4, sealB]; done) | (simp [leN4, sealB]; omega) | rfl) (by first | (simp only [List.map_append, List.map_cons, List.map_nil, List.append_assoc]; done) | (simp [leN4, sealB]; done) | rfl) rfl ?_
 refine GL.shape (i := 1) rfl (fun A_t6 c_t6 e_t6 l_t6 k_t6 => ?_)
 subst e_t6
 refine GL.rz 1 ?_;refine GC.ret (Fin.b1 2 [1] [] ?_)
 exact ⟨_, _, l_t6, k_t6, rfl, rfl, rfl⟩
theorem seg_cons {b : List UInt8} {l h : Nat} (hl : l < h) (hh : h ≤ b.length) : seg b l h = gt b (l : Int) :: seg b (l + 1) h := by
  apply List.ext_getElem?
  intro i
  cases i with
  | zero => simp [seg, gt, List.getElem?_take, hl, List.getD_eq_getElem?_getD, show l < b.length by omega]
  | succ i => simp only [seg, List.getElem?_cons_succ, List.getElem?_drop]; rw [show l + (i + 1) = l + 1 + i by omega]
theorem valN_step {b : List UInt8} {l h : Nat} (hl : l < h) (hh : h ≤ b.length) : valN (seg b l h) = valN (seg b (l + 1) h) * 256 + (gt b (l : Int)).toNat := by
  rw [seg_cons hl hh, valN]; omega
theorem rget_ct (A : Option Addr) (b : List UInt8) (cp at_ n : Nat) (hn : 1 ≤ n) (hn' : n ≤ 8) (hb : b.length ≤ cp) (hb' : b.length ≤ 200000000000000) (hat : at_ ≤ b.length) : Ct Tryz.prog 98 [.slice A b.length cp, .int .i64 (at_ : Int), .int .i64 (n : Int)] [] [Pers.row Kd.u8 A b]
    (fun u G Q => u = .tuple #[.int .u64 ((getV b at_ n : Nat) : Int), .int .i64 ((getX b at_ n : Nat) : Int), .int .i64 (getE b at_ n)] ∧ G = [] ∧ Q = []) := by
 by_cases hq : at_ + n ≤ b.length
 ·have p8 : (256 : Nat) ^ 8 = 18446744073709551616 := p256_8
  have hm : ∀ k : Nat, k < n → valN (seg b (at_ + (n - k)) (at_ + n)) < 72057594037927936 := fun k hk => by
    have h1_ : valN (seg b (at_ + (n - k)) (at_ + n)) < 256 ^ k := valN_rng hq (by omega)
    have h2_ : 256 ^ k ≤ 256 ^ 7 := Nat.pow_le_pow_right (by decide) (by omega)
    have h3_ : (256 : Nat) ^ 7 = 72057594037927936 := by decide
    omega
  rw [getV, getX, getE, if_pos hq, if_pos hq, if_pos hq]
  refine Ct.intro Tryz.func98 rfl rfl rfl (fun c hc => ?_)
  refine GC.rg 3 ?_;refine GC.seq' ?_;refine GC.rr 3 ?_;refine GL.sp 13 ?_ ?_
  ·intro h1; try simp only [tst_] at h1
   first
   | (exfalso; omega)
   |(skip
     refine GL.rz 3 ?_;refine GC.cond_true rfl ?_;refine GC.rg 3 ?_;refine GC.ret (Fin.b3 6 7 8 [] [] ?_)
     obtain rfl : k = n := by omega
     rw [show at_ + (k - k) = at_ by omega]
     exact ⟨rfl, rfl, rfl⟩)
  intro h1; try simp only [tst_] at h1
  first
  | (exfalso; omega)
  |(skip
    refine GL.rz 3 ?_;refine GC.co ?_ ?_
    ·intro h2; try simp only [tst_] at h2
     first
     | (exfalso; omega)
     |(skip
       refine GC.rg 3 ?_;refine GC.ret (Fin.b3 6 7 8 [] [] ?_)
       obtain rfl : k = n := by omega
       rw [show at_ + (k - k) = at_ by omega]
       exact ⟨rfl, rfl, rfl⟩)
    intro h2; try simp only [tst_] at h2
    first
    | (exfalso; omega)
    |(skip
      refine GC.skip (?_ : GC _ _ _ _)
      refine GC.seq' ?_;refine GC.rr 3 ?_;refine GL.sp 19 ?_ ?_
      ·intro h3; try simp only [tst_] at h3
       first
       | (exfalso; omega)
       |(skip
         refine GL.rz 5 ?_;refine GC.cond_true rfl ?_;refine GC.rg 3 ?_;refine GC.ret (Fin.b3 6 7 8 [] [] ?_)
         obtain rfl : k = n := by omega
         rw [show at_ + (k - k) = at_ by omega]
         exact ⟨rfl, rfl, rfl⟩)
      intro h3; try simp only [tst_] at h3
      first
      | (exfalso; omega)
      |(skip
        refine GL.rz 5 ?_;refine GC.co ?_ ?_
        ·intro h4; try simp only [tst_] at h4
         first
         | (exfalso; omega)
         |(skip
           refine GC.rg 3 ?_;refine GC.ret (Fin.b3 6 7 8 [] [] ?_)
           obtain rfl : k = n := by omega
           rw [show at_ + (k - k) = at_ by omega]
           exact ⟨rfl, rfl, rfl⟩)
        intro h4; try simp only [tst_] at h4
        first
        | (exfalso; omega)
        |(skip
          refine GC.skip (?_ : GC _ _ _ _)
          refine GC.seq' ?_;refine GC.rr 3 ?_;refine GL.pure rfl (p_sub rfl rfl (w64 (by omega) (by omega))) ?_;refine GL.rz 2 ?_;refine GC.co ?_ ?_
          ·intro h5; try simp only [tst_] at h5
           first
           | (exfalso; omega)
           |(skip
             refine GC.rg 3 ?_;refine GC.ret (Fin.b3 6 7 8 [] [] ?_)
             obtain rfl : k = n := by omega
             rw [show at_ + (k - k) = at_ by omega]
             exact ⟨rfl, rfl, rfl⟩)
          intro h5; try simp only [tst_] at h5
          first
          | (exfalso; omega)
          |(skip
            refine GC.skip (?_ : GC _ _ _ _)
            refine GC.rg 1 ?_;refine GC.seq' ?_;refine GC.rr 1 ?_;refine GL.pure rfl (p_sub rfl rfl (w64 (by omega) (by omega))) ?_;refine GL.rz 1 ?_;refine GC.block ?_;refine GC.loopK1 (ks := [0, 1, 2]) (is := []) (js := [0]) (fun (k : Nat) => k ≤ n) (fun (k : Nat) => [(9, .int .u64 ((valN (seg b (at_ + (n - k)) (at_ + n)) : Nat) : Int)), (10, .int .i64 ((n : Int) - 1 - (k : Int)))]) (fun (k : Nat) => []) (fun (k : Nat) => []) (fun (k : Nat) => n - k) (0) rfl rfl rfl (fun a w h => ⟨by omega, by rw [show at_ + (n - 0) = at_ + n by omega, show seg b (at_ + n) (at_ + n) = [] by simp [seg], show (n : Int) - 1 - ((0 : Nat) : Int) = (n : Int) - 1 by omega]; exact h.cutK (is := []) (js := [0]) (ks := [0, 1, 2]) ⟨rfl, rfl, trivial⟩ rfl rfl rfl⟩) ?_
            intro k hk
            try dsimp only [List.cons_append, List.nil_append] at hk ⊢
            refine GC.seq' ?_;refine GC.rg 2 ?_;refine GC.co ?_ ?_
            ·intro h6; try simp only [tst_] at h6
             first
             | (exfalso; omega)
             |(skip
               refine GC.skip (?_ : GC _ _ _ _)
               refine GC.seq' ?_;refine GC.block ?_;refine GC.region ?_;refine GL.rn 1 ?_;refine GL.pure rfl (p_mul rfl rfl (cvU (by omega) (by have := hm k (by omega); omega))) ?_
               refine GL.rn 3 ?_;refine GL.pure rfl (p_add rfl rfl (w64 (by omega) (by omega))) ?_;refine GL.reval 42 rfl (show Value.int .i64 _ = .int .i64 ((at_ + (n - k - 1) : Nat) : Int) from congrArg (Value.int .i64) (by omega)) ?_
               refine GL.step rfl (t_index (i := 0) rfl rfl rfl rfl Tryz.underlying25 sz_5 (by omega) (gt_ok (by omega) (by omega))) (GL.ex fun p_x43 => GL.ex fun r_x43 => GL.and fun ok_x43 => ?_)
               rcases r_x43 with _
               refine GL.step rfl (t_mem rfl (m_loadP (i := 0) rfl rfl ag_5 rfl)) ?_;refine GL.pure rfl (p_convR (t := 5) (r := (((gt b ((at_ + (n - k - 1) : Nat) : Int)).toNat : Nat) : Int)) (by rw [Tryz.underlying5]; simp) Tryz.underlying23 rfl (cvU (by omega) (by have := (gt b ((at_ + (n - k - 1) : Nat) : Int)).toNat_lt; omega))) ?_
               refine GL.pure rfl (p_add rfl rfl (cvU (by omega) (by have := hm k (by omega); have := (gt b ((at_ + (n - k - 1) : Nat) : Int)).toNat_lt; omega))) ?_;refine GL.rn 1 ?_
               refine GL.nil (?_ : GC _ _ _ _)
               refine GC.region ?_;refine GL.rn 1 ?_;refine GL.pure rfl (p_sub rfl rfl (w64 (by omega) (by omega))) ?_;refine GL.rn 1 ?_;refine GL.nil ?_
               exact fun a w h => ⟨(k + 1), (by omega), by omega, by rw [valN_step (l := at_ + (n - (k + 1))) (by omega) hq, show at_ + (n - (k + 1)) + 1 = at_ + (n - k) by omega, show at_ + (n - (k + 1)) = at_ + (n - k - 1) by omega, show (n : Int) - 1 - ((k + 1 : Nat) : Int) = (n : Int) - 1 - (k : Int) - 1 by omega]; exact h.ct [] [1]⟩)
            intro h6; try simp only [tst_] at h6
            first
            | (exfalso; omega)
            |(skip
              refine GC.exit (?_ : GC _ _ _ _)
              refine GC.rr 3 ?_;refine GL.pure rfl (p_add rfl rfl (w64 (by omega) (by omega))) ?_;refine GL.rz 3 ?_;refine GC.ret (Fin.b3 6 7 8 [] [] ?_)
              obtain rfl : k = n := by omega
              rw [show at_ + (k - k) = at_ by omega]
              exact ⟨rfl, rfl, rfl⟩))))))
 rw [getV, getX, getE, if_neg hq, if_neg hq, if_neg hq]
 refine Ct.intro Tryz.func98 rfl rfl rfl (fun c hc => ?_)
 refine GC.rg 3 ?_;refine GC.seq' ?_;refine GC.rr 3 ?_;refine GL.sp 13 ?_ ?_
 ·intro h1; try simp only [tst_] at h1
  first
  | (exfalso; omega)
  |(skip
    refine GL.rz 3 ?_;refine GC.cond_true rfl ?_;refine GC.rg 3 ?_;refine GC.ret (Fin.b3 6 7 8 [] [] ?_)
    exact ⟨rfl, rfl, rfl⟩)
 intro h1; try simp only [tst_] at h1
 first
 | (exfalso; omega)
 |(skip
   refine GL.rz 3 ?_;refine GC.co ?_ ?_
   ·intro h2; try simp only [tst_] at h2
    first
    | (exfalso; omega)
    |(skip
      refine GC.rg 3 ?_;refine GC.ret (Fin.b3 6 7 8 [] [] ?_)
      exact ⟨rfl, rfl, rfl⟩)
   intro h2; try simp only [tst_] at h2
   first
   | (exfalso; omega)
   |(skip
     refine GC.skip (?_ : GC _ _ _ _)
     refine GC.seq' ?_;refine GC.rr 3 ?_;refine GL.sp 19 ?_ ?_
     ·intro h3; try simp only [tst_] at h3
      first
      | (exfalso; omega)
      |(skip
        refine GL.rz 5 ?_;refine GC.cond_true rfl ?_;refine GC.rg 3 ?_;refine GC.ret (Fin.b3 6 7 8 [] [] ?_)
        exact ⟨rfl, rfl, rfl⟩)
     intro h3; try simp only [tst_] at h3
     first
     | (exfalso; omega)
     |(skip
       refine GL.rz 5 ?_;refine GC.co ?_ ?_
       ·intro h4; try simp only [tst_] at h4
        first
        | (exfalso; omega)
        |(skip
          refine GC.rg 3 ?_;refine GC.ret (Fin.b3 6 7 8 [] [] ?_)
          exact ⟨rfl, rfl, rfl⟩)
       intro h4; try simp only [tst_] at h4
       first
       | (exfalso; omega)
       |(skip
         refine GC.skip (?_ : GC _ _ _ _)
         refine GC.seq' ?_;refine GC.rr 3 ?_;refine GL.pure rfl (p_sub rfl rfl (w64 (by omega) (by omega))) ?_;refine GL.rz 2 ?_;refine GC.co ?_ ?_
         ·intro h5; try simp only [tst_] at h5
          first
          | (exfalso; omega)
          |(skip
            refine GC.rg 3 ?_;refine GC.ret (Fin.b3 6 7 8 [] [] ?_)
            exact ⟨rfl, rfl, rfl⟩)
         intro h5; try simp only [tst_] at h5
         exfalso; omega))))
theorem rgtx_ct (A : Option Addr) (b : List UInt8) (cp at_ : Nat) (hb : b.length ≤ cp) (hcp' : cp ≤ 9223372036854775807) (hb' : b.length ≤ 10000000000000) (hat : at_ ≤ b.length) : Ct Tryz.prog 136 [.slice A b.length cp, .int .i64 (at_ : Int)] [] [Pers.row Kd.u8 A b]
    (fun u G Q => ∃ x n e A' c', txF b at_ = (x, n, e) ∧ x.length ≤ c' ∧ c' ≤ 9223372036854775807 ∧ u = .tuple #[.slice A' x.length c', .int .i64 ((n : Nat) : Int), .int .i64 e] ∧ G = [] ∧ Q = [Pers.row Kd.u8 A' x]) := by
 by_cases hq4 : at_ + 4 ≤ b.length
 ·have hv := valN_rng (b := b) (l := at_) (h := at_ + 4) (n := 4) hq4 (by omega)
  rw [p256_4] at hv
  have ee : ((at_ + 4 : Nat) : Int) + ((valN (seg b at_ (at_ + 4)) : Nat) : Int) = ((at_ + 4 + valN (seg b at_ (at_ + 4)) : Nat) : Int) := by omega
  have hsl : at_ + 4 + valN (seg b at_ (at_ + 4)) ≤ b.length → (seg b (at_ + 4) (at_ + 4 + valN (seg b at_ (at_ + 4)))).length = valN (seg b at_ (at_ + 4)) := fun h => by rw [seg_length h]; omega
  have hg := rget_ct A b cp at_ 4 (by omega) (by omega) hb (by omega) hat
  rw [getV, getX, getE, if_pos hq4, if_pos hq4, if_pos hq4] at hg
  refine Ct.intro Tryz.func136 rfl rfl rfl (fun c hc => ?_)
  refine GC.rg 3 ?_;refine GC.rr 2 ?_;refine GL.cl Tryz.call98 [] [0] rfl rfl rfl (by exact hg) ?_
  rintro _ _ _ ⟨rfl, rfl, rfl⟩
  refine GL.rz 7 ?_;refine GC.seq' ?_;refine GC.rg 2 ?_;refine GC.cond_false rfl ?_
  refine GC.skip (?_ : GC _ _ _ _)
  refine GC.seq' ?_;refine GC.rg 2 ?_;refine GC.co ?_ ?_
  ·intro h1; try simp only [tst_] at h1
   refine GC.rg 3 ?_;refine GC.know (q := Pers.row Kd.u8 none []) (fun _ _ _ => .inl rfl) ?_;refine GC.ret (Fin.b3 4 5 6 [] [0] ?_)
   exact zq59_
  intro h1; try simp only [tst_] at h1
  refine GC.skip (?_ : GC _ _ _ _)
  refine GC.seq' ?_;refine GC.rr 3 ?_;refine GL.pure rfl (p_sub rfl rfl (w64 (by omega) (by omega))) ?_;refine GL.rn 1 ?_;refine GL.pure rfl (p_convR (t := 23) (r := ((valN (seg b at_ (at_ + 4)) : Nat) : Int)) (by rw [Tryz.underlying23]; simp) Tryz.underlying3 rfl (cvI (by omega) (by omega))) ?_
  refine GL.rz 1 ?_;refine GC.co ?_ ?_
  ·intro h2; try simp only [tst_] at h2
   refine GC.rg 3 ?_;refine GC.know (q := Pers.row Kd.u8 none []) (fun _ _ _ => .inl rfl) ?_;refine GC.ret (Fin.b3 4 5 6 [] [0] ?_)
   exact zq60_
  intro h2; try simp only [tst_] at h2
  refine GC.skip (?_ : GC _ _ _ _)
  refine GC.sr_ ?_;refine GL.step rfl (t_buildSlice rfl Tryz.underlying25 sz_5 ze_5 rfl rfl rfl rfl rfl rfl) (GL.ex fun b_t29 => ?_);refine GL.rn 4 ?_;refine GL.pure rfl (p_convR (t := 23) (r := ((valN (seg b at_ (at_ + 4)) : Nat) : Int)) (by rw [Tryz.underlying23]; simp) Tryz.underlying3 rfl (cvI (by omega) (by omega))) ?_
  refine GL.pure rfl (p_add rfl rfl (w64 (by omega) (by omega))) ?_;refine GL.step rfl (t_cut_lh (j := 0) rfl rfl rfl rfl rfl Tryz.underlying25 sz_5 (by omega) (by omega) (by omega) (by omega)) ?_
  rw [ee, show (((at_ + 4 : Nat) : Int)).toNat = at_ + 4 from rfl, show (((at_ + 4 + valN (seg b at_ (at_ + 4)) : Nat) : Int)).toNat = at_ + 4 + valN (seg b at_ (at_ + 4)) from rfl]
  refine GL.torow (i := 0) (m := 0) (sz := 1) rfl rfl (by decide) rfl ?_;refine GL.step rfl (t_appendS (i := 0) (k := 0) rfl el_25 rfl rfl rfl rfl (by simp; omega) (fun _ => rfl)) (GL.ex fun v37 => ?_)
  refine GL.rowIs (i := 0) (m' := ((seg b (at_ + 4) (at_ + 4 + valN (seg b at_ (at_ + 4))))).length) (cs' := ((seg b (at_ + 4) (at_ + 4 + valN (seg b at_ (at_ + 4))))).map u8v) rfl (by first | (simp only [List.length_append, List.length_cons, List.length_nil, List.append_assoc]; done) | (simp only [List.length_append, List.length_cons, List.length_nil, List.append_assoc]; omega) | (simp; done) | (simp; omega) | rfl) (by first | (simp only [List.map_append, List.map_cons, List.map_nil, List.append_assoc]; done) | (simp; done) | rfl) rfl ?_
  refine GL.shape (i := 0) rfl (fun A_t29 c_t29 e_t29 l_t29 k_t29 => ?_)
  subst e_t29
  refine GL.freezeB (i := 0) rfl ?_;refine GL.rn 2 ?_;refine GL.pure rfl (p_convR (t := 23) (r := ((valN (seg b at_ (at_ + 4)) : Nat) : Int)) (by rw [Tryz.underlying23]; simp) Tryz.underlying3 rfl (cvI (by omega) (by omega))) ?_
  refine GL.pure rfl (p_add rfl rfl (w64 (by omega) (by omega))) ?_;refine GL.rz 3 ?_;refine GC.ret (Fin.b3 4 5 6 [] [0] ?_)
  exact ⟨_, _, 0, _, _, by rw [txF, if_pos hq4, if_pos (by omega), if_pos (by omega)], l_t29, k_t29, rfl, rfl, rfl⟩
 have hg := rget_ct A b cp at_ 4 (by omega) (by omega) hb (by omega) hat
 rw [getV, getX, getE, if_neg hq4, if_neg hq4, if_neg hq4] at hg
 refine Ct.intro Tryz.func136 rfl rfl rfl (fun c hc => ?_)
 refine GC.rg 3 ?_;refine GC.rr 2 ?_;refine GL.cl Tryz.call98 [] [0] rfl rfl rfl (by exact hg) ?_
 rintro _ _ _ ⟨rfl, rfl, rfl⟩
 refine GL.rz 7 ?_;refine GC.seq' ?_;refine GC.rg 2 ?_;refine GC.cond_true rfl ?_;refine GC.rg 4 ?_;refine GC.know (q := Pers.row Kd.u8 none []) (fun _ _ _ => .inl rfl) ?_;refine GC.ret (Fin.b3 4 5 6 [] [0] ?_)
 exact zq61_
theorem numS_inv {b : List UInt8} {t n v u : Nat} {k : Int} (h : numS b t k n = (v, u, 0)) : k = 0 ∧ t + n ≤ b.length ∧ v = valN (seg b t (t + n)) ∧ u = t + n := by
  unfold numS at h
  split at h
  · split at h
    · obtain ⟨h1, h2, _⟩ := inj3 h
      exact ⟨by assumption, by assumption, h1.symm, h2.symm⟩
    · have := (inj3 h).2.2; omega
  · have := (inj3 h).2.2; omega
theorem txS_inv {b : List UInt8} {t u : Nat} {k : Int} {x : List UInt8} (h : txS b t k = (x, u, 0)) : k = 0 ∧ txF b t = (x, u, 0) := by
  unfold txS at h
  split at h
  · split at h
    · exact ⟨by assumption, h⟩
    · have := (inj3 h).2.2
      split at this <;> omega
  · have := (inj3 h).2.2; omega
theorem val1 {b : List UInt8} {t : Nat} (h : t + 1 ≤ b.length) : valN (seg b t (t + 1)) = (gt b (t : Int)).toNat := by
  rw [seg_cons (by omega) h, show seg b (t + 1) (t + 1) = [] by simp [seg], valN, valN]; omega
theorem decOp_inv {b : List UInt8} {o : OpD} {u : Nat} (h : decOp b = some (o, u)) : 9 ≤ b.length ∧ ∃ t, txF b 9 = (o.data, t, 0) ∧ txF b t = (o.old, u, 0) ∧ o.kind = ((gt b 0).toNat : Int) ∧ o.at_ = ((getV b 1 4 : Nat) : Int) ∧ o.n = ((getV b 5 4 : Nat) : Int) ∧ formE o.kind o.at_ o.n o.data.length o.old.length = 0 := by
  unfold decOp at h
  split at h
  · rename_i hh
    obtain ⟨h0, hf⟩ := hh
    obtain ⟨ho, hu⟩ := Prod.mk.inj (Option.some.inj h)
    cases e1 : numS b 0 0 1 with | mk v1 r1 => cases r1 with | mk t1 k1 =>
    cases e2 : numS b t1 k1 4 with | mk v2 r2 => cases r2 with | mk t2 k2 =>
    cases e3 : numS b t2 k2 4 with | mk v3 r3 => cases r3 with | mk t3 k3 =>
    cases e4 : txS b t3 k3 with | mk x4 r4 => cases r4 with | mk t4 k4 =>
    cases e5 : txS b t4 k4 with | mk x5 r5 => cases r5 with | mk t5 k5 =>
    rw [decOpS_eq e1 e2 e3 e4 e5] at h0 hf ho hu
    dsimp only at h0 hf ho hu
    subst h0
    obtain ⟨rfl, f5⟩ := txS_inv e5
    obtain ⟨rfl, f4⟩ := txS_inv e4
    obtain ⟨rfl, l3, rfl, rfl⟩ := numS_inv e3
    obtain ⟨rfl, l2, rfl, rfl⟩ := numS_inv e2
    obtain ⟨_, l1, rfl, rfl⟩ := numS_inv e1
    subst ho hu
    refine ⟨by omega, t4, f4, f5, ?_, ?_, ?_, hf⟩
    · dsimp only; rw [val1 (t := 0) l1]; rfl
    · dsimp only; rw [getV, if_pos (by omega)]
    · dsimp only; rw [getV, if_pos (by omega)]
  · cases h
theorem decOp_mk {b x y : List UInt8} {t u : Nat} (hl : 9 ≤ b.length) (h1 : txF b 9 = (x, t, 0)) (h2 : txF b t = (y, u, 0)) (hf : formE ((gt b 0).toNat : Int) ((getV b 1 4 : Nat) : Int) ((getV b 5 4 : Nat) : Int) x.length y.length = 0) : decOp b = some (⟨((gt b 0).toNat : Int), ((getV b 1 4 : Nat) : Int), ((getV b 5 4 : Nat) : Int), x, y⟩, u) := by
  have e1 : numS b 0 0 1 = ((gt b 0).toNat, 1, 0) := by rw [numS, if_pos rfl, if_pos (by omega), val1 (t := 0) (by omega)]; rfl
  have e2 : numS b 1 0 4 = (getV b 1 4, 5, 0) := by rw [numS, if_pos rfl, if_pos (by omega), getV, if_pos (by omega)]
  have e3 : numS b 5 0 4 = (getV b 5 4, 9, 0) := by rw [numS, if_pos rfl, if_pos (by omega), getV, if_pos (by omega)]
  have e4 : txS b 9 0 = (x, t, 0) := by rw [txS, if_pos rfl, h1, if_pos rfl]
  have e5 : txS b t 0 = (y, u, 0) := by rw [txS, if_pos rfl, h2, if_pos rfl]
  rw [decOp, decOpS_eq e1 e2 e3 e4 e5]
  exact if_pos ⟨rfl, hf⟩
theorem decOp_no {b : List UInt8} (h : ∀ o u, decOp b = some (o, u) → False) : decOp b = none := by
  cases hd : decOp b with
  | none => rfl
  | some r => exact (h r.1 r.2 hd).elim
theorem decRes_inv {b : List UInt8} {o : Res} {u : Nat} (h : decRes b = some (o, u)) : 1 ≤ b.length ∧ txF b 1 = (o.data, u, 0) ∧ o.code = ((gt b 0).toNat : Int) ∧ resOk o.code o.data.length = true := by
  unfold decRes at h
  split at h
  · rename_i hh
    obtain ⟨h0, hf⟩ := hh
    obtain ⟨ho, hu⟩ := Prod.mk.inj (Option.some.inj h)
    cases e1 : numS b 0 0 1 with | mk v1 r1 => cases r1 with | mk t1 k1 =>
    cases e2 : txS b t1 k1 with | mk x2 r2 => cases r2 with | mk t2 k2 =>
    rw [decResS_eq e1 e2] at h0 hf ho hu
    dsimp only at h0 hf ho hu
    subst h0
    obtain ⟨rfl, f2⟩ := txS_inv e2
    obtain ⟨_, l1, rfl, rfl⟩ := numS_inv e1
    subst ho hu
    refine ⟨by omega, f2, ?_, hf⟩
    dsimp only; rw [val1 (t := 0) l1]; rfl
  · cases h
theorem decRes_mk {b x : List UInt8} {u : Nat} (hl : 1 ≤ b.length) (h1 : txF b 1 = (x, u, 0)) (hf : resOk ((gt b 0).toNat : Int) x.length = true) : decRes b = some (⟨((gt b 0).toNat : Int), x⟩, u) := by
  have e1 : numS b 0 0 1 = ((gt b 0).toNat, 1, 0) := by rw [numS, if_pos rfl, if_pos (by omega), val1 (t := 0) (by omega)]; rfl
  have e2 : txS b 1 0 = (x, u, 0) := by rw [txS, if_pos rfl, h1, if_pos rfl]
  rw [decRes, decResS_eq e1 e2]
  exact if_pos ⟨rfl, hf⟩
theorem decRes_no {b : List UInt8} (h : ∀ o u, decRes b = some (o, u) → False) : decRes b = none := by
  cases hd : decRes b with
  | none => rfl
  | some r => exact (h r.1 r.2 hd).elim
theorem rbrk_ct (e : Int) : Ct Tryz.prog 137 [.int .i64 e] [] [] (fun u G Q => ∃ k : Int, u = .int .i64 k ∧ (e ≠ 0 → k ≠ 0) ∧ G = [] ∧ Q = []) := by
 refine Ct.intro Tryz.func137 rfl rfl rfl (fun c hc => ?_)
 refine GC.rg 1 ?_;refine GC.seq' ?_;refine GC.rg 2 ?_;refine GC.co ?_ ?_
 ·intro h1; try simp only [tst_] at h1
  refine GC.rg 2 ?_;refine GC.ret (Fin.b1 2 [] [] ?_)
  exact ⟨_, rfl, by intros; omega, rfl, rfl⟩
 intro h1; try simp only [tst_] at h1
 refine GC.skip (?_ : GC _ _ _ _)
 refine GC.rg 1 ?_;refine GC.ret (Fin.b1 2 [] [] ?_)
 exact ⟨_, rfl, by intros; omega, rfl, rfl⟩
theorem rdop_ct (A : Option Addr) (b : List UInt8) (cp : Nat) (hb : b.length ≤ cp) (hcp' : cp ≤ 9223372036854775807) (hb' : b.length ≤ 10000000000000) : Ct Tryz.prog 101 [.slice A b.length cp] [] [Pers.row Kd.u8 A b]
    (fun u G Q => ∃ (o : OpD) (n : Nat) (e : Int) (A1 : Option Addr) (c1 : Nat) (A2 : Option Addr) (c2 : Nat), (e = 0 → decOp b = some (o, n)) ∧ (n ≤ b.length ∧ (e ≠ 0 → decOp b = none)) ∧ (o.data.length ≤ 16777216 ∧ o.old.length ≤ 16777216) ∧ o.data.length ≤ c1 ∧ c1 ≤ 9223372036854775807 ∧ o.old.length ≤ c2 ∧ c2 ≤ 9223372036854775807 ∧ u = .tuple #[opD o A1 c1 A2 c2, .int .i64 (n : Int), .int .i64 e] ∧ G = [] ∧ Q = [Pers.row Kd.u8 A1 o.data, Pers.row Kd.u8 A2 o.old]) := by
 have hp4 : (256 : Nat) ^ 4 = 4294967296 := p256_4
 by_cases hq9 : 9 ≤ b.length
 ·have hv1 := valN_rng (b := b) (l := 1) (h := 1 + 4) (n := 4) (by omega) (by omega)
  have hv5 := valN_rng (b := b) (l := 5) (h := 5 + 4) (n := 4) (by omega) (by omega)
  have g1 : getV b 1 4 = valN (seg b 1 (1 + 4)) := if_pos (by omega)
  have g5 : getV b 5 4 = valN (seg b 5 (5 + 4)) := if_pos (by omega)
  refine Ct.intro Tryz.func101 rfl rfl rfl (fun c hc => ?_)
  refine GC.sr_ ?_;refine GL.step rfl (t_alloc rfl ze_27) (GL.ex fun b_t2 => ?_);refine GL.rz 2 ?_;refine GC.seq' ?_;refine GC.sr_ ?_;refine GL.know (q := Pers.row Kd.u8 none []) (fun _ _ _ => .inl rfl) ?_;refine GL.rz 3 ?_
  refine GC.co ?_ ?_
  ·intro h1; try simp only [tst_] at h1
   exfalso; omega
  intro h1; try simp only [tst_] at h1
  refine GC.skip (?_ : GC _ _ _ _)
  refine GC.rr 1 ?_;refine GL.cl Tryz.call98 [] [1] rfl rfl rfl (by exact rget_ct _ b _ 1 4 (by omega) (by omega) hb (by omega) (by omega)) ?_
  rintro _ _ _ ⟨rfl, rfl, rfl⟩
  refine GL.rz 7 ?_;refine GC.rr 1 ?_;refine GL.cl Tryz.call98 [] [1] rfl rfl rfl (by exact rget_ct _ b _ 5 4 (by omega) (by omega) hb (by omega) (by omega)) ?_
  rintro _ _ _ ⟨rfl, rfl, rfl⟩
  refine GL.rz 7 ?_;refine GC.rr 1 ?_;refine GL.cl Tryz.call136 [] [1] rfl rfl rfl (by exact rgtx_ct _ b _ 9 hb hcp' hb' (by omega)) ?_
  rintro _ _ _ ⟨x35, n35, e35, A35, c35, hs35, l35, k35, rfl, rfl, rfl⟩
  refine GL.rz 7 ?_;refine GC.seq' ?_;refine GC.rg 2 ?_;refine GC.co ?_ ?_
  ·intro h2; try simp only [tst_] at h2
   refine GC.sr_ ?_;refine GL.pure rfl (p_build ze_27 of_27 rfl rfl) ?_;refine GL.rn 1 ?_;refine GL.cl Tryz.call137 [] [] rfl rfl rfl (by exact rbrk_ct _) ?_
   rintro _ _ _ ⟨e43, rfl, hn43, rfl, rfl⟩
   refine GL.sn_ 0 ?_;refine GL.rz 2 ?_;refine GC.ret (Fin.c2 2 27 3 4 0 5 [] [1, 1] ?_)
   exact ⟨zop, 0, _, none, 0, none, 0, fun h => absurd h (hn43 (by omega)), ⟨by omega, fun _ => decOp_no fun o u h => by obtain ⟨_, t, f1, _⟩ := decOp_inv h; rw [hs35] at f1; have := (inj3 f1).2.2; omega⟩, by simp [zop], by simp [zop], by omega, by simp [zop], by omega, rfl, rfl, rfl⟩
  intro h2; try simp only [tst_] at h2
  refine GC.skip (?_ : GC _ _ _ _)
  refine GC.rr 2 ?_;refine GL.cl Tryz.call136 [] [2] rfl rfl rfl (by exact rgtx_ct _ b _ n35 hb hcp' hb' (txF_rng hs35 (by omega)).1) ?_
  rintro _ _ _ ⟨x47, n47, e47, A47, c47, hs47, l47, k47, rfl, rfl, rfl⟩
  refine GL.rz 7 ?_;refine GC.seq' ?_;refine GC.rg 2 ?_;refine GC.co ?_ ?_
  ·intro h3; try simp only [tst_] at h3
   refine GC.sr_ ?_;refine GL.pure rfl (p_build ze_27 of_27 rfl rfl) ?_;refine GL.rn 1 ?_;refine GL.cl Tryz.call137 [] [] rfl rfl rfl (by exact rbrk_ct _) ?_
   rintro _ _ _ ⟨e55, rfl, hn55, rfl, rfl⟩
   refine GL.sn_ 0 ?_;refine GL.rz 2 ?_;refine GC.ret (Fin.c2 2 27 3 4 0 5 [] [2, 2] ?_)
   exact ⟨zop, 0, _, none, 0, none, 0, fun h => absurd h (hn55 (by omega)), ⟨by omega, fun _ => decOp_no fun o u h => by obtain ⟨_, t, f1, f2, _⟩ := decOp_inv h; rw [hs35] at f1; obtain rfl := (inj3 f1).2.1; rw [hs47] at f2; have := (inj3 f2).2.2; omega⟩, by simp [zop], by simp [zop], by omega, by simp [zop], by omega, rfl, rfl, rfl⟩
  intro h3; try simp only [tst_] at h3
  refine GC.skip (?_ : GC _ _ _ _)
  refine GC.rr 1 ?_;refine GL.step rfl (t_index (i := 3) rfl rfl rfl rfl Tryz.underlying25 sz_5 (by omega) (gt_ok (by omega) (by omega))) (GL.ex fun p_x57 => GL.ex fun r_x57 => GL.and fun ok_x57 => ?_)
  rcases r_x57 with _
  refine GL.step rfl (t_mem rfl (m_loadP (i := 0) rfl rfl ag_5 rfl)) ?_;refine GL.rn 1 ?_;refine GL.pure rfl (p_convR (t := 23) (r := ((getV b 1 4 : Nat) : Int)) (by rw [Tryz.underlying23]; simp) Tryz.underlying3 rfl (cvI (by omega) (by omega))) ?_
  refine GL.rn 1 ?_;refine GL.pure rfl (p_convR (t := 23) (r := ((getV b 5 4 : Nat) : Int)) (by rw [Tryz.underlying23]; simp) Tryz.underlying3 rfl (cvI (by omega) (by omega))) ?_
  refine GL.rn 2 ?_;refine GL.pure rfl (p_build ze_27 of_27 rfl rfl) ?_;refine GL.step rfl (t_alloc rfl ze_27) (GL.ex fun b_t16 => ?_);refine GL.sn_ 0 ?_;refine GL.nl_ ?_;refine GC.seq' ?_;refine GC.sr_ ?_;refine GL.ln_ 0 5 ?_
  refine GL.cl Tryz.call28 [] [] rfl rfl rfl (by exact formR_ct _ _ _ _ x35.length _ _ x47.length _ (by have := (txF_rng hs35 (by omega)).2; omega) (by have := (txF_rng hs47 (by omega)).2; omega)) ?_
  rintro _ _ _ ⟨rfl, rfl, rfl⟩
  refine GL.rz 1 ?_;refine GC.co ?_ ?_
  ·intro h4; try simp only [tst_] at h4
   refine GC.sr_ ?_;refine GL.pure rfl (p_build ze_27 of_27 rfl rfl) ?_;refine GL.sn_ 1 ?_;refine GL.rz 2 ?_;refine GC.ret (Fin.c2 2 27 3 4 1 5 [] [3, 3] ?_)
   exact ⟨zop, 0, 42, none, 0, none, 0, fun h => absurd h (by decide), ⟨by omega, fun _ => decOp_no fun o u h => by obtain ⟨_, t, f1, f2, f3, f4, f5, f6⟩ := decOp_inv h; rw [hs35] at f1; obtain ⟨f7, rfl, _⟩ := inj3 f1; rw [hs47] at f2; have f8 := (inj3 f2).1; rw [f3, f4, f5, ← f7, ← f8] at f6; contradiction⟩, by simp [zop], by simp [zop], by omega, by simp [zop], by omega, rfl, rfl, rfl⟩
  intro h4; try simp only [tst_] at h4
  refine GC.skip (?_ : GC _ _ _ _)
  refine GC.sr_ ?_;refine GL.ln_ 0 5 ?_;refine GL.rn 1 ?_;refine GL.sn_ 1 ?_;refine GL.rz 2 ?_;refine GC.ret (Fin.c2 2 27 3 4 1 5 [] [2, 1] ?_)
  have z35 : e35 = 0 := by omega
  have z47 : e47 = 0 := by omega
  subst z35 z47
  exact ⟨⟨((gt b 0).toNat : Int), ((getV b 1 4 : Nat) : Int), ((getV b 5 4 : Nat) : Int), x35, x47⟩, n47, 0, A35, c35, A47, c47, fun _ => decOp_mk hq9 hs35 hs47 (by assumption), ⟨(txF_rng hs47 rfl).1, fun h => absurd rfl h⟩, ⟨(txF_rng hs35 rfl).2, (txF_rng hs47 rfl).2⟩, l35, k35, l47, k47, rfl, rfl, rfl⟩
 skip
 refine Ct.intro Tryz.func101 rfl rfl rfl (fun c hc => ?_)
 refine GC.sr_ ?_;refine GL.step rfl (t_alloc rfl ze_27) (GL.ex fun b_t2 => ?_);refine GL.rz 2 ?_;refine GC.seq' ?_;refine GC.sr_ ?_;refine GL.know (q := Pers.row Kd.u8 none []) (fun _ _ _ => .inl rfl) ?_;refine GL.rz 3 ?_
 refine GC.co ?_ ?_
 ·intro h1; try simp only [tst_] at h1
  refine GC.sr_ ?_;refine GL.pure rfl (p_build ze_27 of_27 rfl rfl) ?_;refine GL.sn_ 0 ?_;refine GL.rz 2 ?_;refine GC.ret (Fin.c2 2 27 3 4 0 5 [] [0, 0] ?_)
  exact ⟨zop, 0, 10, none, 0, none, 0, fun h => absurd h (by decide), ⟨by omega, fun _ => decOp_no fun o u h => hq9 (decOp_inv h).1⟩, by simp [zop], by simp [zop], by omega, by simp [zop], by omega, rfl, rfl, rfl⟩
 intro h1; try simp only [tst_] at h1
 exfalso; omega
theorem rdres_ct (A : Option Addr) (b : List UInt8) (cp : Nat) (hb : b.length ≤ cp) (hcp' : cp ≤ 9223372036854775807) (hb' : b.length ≤ 10000000000000) : Ct Tryz.prog 102 [.slice A b.length cp] [] [Pers.row Kd.u8 A b]
    (fun u G Q => ∃ (o : Res) (n : Nat) (e : Int) (A1 : Option Addr) (c1 : Nat), (e = 0 → decRes b = some (o, n)) ∧ (n ≤ b.length ∧ (e ≠ 0 → decRes b = none)) ∧ o.data.length ≤ 16777216 ∧ o.data.length ≤ c1 ∧ c1 ≤ 9223372036854775807 ∧ u = .tuple #[.agg #[.int .u8 o.code, .slice A1 o.data.length c1], .int .i64 (n : Int), .int .i64 e] ∧ G = [] ∧ Q = [Pers.row Kd.u8 A1 o.data]) := by
 refine Ct.intro Tryz.func102 rfl rfl rfl (fun c hc => ?_)
 refine GC.sr_ ?_;refine GL.step rfl (t_alloc rfl ze_30) (GL.ex fun b_t2 => ?_);refine GL.rz 2 ?_;refine GC.seq' ?_;refine GC.sr_ ?_;refine GL.know (q := Pers.row Kd.u8 none []) (fun _ _ _ => .inl rfl) ?_;refine GL.rz 3 ?_
 refine GC.co ?_ ?_
 ·intro h1; try simp only [tst_, resE_iff'] at h1
  refine GC.sr_ ?_;refine GL.pure rfl (p_build ze_30 of_30 rfl rfl) ?_;refine GL.sn_ 0 ?_;refine GL.rz 2 ?_;refine GC.ret (Fin.c2 2 30 3 4 0 2 [] [0] ?_)
  exact ⟨rz, 0, 10, none, 0, fun h => absurd h (by decide), ⟨by omega, fun _ => decRes_no fun o u h => by have := (decRes_inv h).1; omega⟩, by simp [rz], by simp [rz], by omega, rfl, rfl, rfl⟩
 intro h1; try simp only [tst_, resE_iff'] at h1
 refine GC.skip (?_ : GC _ _ _ _)
 refine GC.rr 1 ?_;refine GL.cl Tryz.call136 [] [1] rfl rfl rfl (by exact rgtx_ct _ b _ 1 hb hcp' hb' (by omega)) ?_
 rintro _ _ _ ⟨x15, n15, e15, A15, c15, hs15, l15, k15, rfl, rfl, rfl⟩
 refine GL.rz 7 ?_;refine GC.seq' ?_;refine GC.rg 2 ?_;refine GC.co ?_ ?_
 ·intro h2; try simp only [tst_, resE_iff'] at h2
  refine GC.sr_ ?_;refine GL.pure rfl (p_build ze_30 of_30 rfl rfl) ?_;refine GL.rn 1 ?_;refine GL.cl Tryz.call137 [] [] rfl rfl rfl (by exact rbrk_ct _) ?_
  rintro _ _ _ ⟨e23, rfl, hn23, rfl, rfl⟩
  refine GL.sn_ 0 ?_;refine GL.rz 2 ?_;refine GC.ret (Fin.c2 2 30 3 4 0 2 [] [1] ?_)
  exact ⟨rz, 0, _, none, 0, fun h => absurd h (hn23 (by omega)), ⟨by omega, fun _ => decRes_no fun o u h => by have f1 := (decRes_inv h).2.1; rw [hs15] at f1; have := (inj3 f1).2.2; omega⟩, by simp [rz], by simp [rz], by omega, rfl, rfl, rfl⟩
 intro h2; try simp only [tst_, resE_iff'] at h2
 refine GC.skip (?_ : GC _ _ _ _)
 refine GC.rr 1 ?_;refine GL.step rfl (t_index (i := 2) rfl rfl rfl rfl Tryz.underlying25 sz_5 (by omega) (gt_ok (by omega) (by omega))) (GL.ex fun p_x25 => GL.ex fun r_x25 => GL.and fun ok_x25 => ?_)
 rcases r_x25 with _
 refine GL.step rfl (t_mem rfl (m_loadP (i := 0) rfl rfl ag_5 rfl)) ?_;refine GL.rn 1 ?_;refine GL.pure rfl (p_build ze_30 of_30 rfl rfl) ?_;refine GL.step rfl (t_alloc rfl ze_30) (GL.ex fun b_t8 => ?_);refine GL.sn_ 0 ?_
 refine GL.nl_ ?_;refine GC.seq' ?_;refine GC.sr_ ?_;refine GL.ln_ 0 2 ?_;refine GL.cl Tryz.call30 [] [] rfl rfl rfl (by exact rres_ct _ _ x15.length _) ?_
 rintro _ _ _ ⟨rfl, rfl, rfl⟩
 refine GL.rz 1 ?_;refine GC.co ?_ ?_
 ·intro h3; try simp only [tst_, resE_iff'] at h3
  refine GC.sr_ ?_;refine GL.pure rfl (p_build ze_30 of_30 rfl rfl) ?_;refine GL.sn_ 1 ?_;refine GL.rz 2 ?_;refine GC.ret (Fin.c2 2 30 3 4 1 2 [] [2] ?_)
  exact ⟨rz, 0, 42, none, 0, fun h => absurd h (by decide), ⟨by omega, fun _ => decRes_no fun o u h => by obtain ⟨_, f1, f2, f3⟩ := decRes_inv h; rw [hs15] at f1; rw [f2, ← (inj3 f1).1] at f3; simp_all⟩, by simp [rz], by simp [rz], by omega, rfl, rfl, rfl⟩
 intro h3; try simp only [tst_, resE_iff'] at h3
 refine GC.skip (?_ : GC _ _ _ _)
 refine GC.sr_ ?_;refine GL.ln_ 0 2 ?_;refine GL.rn 1 ?_;refine GL.sn_ 1 ?_;refine GL.rz 2 ?_;refine GC.ret (Fin.c2 2 30 3 4 1 2 [] [1] ?_)
 have z15 : e15 = 0 := by omega
 subst z15
 exact ⟨⟨((gt b 0).toNat : Int), x15⟩, n15, 0, A15, c15, fun _ => decRes_mk (by omega) hs15 (by simp_all), ⟨(txF_rng hs15 rfl).1, fun h => absurd rfl h⟩, (txF_rng hs15 rfl).2, l15, k15, rfl, rfl, rfl⟩
abbrev Rd {α : Type} (E k : Int) (f : Option α) (r : α) : Prop := (k = 0 → E = 0 ∧ f = some r) ∧ (k ≠ 0 → E ≠ 0 ∨ f = none)
theorem Rd.bind {α β : Type} {E k k2 : Int} {f : Option α} {r : α} {g : α → Option β} {s : β} (h : Rd E k f r) (h2 : Rd k k2 (g r) s) : Rd E k2 (f.bind g) s := by
  refine ⟨fun h0 => ?_, fun h0 => ?_⟩
  · obtain ⟨a, b⟩ := h2.1 h0
    obtain ⟨c, d⟩ := h.1 a
    exact ⟨c, by rw [d]; exact b⟩
  · by_cases hk : k = 0
    · have d := (h.1 hk).2
      rcases h2.2 h0 with g1 | g1
      · exact absurd hk g1
      · exact .inr (by rw [d]; exact g1)
    · rcases h.2 hk with g1 | g1
      · exact .inl g1
      · exact .inr (by rw [g1]; rfl)
theorem Rd.map {α β : Type} {E k : Int} {f : Option α} {r : α} (g : α → β) (h : Rd E k f r) : Rd E k (f.map g) (g r) :=
  ⟨fun h0 => ⟨(h.1 h0).1, by rw [(h.1 h0).2]; rfl⟩, fun h0 => (h.2 h0).imp id fun g1 => by rw [g1]; rfl⟩
theorem r7num_ct (p e_ : Nat) (A : Option Addr) (b : List UInt8) (cp at_ : Nat) (E : Int) (n : Nat) (hn : 1 ≤ n) (hn' : n ≤ 8) (hb : b.length ≤ cp) (hb' : b.length ≤ 10000000000000) (hat : at_ ≤ b.length) : Ct Tryz.prog 138 [.pointer (some ⟨p, 0, none⟩), .int .i64 (n : Int)] (bleftG p e_ A b cp at_ E) [Pers.row Kd.u8 A b]
    (fun u G Q => ∃ (v : Int) (t : Nat) (k : Int), Rd E k (mnumF b at_ n) (v, t) ∧ (t ≤ b.length ∧ -1 ≤ v ∧ v ≤ 4611686018427387904) ∧ u = .int .i64 v ∧ G = bleftG p e_ A b cp t k ∧ Q = []) := by
 refine Ct.intro Tryz.func138 rfl rfl rfl (fun c hc => ?_)
 refine GC.rg 1 ?_;refine GC.seq' ?_;refine GC.rr 3 ?_;refine GL.ld_ 0 ?_;refine GL.rz 1 ?_;refine GC.co ?_ ?_
 ·intro h1; try simp only [tst_] at h1
  refine GC.rg 1 ?_;refine GC.ret (Fin.b1 4 [0] [] ?_)
  exact ⟨0, at_, E, ⟨fun h => absurd h (by assumption), fun h => .inl h⟩, ⟨hat, by omega, by omega⟩, rfl, rfl, rfl⟩
 intro h1; try simp only [tst_] at h1
 refine GC.skip (?_ : GC _ _ _ _)
 refine GC.seq' ?_;refine GC.regionQ wide_ (by kernel_rfl) ?_;refine GQ.rn 3 ?_;refine GQ.step rfl (q_mem (m_load (i := 0) rfl rfl ag_25 rfl)) ?_;refine GQ.rn 3 ?_;refine GQ.step rfl (q_mem (m_load (i := 0) rfl rfl ag_3 rfl)) ?_
 refine GQ.rn 1 ?_;refine GQ.step rfl (q_call Tryz.call98 rfl (js := [0]) rfl (by exact rget_ct _ b _ at_ n hn hn' hb (by omega) hat)) ?_;refine GQ.rn 7 ?_
 refine GQ.nil (?_ : GC _ _ _ _)
 refine GC.seq' ?_;refine GC.rg 2 ?_;refine GC.co ?_ ?_
 ·intro h2; try simp only [tst_] at h2
  refine GC.rr 4 ?_;refine GL.so_ 0 ?_;refine GL.nr 1 ?_;refine GL.nl_ ?_;refine GC.ret (Fin.b1 4 [0] [] ?_)
  exact ⟨0, at_, _, ⟨fun h => absurd h (by assumption), fun h => .inr (by rw [mnumF, if_neg (fun hq => h (if_pos hq))])⟩, ⟨hat, by omega, by omega⟩, rfl, rfl, rfl⟩
 intro h2; try simp only [tst_] at h2
 refine GC.skip (?_ : GC _ _ _ _)
 refine GC.rr 4 ?_;refine GL.so_ 0 ?_;refine GL.nl_ ?_;refine GC.seq' ?_;refine GC.rg 2 ?_;refine GC.co ?_ ?_
 ·intro h3; try simp only [tst_] at h3
  refine GC.rg 1 ?_;refine GC.ret (Fin.b1 4 [0] [] ?_)
  have e0 : E = 0 := by omega
  have hq := getE_zero (b := b) (at_ := at_) (n := n) (by omega)
  subst e0
  exact ⟨-1, _, 0, ⟨fun _ => ⟨rfl, by rw [mnumF, if_pos hq, if_pos (by assumption)]⟩, fun h => absurd rfl h⟩, ⟨by rw [getX, if_pos hq]; exact hq, by omega, by omega⟩, rfl, rfl, rfl⟩
 intro h3; try simp only [tst_] at h3
 refine GC.skip (?_ : GC _ _ _ _)
 refine GC.rr 1 ?_;refine GL.pure rfl (p_convR (t := 23) (r := ((getV b at_ n : Nat) : Int)) (by rw [Tryz.underlying23]; simp) Tryz.underlying3 rfl (cvI (by omega) (by omega))) ?_
 refine GL.rz 1 ?_;refine GC.ret (Fin.b1 4 [0] [] ?_)
 have e0 : E = 0 := by omega
 have hq := getE_zero (b := b) (at_ := at_) (n := n) (by omega)
 subst e0
 exact ⟨_, _, 0, ⟨fun _ => ⟨rfl, by rw [mnumF, if_pos hq, if_neg (by omega)]⟩, fun h => absurd rfl h⟩, ⟨by rw [getX, if_pos hq]; exact hq, by omega, by omega⟩, rfl, rfl, rfl⟩
theorem zq78_ {X : Prop} (h : X := by (exact ⟨[], at_, _, none, 0, ⟨fun h => by first | omega | (exfalso; revert h; decide), fun h => .inr (by rw [mtxF, hs20]; exact if_neg (by assumption))⟩, ⟨hat, by simp⟩, by simp, by omega, rfl, rfl, rfl⟩)) : X := h
theorem r7txt_ct (p e_ : Nat) (A : Option Addr) (b : List UInt8) (cp at_ : Nat) (E : Int) (hb : b.length ≤ cp) (hcp' : cp ≤ 9223372036854775807) (hb' : b.length ≤ 10000000000000) (hat : at_ ≤ b.length) : Ct Tryz.prog 139 [.pointer (some ⟨p, 0, none⟩)] (bleftG p e_ A b cp at_ E) [Pers.row Kd.u8 A b]
    (fun u G Q => ∃ (x : List UInt8) (t : Nat) (k : Int) (A' : Option Addr) (c' : Nat), Rd E k (mtxF b at_) (x, t) ∧ (t ≤ b.length ∧ x.length ≤ 16777216) ∧ x.length ≤ c' ∧ c' ≤ 9223372036854775807 ∧ u = .slice A' x.length c' ∧ G = bleftG p e_ A b cp t k ∧ Q = [Pers.row Kd.u8 A' x]) := by
 refine Ct.intro Tryz.func139 rfl rfl rfl (fun c hc => ?_)
 refine GC.rg 1 ?_;refine GC.seq' ?_;refine GC.sr_ ?_;refine GL.know (q := Pers.row Kd.u8 none []) (fun _ _ _ => .inl rfl) ?_;refine GL.rn 3 ?_;refine GL.ld_ 0 ?_;refine GL.rz 1 ?_;refine GC.co ?_ ?_
 ·intro h1; try simp only [tst_] at h1
  refine GC.rg 1 ?_;refine GC.ret (Fin.b1 2 [0] [0] ?_)
  exact ⟨[], at_, E, none, 0, ⟨fun h => absurd h (by assumption), fun h => .inl h⟩, ⟨hat, by simp⟩, by simp, by omega, rfl, rfl, rfl⟩
 intro h1; try simp only [tst_] at h1
 refine GC.skip (?_ : GC _ _ _ _)
 refine GC.seq' ?_;refine GC.regionC (m := 16) (is := [0]) (js := [0, 1]) wide_ rfl rfl rfl ?_;refine GA.tk 0 [0] [0, 1] ?_;refine GA.tk 1 [0] [0, 1] ?_;refine GA.tk 2 [0] [0, 1] ?_;refine GA.tp 3 rfl [0] [0, 1] (i_mem (m_load (i := 0) rfl rfl ag_25 rfl)) ?_
 refine GA.tk 4 [0] [0, 1] ?_;refine GA.tk 5 [0] [0, 1] ?_;refine GA.tk 6 [0] [0, 1] ?_;refine GA.tp 7 rfl [0] [0, 1] (i_mem (m_load (i := 0) rfl rfl ag_3 rfl)) ?_;refine GA.al [8] ?_
 refine GAs.cons (i := 8) rfl rfl (t_call rfl Tryz.call136 rfl (is := []) (js := [1]) rfl rfl (by exact rgtx_ct _ b _ at_ hb hcp' hb' hat)) (by rintro a w ⟨_, _, _, ⟨x20, n20, e20, A20, c20, hs20, l20, k20, rfl, rfl, rfl⟩, h⟩; exact h.me [0] [1, 2]) (GA.ret ?_) GAs.nil
 rintro _ _ _ ⟨x20, n20, e20, A20, c20, hs20, l20, k20, rfl, rfl, rfl⟩
 refine GA.tk 9 [0] [1, 2] ?_;refine GA.tk 10 [0] [1, 2] ?_;refine GA.tk 11 [0] [1, 2] ?_;refine GA.tk 12 [0] [1, 2] ?_;refine GA.tk 13 [0] [1, 2] ?_;refine GA.tk 14 [0] [1, 2] ?_;refine GA.tk 15 [0] [1, 2] ?_
 refine GA.done (by kernel_rfl) (?_ : GC _ _ _ _)
 refine GC.seq' ?_;refine GC.rg 2 ?_;refine GC.co ?_ ?_
 ·intro h2; try simp only [tst_] at h2
  refine GC.rr 3 ?_;refine GL.so_ 0 ?_;refine GL.nl_ ?_;refine GC.seq' ?_;refine GC.rg 2 ?_;refine GC.co ?_ ?_
  ·intro h3; try simp only [tst_] at h3
   refine GC.region ?_;refine GL.rn 4 ?_;refine GL.so_ 0 ?_
   refine GL.nil (?_ : GC _ _ _ _)
   refine GC.rg 1 ?_;refine GC.ret (Fin.b1 2 [0] [1] ?_)
   exact zq78_
  intro h3; try simp only [tst_] at h3
  refine GC.skip (?_ : GC _ _ _ _)
  refine GC.rg 1 ?_;refine GC.ret (Fin.b1 2 [0] [1] ?_)
  exact zq78_
 intro h2; try simp only [tst_] at h2
 refine GC.skip (?_ : GC _ _ _ _)
 refine GC.rr 4 ?_;refine GL.so_ 0 ?_;refine GL.nr 2 ?_;refine GL.nl_ ?_;refine GC.ret (Fin.b1 2 [0] [0] ?_)
 have e0 : E = 0 := by omega
 have z20 : e20 = 0 := by omega
 subst e0 z20
 exact ⟨_, _, 0, _, _, ⟨fun _ => ⟨rfl, by rw [mtxF, hs20]; rfl⟩, fun h => absurd rfl h⟩, txF_rng hs20 rfl, l20, k20, rfl, rfl, rfl⟩
theorem rg_rng {k10 v10 E1 : Int} {k : Nat} {X : Prop} (hc : k10 = 0 → 0 ≤ v10 ∧ v10 < 256) (h1 : E1 = 0 → k10 = 0 ∧ X) (e1 : E1 = 0) (hk : (k : Int) < v10) : k + 1 = 0 ∨ (((k + 1 : Nat) : Int) ≤ v10 ∧ v10 < 256) := by
  have := hc (h1 e1).1; omega
theorem rg_fin {b : List UInt8} {k10 v10 E1 : Int} {t10 t k : Nat} {xs : List Int} (hc : k10 = 0 → 0 ≤ v10 ∧ v10 < 256) (hb : k = 0 ∨ ((k : Int) ≤ v10 ∧ v10 < 256)) (h1 : (E1 = 0 → k10 = 0 ∧ manyF (fun t => mnumF b t 1) t10 k = some (xs, t)) ∧ (E1 ≠ 0 → k10 ≠ 0 ∨ manyF (fun t => mnumF b t 1) t10 v10.toNat = none)) (hx : E1 = 0 → v10 ≤ (k : Int)) : Rd k10 E1 (manyF (fun t => mnumF b t 1) t10 v10.toNat) (xs, t) :=
  ⟨fun h => by obtain ⟨f1, f2⟩ := h1.1 h; have := hc f1; have := hx h; rw [show v10.toNat = k by omega]; exact ⟨f1, f2⟩, h1.2⟩
theorem zq79_ {X : Prop} (h : X := by (exact fun a w h => ⟨(k + 1), (xs ++ [v26]), (_), (t26), (k26), (by omega), ⟨⟨by simp; omega, by omega⟩, rg_rng hc12 hk.2.2.1 (by assumption) (by assumption), fun h => ⟨(hk.2.2.1 (hs26.1 h).1).1, manyF_next (hk.2.2.1 (hs26.1 h).1).2 (hs26.1 h).2⟩, fun h => (hs26.2 h).elim (fun g => absurd (by assumption) g) (fun g => .inr (manyF_fail (hk.2.2.1 (by assumption)).2 g (by omega)))⟩, h.cut (is := [1, 1, 1, 1]) (js := [0]) ⟨rfl, rfl, rfl, rfl, rfl, trivial⟩ rfl rfl⟩)) : X := h
theorem zq80_ {X : Prop} (h : X := by (exact ⟨⟨v7, xs⟩, t, E1, _, _, by unfold mgrpF; exact Rd.bind hs7 (Rd.bind hs10 (Rd.map (fun r : List Int × Nat => ((⟨v7, r.1⟩ : Grp), r.2)) (rg_fin hc12 hk.2.1 hk.2.2 (by omega)))), ⟨hk.1.2, by have := hk.1.1; have := hk.2.1; show xs.length ≤ 255; omega⟩, l_M, k_M, rfl, rfl, rfl⟩)) : X := h
theorem r7gp_ct (p e_ : Nat) (A : Option Addr) (b : List UInt8) (cp at_ : Nat) (E : Int) (hb : b.length ≤ cp) (hb' : b.length ≤ 10000000000000) (hat : at_ ≤ b.length) : Ct Tryz.prog 141 [.pointer (some ⟨p, 0, none⟩)] (bleftG p e_ A b cp at_ E) [Pers.row Kd.u8 A b]
    (fun u G Q => ∃ (g : Grp) (t : Nat) (k : Int) (A' : Option Addr) (c' : Nat), Rd E k (mgrpF b at_) (g, t) ∧ (t ≤ b.length ∧ g.members.length ≤ 255) ∧ g.members.length ≤ c' ∧ c' ≤ 9223372036854775807 ∧ u = .agg #[.int .i64 g.epoch, .slice A' g.members.length c'] ∧ G = bleftG p e_ A b cp t k ∧ Q = [Pers.row kI A' g.members]) := by
 have hp1 : (256 : Nat) ^ 1 = 256 := p256_1
 refine Ct.intro Tryz.func141 rfl rfl rfl (fun c hc => ?_)
 refine GC.sr_ ?_;refine GL.step rfl (t_alloc rfl ze_33) (GL.ex fun b_t2 => ?_);refine GL.nr 1 ?_;refine GL.cl Tryz.call138 [1] [0] rfl rfl rfl (by exact r7num_ct _ _ _ b _ at_ E 8 (by omega) (by omega) (by omega) (by omega) (by omega)) ?_
 rintro _ _ _ ⟨v7, t7, k7, hs7, ⟨ht7, hv7, hw7⟩, rfl, rfl, rfl⟩
 refine GL.pure rfl (p_build ze_33 of_33 rfl rfl) ?_;refine GL.step rfl (t_alloc rfl ze_33) (GL.ex fun b_t3 => ?_);refine GL.sn_ 0 ?_;refine GL.nr 1 ?_;refine GL.cl Tryz.call138 [1] [0] rfl rfl rfl (by exact r7num_ct _ _ _ b _ t7 k7 1 (by omega) (by omega) (by omega) (by omega) (by omega)) ?_
 rintro _ _ _ ⟨v10, t10, k10, hs10, ⟨ht10, hv10, hw10⟩, rfl, rfl, rfl⟩
 refine GL.rz 1 ?_;refine GC.seq' ?_;refine GC.sr_ ?_
 have hc12 : k10 = 0 → 0 ≤ v10 ∧ v10 < 256 := fun h => by have f := (hs10.1 h).2; have := mnumF_pos f (by omega); have := (mnumF_rng f).2.2.2.2; omega
 refine GL.nilrow 3 1 ?_;refine GL.rz 1 ?_;refine GC.block ?_;refine GC.loopK5 (ks := [0, 2, 3, 4]) (is := [3]) (js := [0]) (fun (k : Nat) (xs : List Int) (U : Value) (t : Nat) (E1 : Int) => (xs.length = k ∧ t ≤ b.length) ∧ (k = 0 ∨ ((k : Int) ≤ v10 ∧ v10 < 256)) ∧ (E1 = 0 → k10 = 0 ∧ manyF (fun t => mnumF b t 1) t10 k = some (xs, t)) ∧ (E1 ≠ 0 → k10 ≠ 0 ∨ manyF (fun t => mnumF b t 1) t10 v10.toNat = none)) (fun (k : Nat) (xs : List Int) (U : Value) (t : Nat) (E1 : Int) => [(5, .int .i64 (k : Int))]) (fun (k : Nat) (xs : List Int) (U : Value) (t : Nat) (E1 : Int) => [.cells p [.slice A b.length cp, .int .i64 (t : Int), .int .i64 E1] e_, .cells b_t3 [.int .i64 v7, U] 33, .row U 3 1 xs.length (xs.map (Value.int .i64))]) (fun (k : Nat) (xs : List Int) (U : Value) (t : Nat) (E1 : Int) => []) (fun (k : Nat) (xs : List Int) (U : Value) (t : Nat) (E1 : Int) => v10.toNat - k) (0) ([]) (_) (t10) (k10) rfl rfl rfl (fun a w h => ⟨⟨⟨rfl, by omega⟩, .inl rfl, fun h => ⟨h, rfl⟩, fun h => .inl h⟩, h.cutK (is := [1, 1, 0, 0]) (js := [0]) (ks := [0, 2, 3, 4]) ⟨rfl, trivial⟩ rfl rfl rfl⟩) ?_
 intro k xs U t E1 hk
 try dsimp only [List.cons_append, List.nil_append] at hk ⊢
 refine GC.seq' ?_;refine GC.rr 4 ?_;refine GL.sp 14 ?_ ?_
 ·intro h1; try simp only [tst_] at h1
  refine GL.rn 3 ?_;refine GL.dg_ 0 ?_;refine GL.rz 2 ?_;refine GC.co ?_ ?_
  ·intro h2; try simp only [tst_] at h2
   refine GC.skip (?_ : GC _ _ _ _)
   refine GC.seq' ?_;refine GC.block ?_;refine GC.regionC (m := 8) (is := [3]) (js := [0]) wide_ rfl rfl rfl ?_;refine GA.tk 0 [3] [0] ?_;refine GA.tk 2 [3] [0] ?_;refine GA.al [1, 3] ?_
   refine GAs.cons (i := 1) rfl rfl (t_mem rfl (m_load (i := 1) rfl rfl ag_31 rfl)) (by rintro a w h; exact h.me [3] [0]) ?_ ?_
   ·refine GA.al [3] ?_
    refine GAs.cons (i := 3) rfl rfl (t_call rfl Tryz.call138 rfl (is := [0]) (js := [0]) rfl rfl (by exact r7num_ct _ _ _ b _ t E1 1 (by omega) (by omega) (by omega) (by omega) (by omega))) (by rintro a w ⟨_, _, _, ⟨v26, t26, k26, hs26, ⟨ht26, hv26, hw26⟩, rfl, rfl, rfl⟩, h⟩; exact h.me [3] [0]) (GA.ret ?_) GAs.nil
    rintro _ _ _ ⟨v26, t26, k26, hs26, ⟨ht26, hv26, hw26⟩, rfl, rfl, rfl⟩
    refine GA.al [4] ?_
    refine GAs.cons (i := 4) rfl rfl (t_buildSlice rfl Tryz.underlying31 sz_3 ze_3 rfl rfl rfl rfl rfl rfl) (by rintro a w ⟨_, h⟩; exact h.me [4] [0]) (GA.ex fun b_t27 => ?_) GAs.nil
    refine GA.al [5] ?_
    refine GAs.cons (i := 5) rfl rfl (t_append (i := 3) (k := 0) rfl el_31 rfl rfl rfl rfl rfl (allOne_mem rfl) (by have := hk.1.1; have := hk.2.1; omega) (fun _ => rfl)) (by rintro a w ⟨_, h⟩; exact h.me [4] [0]) (GA.ex fun v28 => ?_) GAs.nil
    refine GA.shape (i := 3) rfl (fun A_v28 c_v28 e_v28 l_v28 k_v28 => ?_)
    subst e_v28
    refine GA.tk 6 [4] [0] ?_;refine GA.al [7] ?_
    refine GAs.cons (i := 7) rfl rfl (t_store (i := 2) rfl rfl rfl rfl sz_31 rfl rfl rfl) (by rintro a w h; exact h.me [4] [0]) ?_ GAs.nil
    refine GA.done (by kernel_rfl) (?_ : GC _ _ _ _)
    refine GC.region ?_;refine GL.rowIs (i := 3) (m' := ((xs ++ [v26])).length) (cs' := ((xs ++ [v26])).map (Value.int .i64)) rfl (by first | rfl | (simp; done) | (simp; omega)) (by first | rfl | (simp; done)) rfl ?_
    refine GL.rn 1 ?_;refine GL.pure rfl (p_add rfl rfl (w64 (by omega) (by omega))) ?_;refine GL.rn 1 ?_;refine GL.nil ?_
    exact zq79_
   refine GAs.cons (i := 3) rfl rfl (t_call rfl Tryz.call138 rfl (is := [0]) (js := [0]) rfl rfl (by exact r7num_ct _ _ _ b _ t E1 1 (by omega) (by omega) (by omega) (by omega) (by omega))) (by rintro a w ⟨_, _, _, ⟨v26, t26, k26, hs26, ⟨ht26, hv26, hw26⟩, rfl, rfl, rfl⟩, h⟩; exact h.me [3] [0]) (GA.ret ?_) GAs.nil
   rintro _ _ _ ⟨v26, t26, k26, hs26, ⟨ht26, hv26, hw26⟩, rfl, rfl, rfl⟩
   refine GA.al [1, 4] ?_
   refine GAs.cons (i := 1) rfl rfl (t_mem rfl (m_load (i := 1) rfl rfl ag_31 rfl)) (by rintro a w h; exact h.me [3] [0]) ?_ ?_
   ·refine GA.al [4] ?_
    refine GAs.cons (i := 4) rfl rfl (t_buildSlice rfl Tryz.underlying31 sz_3 ze_3 rfl rfl rfl rfl rfl rfl) (by rintro a w ⟨_, h⟩; exact h.me [4] [0]) (GA.ex fun b_t27 => ?_) GAs.nil
    refine GA.al [5] ?_
    refine GAs.cons (i := 5) rfl rfl (t_append (i := 3) (k := 0) rfl el_31 rfl rfl rfl rfl rfl (allOne_mem rfl) (by have := hk.1.1; have := hk.2.1; omega) (fun _ => rfl)) (by rintro a w ⟨_, h⟩; exact h.me [4] [0]) (GA.ex fun v28 => ?_) GAs.nil
    refine GA.shape (i := 3) rfl (fun A_v28 c_v28 e_v28 l_v28 k_v28 => ?_)
    subst e_v28
    refine GA.tk 6 [4] [0] ?_;refine GA.al [7] ?_
    refine GAs.cons (i := 7) rfl rfl (t_store (i := 2) rfl rfl rfl rfl sz_31 rfl rfl rfl) (by rintro a w h; exact h.me [4] [0]) ?_ GAs.nil
    refine GA.done (by kernel_rfl) (?_ : GC _ _ _ _)
    refine GC.region ?_;refine GL.rowIs (i := 3) (m' := ((xs ++ [v26])).length) (cs' := ((xs ++ [v26])).map (Value.int .i64)) rfl (by first | rfl | (simp; done) | (simp; omega)) (by first | rfl | (simp; done)) rfl ?_
    refine GL.rn 1 ?_;refine GL.pure rfl (p_add rfl rfl (w64 (by omega) (by omega))) ?_;refine GL.rn 1 ?_;refine GL.nil ?_
    exact zq79_
   refine GAs.cons (i := 4) rfl rfl (t_buildSlice rfl Tryz.underlying31 sz_3 ze_3 rfl rfl rfl rfl rfl rfl) (by rintro a w ⟨_, h⟩; exact h.me [4] [0]) (GA.ex fun b_t27 => ?_) GAs.nil
   refine GA.al [1] ?_
   refine GAs.cons (i := 1) rfl rfl (t_mem rfl (m_load (i := 2) rfl rfl ag_31 rfl)) (by rintro a w h; exact h.me [4] [0]) ?_ GAs.nil
   refine GA.al [5] ?_
   refine GAs.cons (i := 5) rfl rfl (t_append (i := 3) (k := 0) rfl el_31 rfl rfl rfl rfl rfl (allOne_mem rfl) (by have := hk.1.1; have := hk.2.1; omega) (fun _ => rfl)) (by rintro a w ⟨_, h⟩; exact h.me [4] [0]) (GA.ex fun v28 => ?_) GAs.nil
   refine GA.shape (i := 3) rfl (fun A_v28 c_v28 e_v28 l_v28 k_v28 => ?_)
   subst e_v28
   refine GA.tk 6 [4] [0] ?_;refine GA.al [7] ?_
   refine GAs.cons (i := 7) rfl rfl (t_store (i := 2) rfl rfl rfl rfl sz_31 rfl rfl rfl) (by rintro a w h; exact h.me [4] [0]) ?_ GAs.nil
   refine GA.done (by kernel_rfl) (?_ : GC _ _ _ _)
   refine GC.region ?_;refine GL.rowIs (i := 3) (m' := ((xs ++ [v26])).length) (cs' := ((xs ++ [v26])).map (Value.int .i64)) rfl (by first | rfl | (simp; done) | (simp; omega)) (by first | rfl | (simp; done)) rfl ?_
   refine GL.rn 1 ?_;refine GL.pure rfl (p_add rfl rfl (w64 (by omega) (by omega))) ?_;refine GL.rn 1 ?_;refine GL.nil ?_
   exact zq79_
  intro h2; try simp only [tst_] at h2
  refine GC.exit (?_ : GC _ _ _ _)
  refine GC.sr_ ?_;refine GL.shape (i := 2) rfl (fun A_M c_M e_M l_M k_M => ?_)
  subst e_M
  refine GL.freezeI (i := 2) rfl ?_;refine GL.ln_ 1 2 ?_;refine GL.sn_ 2 ?_;refine GL.nl_ ?_;refine GC.ret (Fin.c0 2 33 2 2 [0] [0] ?_)
  exact zq80_
 intro h1; try simp only [tst_] at h1
 refine GL.rz 6 ?_;refine GC.cond_false rfl ?_
 refine GC.exit (?_ : GC _ _ _ _)
 refine GC.sr_ ?_;refine GL.shape (i := 2) rfl (fun A_M c_M e_M l_M k_M => ?_)
 subst e_M
 refine GL.freezeI (i := 2) rfl ?_;refine GL.ln_ 1 2 ?_;refine GL.sn_ 2 ?_;refine GL.nl_ ?_;refine GC.ret (Fin.c0 2 33 2 2 [0] [0] ?_)
 exact zq80_
def mopF (b : List UInt8) (t : Nat) : Option (OpD × Nat) := (decOp (seg b t b.length)).map fun o => (o.1, t + o.2)
def mreF (b : List UInt8) (t : Nat) : Option (Res × Nat) := (decRes (seg b t b.length)).map fun o => (o.1, t + o.2)
theorem zq81_ {X : Prop} (h : X := by (exact GA.done (by kernel_rfl) (fun a w h => ⟨_, _, _, _, _, _, _, _, ⟨hs22, hn22, hd22, l22, k22, m22, p22⟩, h.cut (is := [2, 1, 0]) (js := [0, 1, 4]) ⟨rfl, rfl, rfl, rfl, rfl, trivial⟩ rfl rfl⟩))) : X := h
theorem r7op_ct (p e_ : Nat) (A : Option Addr) (b : List UInt8) (cp at_ : Nat) (E : Int) (hb : b.length ≤ cp) (hcp' : cp ≤ 9223372036854775807) (hb' : b.length ≤ 10000000000000) (hat : at_ ≤ b.length) : Ct Tryz.prog 142 [.pointer (some ⟨p, 0, none⟩)] (bleftG p e_ A b cp at_ E) [Pers.row Kd.u8 A b]
    (fun u G Q => ∃ (o : OpD) (t : Nat) (k : Int) (A1 : Option Addr) (c1 : Nat) (A2 : Option Addr) (c2 : Nat), Rd E k (mopF b at_) (o, t) ∧ (t ≤ b.length ∧ o.data.length ≤ 16777216 ∧ o.old.length ≤ 16777216) ∧ o.data.length ≤ c1 ∧ c1 ≤ 9223372036854775807 ∧ o.old.length ≤ c2 ∧ c2 ≤ 9223372036854775807 ∧ u = opD o A1 c1 A2 c2 ∧ G = bleftG p e_ A b cp t k ∧ Q = [Pers.row Kd.u8 A1 o.data, Pers.row Kd.u8 A2 o.old]) := by
 refine Ct.intro Tryz.func142 rfl rfl rfl (fun c hc => ?_)
 refine GC.sr_ ?_;refine GL.step rfl (t_alloc rfl ze_27) (GL.ex fun b_t2 => ?_);refine GL.nl_ ?_;refine GC.seq' ?_;refine GC.sr_ ?_;refine GL.know (q := Pers.row Kd.u8 none []) (fun _ _ _ => .inl rfl) ?_;refine GL.rn 3 ?_
 refine GL.ld_ 1 ?_;refine GL.rz 1 ?_;refine GC.co ?_ ?_
 ·intro h1; try simp only [tst_] at h1
  refine GC.sr_ ?_;refine GL.pure rfl (p_build ze_27 of_27 rfl rfl) ?_;refine GL.sn_ 0 ?_;refine GL.nl_ ?_;refine GC.ret (Fin.c0 2 27 0 5 [1] [0, 0] ?_)
  exact ⟨zop, at_, E, none, 0, none, 0, ⟨fun h => absurd h (by assumption), fun h => .inl h⟩, ⟨hat, by simp [zop]⟩, by simp [zop], by omega, by simp [zop], by omega, rfl, rfl, rfl⟩
 intro h1; try simp only [tst_] at h1
 refine GC.skip (?_ : GC _ _ _ _)
 refine GC.seq' ?_;refine GC.regionM (m := 18) (M := fun a w => ∃ o22 : OpD, ∃ n22 : Nat, ∃ e22 : Int, ∃ A22 : Option Addr, ∃ c22 : Nat, ∃ B22 : Option Addr, ∃ d22 : Nat, ∃ b_t3 : Nat, ((e22 = 0 → decOp (seg b at_ b.length) = some (o22, n22)) ∧ (n22 ≤ (seg b at_ b.length).length ∧ (e22 ≠ 0 → decOp (seg b at_ b.length) = none)) ∧ (o22.data.length ≤ 16777216 ∧ o22.old.length ≤ 16777216) ∧ o22.data.length ≤ c22 ∧ c22 ≤ 9223372036854775807 ∧ o22.old.length ≤ d22 ∧ d22 ≤ 9223372036854775807) ∧ St c 40 [(0, .pointer (some ⟨p, 0, none⟩)), (2, .pointer (some ⟨b_t2, 0, none⟩)), (3, .pointer (some ⟨b_t3, 0, none⟩)), (4, .int .i64 (n22 : Int)), (5, .int .i64 e22)] [.cells p [.slice A b.length cp, .int .i64 (at_ : Int), .int .i64 E] e_, .cells b_t2 [.int .u8 0, .int .i64 0, .int .i64 0, .slice none 0 0, .slice none 0 0] 27, .cells b_t3 [.int .u8 o22.kind, .int .i64 o22.at_, .int .i64 o22.n, .slice A22 o22.data.length c22, .slice B22 o22.old.length d22] 27] [Pers.row Kd.u8 A22 o22.data, Pers.row Kd.u8 B22 o22.old, Pers.row Kd.u8 A b] a w) (is := [0, 0]) (js := [0, 1]) wide_ rfl rfl rfl ?_ ?_
 ·refine GA.tk 0 [0, 0] [0, 1] ?_;refine GA.tk 1 [0, 0] [0, 1] ?_;refine GA.tk 2 [0, 0] [0, 1] ?_;refine GA.tp 3 rfl [0, 0] [0, 1] (i_mem (m_load (i := 1) rfl rfl ag_25 rfl)) ?_;refine GA.tk 4 [0, 0] [0, 1] ?_;refine GA.tk 5 [0, 0] [0, 1] ?_
  refine GA.tk 6 [0, 0] [0, 1] ?_;refine GA.tp 7 rfl [0, 0] [0, 1] (i_mem (m_load (i := 1) rfl rfl ag_3 rfl)) ?_;refine GA.al [8, 14] ?_
  refine GAs.cons (i := 8) rfl rfl (t_cut_l (j := 1) rfl rfl rfl rfl Tryz.underlying25 sz_5 (by omega) (by omega) (by omega)) (by rintro a w h; exact h.me [0, 0] [1, 2]) ?_ ?_
  ·refine GA.al [9, 14] ?_
   refine GAs.cons (i := 9) rfl rfl (t_call rfl Tryz.call101 rfl (is := []) (js := [0]) rfl rfl (by exact rdop_ct _ (seg b at_ b.length) _ (by rw [seg_to (by omega)]; omega) (by omega) (by rw [seg_to (by omega)]; omega))) (by rintro a w ⟨_, _, _, ⟨o22, n22, e22, A22, c22, B22, d22, hs22, hn22, hd22, l22, k22, m22, p22, rfl, rfl, rfl⟩, h⟩; exact h.me [0, 0] [3, 4]) (GA.ret ?_) ?_
   ·rintro _ _ _ ⟨o22, n22, e22, A22, c22, B22, d22, hs22, hn22, hd22, l22, k22, m22, p22, rfl, rfl, rfl⟩
    refine GA.tk 10 [0, 0] [3, 4] ?_;refine GA.tk 11 [0, 0] [3, 4] ?_;refine GA.tk 12 [0, 0] [3, 4] ?_;refine GA.tk 13 [0, 0] [3, 4] ?_;refine GA.al [14] ?_
    refine GAs.cons (i := 14) rfl rfl (t_alloc rfl ze_27) (by rintro a w ⟨_, h⟩; exact h.me [1, 1] [3, 4]) (GA.ex fun b_t3 => ?_) GAs.nil
    refine GA.al [15] ?_
    refine GAs.cons (i := 15) rfl rfl (t_storeN (i := 0) rfl rfl rfl sz_27 rfl rfl rfl) (by rintro a w h; exact h.me [1, 1] [3, 4]) ?_ GAs.nil
    refine GA.tk 16 [1, 1] [3, 4] ?_;refine GA.tk 17 [1, 1] [3, 4] ?_
    exact zq81_
   refine GAs.cons (i := 14) rfl rfl (t_alloc rfl ze_27) (by rintro a w ⟨_, h⟩; exact h.me [1, 1] [1, 2]) (GA.ex fun b_t3 => ?_) GAs.nil
   refine GA.al [9] ?_
   refine GAs.cons (i := 9) rfl rfl (t_call rfl Tryz.call101 rfl (is := []) (js := [0]) rfl rfl (by exact rdop_ct _ (seg b at_ b.length) _ (by rw [seg_to (by omega)]; omega) (by omega) (by rw [seg_to (by omega)]; omega))) (by rintro a w ⟨_, _, _, ⟨o22, n22, e22, A22, c22, B22, d22, hs22, hn22, hd22, l22, k22, m22, p22, rfl, rfl, rfl⟩, h⟩; exact h.me [1, 1] [3, 4]) (GA.ret ?_) GAs.nil
   rintro _ _ _ ⟨o22, n22, e22, A22, c22, B22, d22, hs22, hn22, hd22, l22, k22, m22, p22, rfl, rfl, rfl⟩
   refine GA.tk 10 [1, 1] [3, 4] ?_;refine GA.tk 11 [1, 1] [3, 4] ?_;refine GA.tk 12 [1, 1] [3, 4] ?_;refine GA.tk 13 [1, 1] [3, 4] ?_;refine GA.al [15] ?_
   refine GAs.cons (i := 15) rfl rfl (t_storeN (i := 0) rfl rfl rfl sz_27 rfl rfl rfl) (by rintro a w h; exact h.me [1, 1] [3, 4]) ?_ GAs.nil
   refine GA.tk 16 [1, 1] [3, 4] ?_;refine GA.tk 17 [1, 1] [3, 4] ?_
   exact zq81_
  refine GAs.cons (i := 14) rfl rfl (t_alloc rfl ze_27) (by rintro a w ⟨_, h⟩; exact h.me [1, 1] [0, 1]) (GA.ex fun b_t3 => ?_) GAs.nil
  refine GA.al [8] ?_
  refine GAs.cons (i := 8) rfl rfl (t_cut_l (j := 1) rfl rfl rfl rfl Tryz.underlying25 sz_5 (by omega) (by omega) (by omega)) (by rintro a w h; exact h.me [1, 1] [1, 2]) ?_ GAs.nil
  refine GA.al [9] ?_
  refine GAs.cons (i := 9) rfl rfl (t_call rfl Tryz.call101 rfl (is := []) (js := [0]) rfl rfl (by exact rdop_ct _ (seg b at_ b.length) _ (by rw [seg_to (by omega)]; omega) (by omega) (by rw [seg_to (by omega)]; omega))) (by rintro a w ⟨_, _, _, ⟨o22, n22, e22, A22, c22, B22, d22, hs22, hn22, hd22, l22, k22, m22, p22, rfl, rfl, rfl⟩, h⟩; exact h.me [1, 1] [3, 4]) (GA.ret ?_) GAs.nil
  rintro _ _ _ ⟨o22, n22, e22, A22, c22, B22, d22, hs22, hn22, hd22, l22, k22, m22, p22, rfl, rfl, rfl⟩
  refine GA.tk 10 [1, 1] [3, 4] ?_;refine GA.tk 11 [1, 1] [3, 4] ?_;refine GA.tk 12 [1, 1] [3, 4] ?_;refine GA.tk 13 [1, 1] [3, 4] ?_;refine GA.al [15] ?_
  refine GAs.cons (i := 15) rfl rfl (t_storeN (i := 0) rfl rfl rfl sz_27 rfl rfl rfl) (by rintro a w h; exact h.me [1, 1] [3, 4]) ?_ GAs.nil
  refine GA.tk 16 [1, 1] [3, 4] ?_;refine GA.tk 17 [1, 1] [3, 4] ?_
  exact zq81_
 refine (?_ : GC _ _ _ _)
 refine GC.ex fun o22 => GC.ex fun n22 => GC.ex fun e22 => GC.ex fun A22 => GC.ex fun c22 => GC.ex fun B22 => GC.ex fun d22 => GC.ex fun b_t3 => GC.and fun ⟨hs22, hn22, hd22, l22, k22, m22, p22⟩ => ?_;refine GC.sr_ ?_
 have hq22 := hn22.1
 rw [seg_to (by omega)] at hq22
 refine GL.rn 5 ?_;refine GL.ld_ 0 ?_;refine GL.rn 1 ?_;refine GL.pure rfl (p_add rfl rfl (w64 (by omega) (by omega))) ?_;refine GL.rn 3 ?_;refine GL.so_ 0 ?_;refine GL.rn 2 ?_;refine GL.so_ 0 ?_;refine GL.nl_ ?_
 refine GC.sr_ ?_;refine GL.ln_ 2 5 ?_;refine GL.sn_ 1 ?_;refine GL.nl_ ?_;refine GC.ret (Fin.c0 2 27 1 5 [0] [0, 1] ?_)
 have e0 : E = 0 := by omega
 exact ⟨o22, at_ + n22, e22, A22, c22, B22, d22, ⟨fun h => ⟨e0, by rw [mopF, hs22 h]; rfl⟩, fun h => .inr (by rw [mopF, hn22.2 h]; rfl)⟩, ⟨by omega, hd22.1, hd22.2⟩, l22, k22, m22, p22, rfl, rfl, rfl⟩
theorem zq82_ {X : Prop} (h : X := by (exact GA.done (by kernel_rfl) (fun a w h => ⟨_, _, _, _, _, _, ⟨hs22, hn22, l22, k22, hd22⟩, h.cut (is := [2, 1, 0]) (js := [0, 3]) ⟨rfl, rfl, rfl, rfl, rfl, trivial⟩ rfl rfl⟩))) : X := h
theorem r7re_ct (p e_ : Nat) (A : Option Addr) (b : List UInt8) (cp at_ : Nat) (E : Int) (hb : b.length ≤ cp) (hcp' : cp ≤ 9223372036854775807) (hb' : b.length ≤ 10000000000000) (hat : at_ ≤ b.length) : Ct Tryz.prog 140 [.pointer (some ⟨p, 0, none⟩)] (bleftG p e_ A b cp at_ E) [Pers.row Kd.u8 A b]
    (fun u G Q => ∃ (o : Res) (t : Nat) (k : Int) (A1 : Option Addr) (c1 : Nat), Rd E k (mreF b at_) (o, t) ∧ (t ≤ b.length ∧ o.data.length ≤ 16777216) ∧ o.data.length ≤ c1 ∧ c1 ≤ 9223372036854775807 ∧ u = .agg #[.int .u8 o.code, .slice A1 o.data.length c1] ∧ G = bleftG p e_ A b cp t k ∧ Q = [Pers.row Kd.u8 A1 o.data]) := by
 refine Ct.intro Tryz.func140 rfl rfl rfl (fun c hc => ?_)
 refine GC.sr_ ?_;refine GL.step rfl (t_alloc rfl ze_30) (GL.ex fun b_t2 => ?_);refine GL.nl_ ?_;refine GC.seq' ?_;refine GC.sr_ ?_;refine GL.know (q := Pers.row Kd.u8 none []) (fun _ _ _ => .inl rfl) ?_;refine GL.rn 3 ?_
 refine GL.ld_ 1 ?_;refine GL.rz 1 ?_;refine GC.co ?_ ?_
 ·intro h1; try simp only [tst_] at h1
  refine GC.sr_ ?_;refine GL.pure rfl (p_build ze_30 of_30 rfl rfl) ?_;refine GL.sn_ 0 ?_;refine GL.nl_ ?_;refine GC.ret (Fin.c0 2 30 0 2 [1] [0] ?_)
  exact ⟨rz, at_, E, none, 0, ⟨fun h => absurd h (by assumption), fun h => .inl h⟩, ⟨hat, by simp [rz]⟩, by simp [rz], by omega, rfl, rfl, rfl⟩
 intro h1; try simp only [tst_] at h1
 refine GC.skip (?_ : GC _ _ _ _)
 refine GC.seq' ?_;refine GC.regionM (m := 18) (M := fun a w => ∃ o22 : Res, ∃ n22 : Nat, ∃ e22 : Int, ∃ A22 : Option Addr, ∃ c22 : Nat, ∃ b_t3 : Nat, ((e22 = 0 → decRes (seg b at_ b.length) = some (o22, n22)) ∧ (n22 ≤ (seg b at_ b.length).length ∧ (e22 ≠ 0 → decRes (seg b at_ b.length) = none)) ∧ o22.data.length ≤ c22 ∧ c22 ≤ 9223372036854775807 ∧ o22.data.length ≤ 16777216) ∧ St c 40 [(0, .pointer (some ⟨p, 0, none⟩)), (2, .pointer (some ⟨b_t2, 0, none⟩)), (3, .pointer (some ⟨b_t3, 0, none⟩)), (4, .int .i64 (n22 : Int)), (5, .int .i64 e22)] [.cells p [.slice A b.length cp, .int .i64 (at_ : Int), .int .i64 E] e_, .cells b_t2 [.int .u8 0, .slice none 0 0] 30, .cells b_t3 [.int .u8 o22.code, .slice A22 o22.data.length c22] 30] [Pers.row Kd.u8 A22 o22.data, Pers.row Kd.u8 A b] a w) (is := [0, 0]) (js := [0, 1]) wide_ rfl rfl rfl ?_ ?_
 ·refine GA.tk 0 [0, 0] [0, 1] ?_;refine GA.tk 1 [0, 0] [0, 1] ?_;refine GA.tk 2 [0, 0] [0, 1] ?_;refine GA.tp 3 rfl [0, 0] [0, 1] (i_mem (m_load (i := 1) rfl rfl ag_25 rfl)) ?_;refine GA.tk 4 [0, 0] [0, 1] ?_;refine GA.tk 5 [0, 0] [0, 1] ?_
  refine GA.tk 6 [0, 0] [0, 1] ?_;refine GA.tp 7 rfl [0, 0] [0, 1] (i_mem (m_load (i := 1) rfl rfl ag_3 rfl)) ?_;refine GA.al [8, 14] ?_
  refine GAs.cons (i := 8) rfl rfl (t_cut_l (j := 1) rfl rfl rfl rfl Tryz.underlying25 sz_5 (by omega) (by omega) (by omega)) (by rintro a w h; exact h.me [0, 0] [1, 2]) ?_ ?_
  ·refine GA.al [9, 14] ?_
   refine GAs.cons (i := 9) rfl rfl (t_call rfl Tryz.call102 rfl (is := []) (js := [0]) rfl rfl (by exact rdres_ct _ (seg b at_ b.length) _ (by rw [seg_to (by omega)]; omega) (by omega) (by rw [seg_to (by omega)]; omega))) (by rintro a w ⟨_, _, _, ⟨o22, n22, e22, A22, c22, hs22, hn22, hd22, l22, k22, rfl, rfl, rfl⟩, h⟩; exact h.me [0, 0] [2, 3]) (GA.ret ?_) ?_
   ·rintro _ _ _ ⟨o22, n22, e22, A22, c22, hs22, hn22, hd22, l22, k22, rfl, rfl, rfl⟩
    refine GA.tk 10 [0, 0] [2, 3] ?_;refine GA.tk 11 [0, 0] [2, 3] ?_;refine GA.tk 12 [0, 0] [2, 3] ?_;refine GA.tk 13 [0, 0] [2, 3] ?_;refine GA.al [14] ?_
    refine GAs.cons (i := 14) rfl rfl (t_alloc rfl ze_30) (by rintro a w ⟨_, h⟩; exact h.me [1, 1] [2, 3]) (GA.ex fun b_t3 => ?_) GAs.nil
    refine GA.al [15] ?_
    refine GAs.cons (i := 15) rfl rfl (t_storeN (i := 0) rfl rfl rfl sz_30 rfl rfl rfl) (by rintro a w h; exact h.me [1, 1] [2, 3]) ?_ GAs.nil
    refine GA.tk 16 [1, 1] [2, 3] ?_;refine GA.tk 17 [1, 1] [2, 3] ?_
    exact zq82_
   refine GAs.cons (i := 14) rfl rfl (t_alloc rfl ze_30) (by rintro a w ⟨_, h⟩; exact h.me [1, 1] [1, 2]) (GA.ex fun b_t3 => ?_) GAs.nil
   refine GA.al [9] ?_
   refine GAs.cons (i := 9) rfl rfl (t_call rfl Tryz.call102 rfl (is := []) (js := [0]) rfl rfl (by exact rdres_ct _ (seg b at_ b.length) _ (by rw [seg_to (by omega)]; omega) (by omega) (by rw [seg_to (by omega)]; omega))) (by rintro a w ⟨_, _, _, ⟨o22, n22, e22, A22, c22, hs22, hn22, hd22, l22, k22, rfl, rfl, rfl⟩, h⟩; exact h.me [1, 1] [2, 3]) (GA.ret ?_) GAs.nil
   rintro _ _ _ ⟨o22, n22, e22, A22, c22, hs22, hn22, hd22, l22, k22, rfl, rfl, rfl⟩
   refine GA.tk 10 [1, 1] [2, 3] ?_;refine GA.tk 11 [1, 1] [2, 3] ?_;refine GA.tk 12 [1, 1] [2, 3] ?_;refine GA.tk 13 [1, 1] [2, 3] ?_;refine GA.al [15] ?_
   refine GAs.cons (i := 15) rfl rfl (t_storeN (i := 0) rfl rfl rfl sz_30 rfl rfl rfl) (by rintro a w h; exact h.me [1, 1] [2, 3]) ?_ GAs.nil
   refine GA.tk 16 [1, 1] [2, 3] ?_;refine GA.tk 17 [1, 1] [2, 3] ?_
   exact zq82_
  refine GAs.cons (i := 14) rfl rfl (t_alloc rfl ze_30) (by rintro a w ⟨_, h⟩; exact h.me [1, 1] [0, 1]) (GA.ex fun b_t3 => ?_) GAs.nil
  refine GA.al [8] ?_
  refine GAs.cons (i := 8) rfl rfl (t_cut_l (j := 1) rfl rfl rfl rfl Tryz.underlying25 sz_5 (by omega) (by omega) (by omega)) (by rintro a w h; exact h.me [1, 1] [1, 2]) ?_ GAs.nil
  refine GA.al [9] ?_
  refine GAs.cons (i := 9) rfl rfl (t_call rfl Tryz.call102 rfl (is := []) (js := [0]) rfl rfl (by exact rdres_ct _ (seg b at_ b.length) _ (by rw [seg_to (by omega)]; omega) (by omega) (by rw [seg_to (by omega)]; omega))) (by rintro a w ⟨_, _, _, ⟨o22, n22, e22, A22, c22, hs22, hn22, hd22, l22, k22, rfl, rfl, rfl⟩, h⟩; exact h.me [1, 1] [2, 3]) (GA.ret ?_) GAs.nil
  rintro _ _ _ ⟨o22, n22, e22, A22, c22, hs22, hn22, hd22, l22, k22, rfl, rfl, rfl⟩
  refine GA.tk 10 [1, 1] [2, 3] ?_;refine GA.tk 11 [1, 1] [2, 3] ?_;refine GA.tk 12 [1, 1] [2, 3] ?_;refine GA.tk 13 [1, 1] [2, 3] ?_;refine GA.al [15] ?_
  refine GAs.cons (i := 15) rfl rfl (t_storeN (i := 0) rfl rfl rfl sz_30 rfl rfl rfl) (by rintro a w h; exact h.me [1, 1] [2, 3]) ?_ GAs.nil
  refine GA.tk 16 [1, 1] [2, 3] ?_;refine GA.tk 17 [1, 1] [2, 3] ?_
  exact zq82_
 refine (?_ : GC _ _ _ _)
 refine GC.ex fun o22 => GC.ex fun n22 => GC.ex fun e22 => GC.ex fun A22 => GC.ex fun c22 => GC.ex fun b_t3 => GC.and fun ⟨hs22, hn22, l22, k22, d22⟩ => ?_;refine GC.sr_ ?_
 have hq22 := hn22.1
 rw [seg_to (by omega)] at hq22
 refine GL.rn 5 ?_;refine GL.ld_ 0 ?_;refine GL.rn 1 ?_;refine GL.pure rfl (p_add rfl rfl (w64 (by omega) (by omega))) ?_;refine GL.rn 3 ?_;refine GL.so_ 0 ?_;refine GL.rn 2 ?_;refine GL.so_ 0 ?_;refine GL.nl_ ?_
 refine GC.sr_ ?_;refine GL.ln_ 2 2 ?_;refine GL.sn_ 1 ?_;refine GL.nl_ ?_;refine GC.ret (Fin.c0 2 30 1 2 [0] [0] ?_)
 have e0 : E = 0 := by omega
 exact ⟨o22, at_ + n22, e22, A22, c22, ⟨fun h => ⟨e0, by rw [mreF, hs22 h]; rfl⟩, fun h => .inr (by rw [mreF, hn22.2 h]; rfl)⟩, ⟨by omega, d22⟩, l22, k22, rfl, rfl, rfl⟩
theorem Rd.congr {α : Type} {E k : Int} {f f' : Option α} {r : α} (h : Rd E k f r) (he : E = 0 → f = f') : Rd E k f' r :=
  ⟨fun h0 => by obtain ⟨a, b⟩ := h.1 h0; exact ⟨a, by rw [← he a]; exact b⟩, fun h0 => by
    by_cases hE : E = 0
    · exact (h.2 h0).imp id fun g => by rw [← he hE]; exact g
    · exact .inl hE⟩
theorem wrap8 {v : Int} (h : 0 ≤ v) (h' : v < 256) : IntKind.u8.wrap v = v := by
  simp [IntKind.wrap, IntKind.bits, IntKind.signed]; omega
theorem Rd.same {α : Type} {E : Int} (r : α) : Rd E E (some r) r := ⟨fun h => ⟨h, rfl⟩, fun h => .inl h⟩
theorem r7ent_fin {b : List UInt8} {v1 v2 v3 v4 v5 k1 k2 k3 k4 k5 E1 E2 : Int} {t1 t2 t3 t4 t5 t : Nat} {e : Entry} (h1 : Rd 0 k1 (mnumF b 0 1) (v1, t1)) (h2 : Rd k1 k2 (mnumF b t1 8) (v2, t2)) (h3 : Rd k2 k3 (mnumF b t2 8) (v3, t3)) (h4 : Rd k3 k4 (mnumF b t3 8) (v4, t4)) (h5 : Rd k4 k5 (mnumF b t4 8) (v5, t5))
    (hB : Rd k5 E1 (mentB b (IntKind.u8.wrap v1) v2 v3 v4 v5 t5) (e, t)) (hC : Rd E1 E2 (mentC (e, t)) (e, t)) : Rd 0 E2 (mentF b 0) (e, t) := by
  unfold mentF
  refine Rd.bind h1 (Rd.bind h2 (Rd.bind h3 (Rd.bind h4 (Rd.bind h5 (Rd.bind (hB.congr fun h => ?_) hC)))))
  have f1 := (h1.1 (h2.1 (h3.1 (h4.1 (h5.1 h).1).1).1).1).2
  have f2 := mnumF_pos f1 (by omega)
  have f3 := (mnumF_rng f1).2.2.2.2
  have p1 : (256 : Nat) ^ 1 = 256 := p256_1
  rw [wrap8 f2 (by omega)]
theorem mentC_rd {e : Entry} {t : Nat} {E1 E2 : Int} (h : (E1 ≠ 0 ∧ E2 = E1) ∨ (E1 = 0 ∧ entE e = 0 ∧ E2 = 0) ∨ (entE e ≠ 0 ∧ E2 ≠ 0)) : Rd E1 E2 (mentC (e, t)) (e, t) := by
  rcases h with ⟨h1, rfl⟩ | ⟨h1, h2, rfl⟩ | ⟨h1, h2⟩
  · exact ⟨fun h => absurd h h1, fun h => .inl h⟩
  · exact ⟨fun _ => ⟨h1, if_pos h2⟩, fun h => absurd rfl h⟩
  · exact ⟨fun h => absurd h h2, fun _ => .inr (if_neg h1)⟩
theorem mentB_op {b : List UInt8} {k n v c s : Int} {t : Nat} (h : k = 1) : mentB b k n v c s t = (mopF b t).map fun o => ((⟨k, n, v, c, s, o.1, zgr⟩ : Entry), o.2) := by
  rw [mentB, if_pos h, mopF]
  cases decOp (seg b t b.length) <;> rfl
abbrev EntOf (e : Entry) (x : Lie) : Prop := EntLen e ∧ e.op.data.length ≤ x.c1 ∧ x.c1 ≤ 9223372036854775807 ∧ e.op.old.length ≤ x.c2 ∧ x.c2 ≤ 9223372036854775807 ∧ e.grp.members.length ≤ x.c4 ∧ x.c4 ≤ 9223372036854775807
theorem zq83_ {X : Prop} (h : X := by (first | exact ⟨zen, 0, E1, none, 0, none, 0, none, 0, ⟨fun h => absurd h (by omega), fun h => ((hR E1 (.inl ⟨h, rfl⟩)).2 h).resolve_left (fun h => h rfl)⟩, ⟨by omega, ⟨by simp [zen, zop], by simp [zen, zop], by simp [zen, zgr]⟩⟩, by simp [zen, zop], by omega, by simp [zen, zop], by omega, by simp [zen, zgr], by omega, rfl, rfl, rfl⟩ | exact ⟨zen, 0, 42, none, 0, none, 0, none, 0, ⟨fun h => absurd h (by decide), fun h => ((hR 42 (.inr (.inr ⟨by assumption, by decide⟩))).2 h).resolve_left (fun h => h rfl)⟩, ⟨by omega, ⟨by simp [zen, zop], by simp [zen, zop], by simp [zen, zgr]⟩⟩, by simp [zen, zop], by omega, by simp [zen, zop], by omega, by simp [zen, zgr], by omega, rfl, rfl, rfl⟩)) : X := h
theorem zq84_ {X : Prop} (h : X := by (exact ⟨e, t, 0, x.a1, x.c1, x.a2, x.c2, x.a4, x.c4, ⟨fun _ => ((r7ent_fin hs11 hs15 hs18 hs21 hs24 hJ1 (mentC_rd (E2 := 0) (.inr (.inl ⟨e1, by omega, rfl⟩)))).1 rfl).2, fun h => absurd rfl h⟩, ⟨hJ3, hJ2.1⟩, hJ2.2.1, hJ2.2.2.1, hJ2.2.2.2.1, hJ2.2.2.2.2.1, hJ2.2.2.2.2.2.1, hJ2.2.2.2.2.2.2, rfl, rfl, rfl⟩)) : X := h
theorem r7ent_ct (A : Option Addr) (b : List UInt8) (cp : Nat) (hb : b.length ≤ cp) (hcp' : cp ≤ 9223372036854775807) (hb' : b.length ≤ 10000000000000) : Ct Tryz.prog 105 [.slice A b.length cp] [] [Pers.row Kd.u8 A b]
    (fun u G Q => ∃ (e : Entry) (n : Nat) (k : Int) (A : Option Addr) (cp : Nat) (B : Option Addr) (cq : Nat) (C : Option Addr) (cr : Nat), ((k = 0 → mentF b 0 = some (e, n)) ∧ (k ≠ 0 → mentF b 0 = none)) ∧ (n ≤ b.length ∧ EntLen e) ∧ e.op.data.length ≤ cp ∧ cp ≤ 9223372036854775807 ∧ e.op.old.length ≤ cq ∧ cq ≤ 9223372036854775807 ∧ e.grp.members.length ≤ cr ∧ cr ≤ 9223372036854775807 ∧ u = .tuple #[entV e A cp B cq C cr, .int .i64 (n : Int), .int .i64 k] ∧ G = [] ∧ Q = entQ e A B C) := by
 refine Ct.intro Tryz.func105 rfl rfl rfl (fun c hc => ?_)
 refine GC.sr_ ?_;refine GL.step rfl (t_alloc rfl ze_64) (GL.ex fun b_t2 => ?_);refine GL.rz 2 ?_;refine GC.sr_ ?_;refine GL.know (q := Pers.row Kd.u8 none []) (fun _ _ _ => .inl rfl) ?_;refine GL.know (q := Pers.row kI none []) (fun _ _ _ => .inl rfl) ?_
 refine GL.rn 1 ?_;refine GL.pure rfl (p_build ze_171 of_171 rfl rfl) ?_;refine GL.step rfl (t_box rfl rfl rfl) (GL.ex fun b_t9 => ?_);refine GL.rz 1 ?_;refine GC.rr 1 ?_;refine GL.cl Tryz.call138 [0] [2] rfl rfl rfl (by exact r7num_ct _ _ _ b _ 0 0 1 (by omega) (by omega) (by omega) (by omega) (by omega)) ?_
 rintro _ _ _ ⟨v11, t11, k11, hs11, ⟨ht11, hv11, hw11⟩, rfl, rfl, rfl⟩
 refine GL.pure rfl (p_convR (t := 3) (r := IntKind.u8.wrap v11) (by rw [Tryz.underlying3]; simp) Tryz.underlying62 rfl rfl) ?_;refine GL.pure rfl (p_build ze_64 of_64 rfl rfl) ?_;refine GL.step rfl (t_alloc rfl ze_64) (GL.ex fun b_t6 => ?_)
 refine GL.sn_ 0 ?_;refine GL.nr 1 ?_;refine GL.cl Tryz.call138 [1] [2] rfl rfl rfl (by exact r7num_ct _ _ _ b _ t11 k11 8 (by omega) (by omega) (by omega) (by omega) (by omega)) ?_
 rintro _ _ _ ⟨v15, t15, k15, hs15, ⟨ht15, hv15, hw15⟩, rfl, rfl, rfl⟩
 refine GL.rn 1 ?_;refine GL.so_ 1 ?_;refine GL.nr 1 ?_;refine GL.cl Tryz.call138 [0] [2] rfl rfl rfl (by exact r7num_ct _ _ _ b _ t15 k15 8 (by omega) (by omega) (by omega) (by omega) (by omega)) ?_
 rintro _ _ _ ⟨v18, t18, k18, hs18, ⟨ht18, hv18, hw18⟩, rfl, rfl, rfl⟩
 refine GL.rn 1 ?_;refine GL.so_ 1 ?_;refine GL.nr 1 ?_;refine GL.cl Tryz.call138 [0] [2] rfl rfl rfl (by exact r7num_ct _ _ _ b _ t18 k18 8 (by omega) (by omega) (by omega) (by omega) (by omega)) ?_
 rintro _ _ _ ⟨v21, t21, k21, hs21, ⟨ht21, hv21, hw21⟩, rfl, rfl, rfl⟩
 refine GL.rn 1 ?_;refine GL.so_ 1 ?_;refine GL.nr 1 ?_;refine GL.cl Tryz.call138 [0] [2] rfl rfl rfl (by exact r7num_ct _ _ _ b _ t21 k21 8 (by omega) (by omega) (by omega) (by omega) (by omega)) ?_
 rintro _ _ _ ⟨v24, t24, k24, hs24, ⟨ht24, hv24, hw24⟩, rfl, rfl, rfl⟩
 refine GL.rn 1 ?_;refine GL.so_ 1 ?_;refine GL.nl_ ?_;refine GC.joinK4 (ks := (up 2 5)) (is := [2]) (js := [0, 1, 2]) (fun (e : Entry) (t : Nat) (E1 : Int) (x : Lie) => Rd k24 E1 (mentB b (IntKind.u8.wrap v11) v15 v18 v21 v24 t24) (e, t) ∧ EntOf e x ∧ t ≤ b.length) (fun (e : Entry) (t : Nat) (E1 : Int) (x : Lie) => []) (fun (e : Entry) (t : Nat) (E1 : Int) (x : Lie) => [.cells b_t9 [.slice A b.length cp, .int .i64 (t : Int), .int .i64 E1] 171, .cells b_t6 [.int .u8 e.kind, .int .i64 e.num, .int .i64 e.view, .int .i64 e.client, .int .i64 e.serial, .int .u8 e.op.kind, .int .i64 e.op.at_, .int .i64 e.op.n, .slice x.a1 e.op.data.length x.c1, .slice x.a2 e.op.old.length x.c2, .int .i64 e.grp.epoch, .slice x.a4 e.grp.members.length x.c4] 64]) (fun (e : Entry) (t : Nat) (E1 : Int) (x : Lie) => [Pers.row Kd.u8 x.a1 e.op.data, Pers.row Kd.u8 x.a2 e.op.old, Pers.row kI x.a4 e.grp.members]) rfl rfl rfl ?_ ?_
 ·refine GC.rr 1 ?_;refine GL.ld_ 1 ?_;refine GL.nl_ ?_;refine GC.block ?_;refine GC.rg 2 ?_;refine GC.co ?_ ?_
  ·intro h1; try simp only [tst_] at h1
   refine GC.region ?_;refine GL.rn 1 ?_;refine GL.cl Tryz.call142 [0] [2] rfl rfl rfl (by exact r7op_ct _ _ _ b _ t24 k24 (by omega) (by omega) (by omega) (by omega)) ?_
   rintro _ _ _ ⟨o31, t31, k31, A31, c31, B31, d31, hs31, ⟨ht31, hd31, hf31⟩, l31, m31, n31, p31, rfl, rfl, rfl⟩
   refine GL.rn 1 ?_;refine GL.sn_ 1 ?_;refine GL.nil ?_
   exact fun a w h => ⟨(⟨IntKind.u8.wrap v11, v15, v18, v21, v24, o31, zgr⟩), (t31), (k31), (⟨A31, c31, B31, d31, none, 0, none, 0, none, 0, none, 0, none, 0, none, 0⟩), ⟨by rw [mentB_op (by assumption)]; exact Rd.map (fun o : OpD × Nat => ((⟨IntKind.u8.wrap v11, v15, v18, v21, v24, o.1, zgr⟩ : Entry), o.2)) hs31, ⟨⟨by unfold lenOk; dsimp only; omega, by unfold lenOk; dsimp only; omega, by simp [zgr]⟩, l31, m31, n31, p31, by simp [zgr], Nat.zero_le _⟩, ht31⟩, h.ct [0, 0, 0] [0, 1, 2, 2, 3, 4]⟩
  intro h1; try simp only [tst_] at h1
  refine GC.rg 2 ?_;refine GC.co ?_ ?_
  ·intro h2; try simp only [tst_] at h2
   refine GC.region ?_;refine GL.rn 1 ?_;refine GL.cl Tryz.call141 [0] [2] rfl rfl rfl (by exact r7gp_ct _ _ _ b _ t24 k24 (by omega) (by omega) (by omega)) ?_
   rintro _ _ _ ⟨g36, t36, k36, A36, c36, hs36, ⟨ht36, hg36⟩, l36, m36, rfl, rfl, rfl⟩
   refine GL.rn 1 ?_;refine GL.sn_ 1 ?_;refine GL.nil ?_
   exact fun a w h => ⟨(⟨IntKind.u8.wrap v11, v15, v18, v21, v24, zop, g36⟩), (t36), (k36), (⟨none, 0, none, 0, none, 0, A36, c36, none, 0, none, 0, none, 0, none, 0⟩), ⟨by rw [mentB, if_neg (by assumption), if_pos (by assumption)]; exact Rd.map (fun g : Grp × Nat => ((⟨IntKind.u8.wrap v11, v15, v18, v21, v24, zop, g.1⟩ : Entry), g.2)) hs36, ⟨⟨by simp [zop], by simp [zop], by dsimp only; omega⟩, by simp [zop], Nat.zero_le _, by simp [zop], Nat.zero_le _, l36, m36⟩, ht36⟩, h.cut (is := [0, 0, 0]) (js := [2, 2, 0, 1, 2, 3]) ⟨rfl, rfl, rfl, rfl, rfl, trivial⟩ rfl rfl⟩
  intro h2; try simp only [tst_] at h2
  refine GC.skip ?_
  exact fun a w h => ⟨(⟨IntKind.u8.wrap v11, v15, v18, v21, v24, zop, zgr⟩), (t24), (k24), (⟨none, 0, none, 0, none, 0, none, 0, none, 0, none, 0, none, 0, none, 0⟩), ⟨by rw [mentB, if_neg (by assumption), if_neg (by assumption)]; exact Rd.same _, ⟨⟨by simp [zop], by simp [zop], by simp [zgr]⟩, by simp [zop], Nat.zero_le _, by simp [zop], Nat.zero_le _, by simp [zgr], Nat.zero_le _⟩, ht24⟩, h.cut (is := [0, 0, 0]) (js := [1, 1, 0, 0, 1, 2]) ⟨rfl, rfl, rfl, rfl, rfl, trivial⟩ rfl rfl⟩
 intro e t E1 x hJ
 try dsimp only [List.cons_append, List.nil_append] at hJ ⊢
 obtain ⟨hJ1, hJ2, hJ3⟩ := hJ
 refine GC.seq' ?_;refine GC.rr 3 ?_;refine GL.ld_ 0 ?_;refine GL.rn 2 ?_;refine GL.sp 43 ?_ ?_
 ·intro h3; try simp only [tst_] at h3
  refine GL.lg_ 1 12 ?_;refine GL.stepG rfl (s := 43) rfl rfl (t_call rfl Tryz.call65 rfl (is := []) (js := [0, 1, 2]) rfl rfl (by exact rent_ct e _ _ _ _ _ _ hJ2.1)) (GL.ret ?_)
  rintro _ _ _ ⟨rfl, rfl, rfl⟩
  refine GL.rz 2 ?_;refine GC.co ?_ ?_
  ·intro h4; try simp only [tst_] at h4
   refine GC.region ?_;refine GL.rn 3 ?_;refine GL.so_ 0 ?_
   refine GL.nil (?_ : GC _ _ _ _)
   refine GC.seq' ?_;refine GC.rr 3 ?_;refine GL.ld_ 0 ?_;refine GL.rz 1 ?_;refine GC.cond_true rfl ?_;refine GC.seq' ?_;refine GC.regionC (m := 8) (is := [0, 0]) (js := (up 0 6)) wide_ rfl rfl rfl ?_;refine GA.tp 0 rfl [0, 0] (up 0 6) (i_pure (p_build ze_64 of_64 rfl rfl)) ?_
   refine GA.tk 1 [0, 0] (up 0 6) ?_;refine GA.tk 2 [0, 0] (up 0 6) ?_;refine GA.tk 3 [0, 0] (up 0 6) ?_;refine GA.tp 4 rfl [0, 0] (up 0 6) (i_mem (m_load (i := 0) rfl rfl ag_45 rfl)) ?_;refine GA.al [5] ?_
   refine GAs.cons (i := 5) rfl rfl (t_storeN (i := 2) rfl rfl rfl sz_64 rfl rfl rfl) (by rintro a w h; exact h.me [0, 0] (up 0 6)) ?_ GAs.nil
   refine GA.tk 6 [0, 0] (up 0 6) ?_;refine GA.tk 7 [0, 0] (up 0 6) ?_
   refine GA.done (by kernel_rfl) (?_ : GC _ _ _ _)
   refine GC.ret (Fin.c2 2 64 3 4 2 12 [] [4, 4, 3] ?_)
   have hR : ∀ E2, ((E1 ≠ 0 ∧ E2 = E1) ∨ (E1 = 0 ∧ entE e = 0 ∧ E2 = 0) ∨ (entE e ≠ 0 ∧ E2 ≠ 0)) → Rd 0 E2 (mentF b 0) (e, t) := fun E2 h => r7ent_fin hs11 hs15 hs18 hs21 hs24 hJ1 (mentC_rd h)
   exact zq83_
  intro h4; try simp only [tst_] at h4
  refine GC.skip (?_ : GC _ _ _ _)
  refine GC.seq' ?_;refine GC.rr 3 ?_;refine GL.ld_ 0 ?_;refine GL.rz 1 ?_;refine GC.co ?_ ?_
  ·intro h5; try simp only [tst_] at h5
   refine GC.seq' ?_;refine GC.regionC (m := 8) (is := [0, 0]) (js := (up 0 6)) wide_ rfl rfl rfl ?_;refine GA.tp 0 rfl [0, 0] (up 0 6) (i_pure (p_build ze_64 of_64 rfl rfl)) ?_;refine GA.tk 1 [0, 0] (up 0 6) ?_;refine GA.tk 2 [0, 0] (up 0 6) ?_
   refine GA.tk 3 [0, 0] (up 0 6) ?_;refine GA.tp 4 rfl [0, 0] (up 0 6) (i_mem (m_load (i := 0) rfl rfl ag_45 rfl)) ?_;refine GA.al [5] ?_
   refine GAs.cons (i := 5) rfl rfl (t_storeN (i := 2) rfl rfl rfl sz_64 rfl rfl rfl) (by rintro a w h; exact h.me [0, 0] (up 0 6)) ?_ GAs.nil
   refine GA.tk 6 [0, 0] (up 0 6) ?_;refine GA.tk 7 [0, 0] (up 0 6) ?_
   refine GA.done (by kernel_rfl) (?_ : GC _ _ _ _)
   refine GC.ret (Fin.c2 2 64 3 4 2 12 [] [4, 4, 3] ?_)
   have hR : ∀ E2, ((E1 ≠ 0 ∧ E2 = E1) ∨ (E1 = 0 ∧ entE e = 0 ∧ E2 = 0) ∨ (entE e ≠ 0 ∧ E2 ≠ 0)) → Rd 0 E2 (mentF b 0) (e, t) := fun E2 h => r7ent_fin hs11 hs15 hs18 hs21 hs24 hJ1 (mentC_rd h)
   exact zq83_
  intro h5; try simp only [tst_] at h5
  refine GC.skip (?_ : GC _ _ _ _)
  refine GC.seq' ?_;refine GC.regionC (m := 8) (is := [0, 0]) (js := (up 0 6)) wide_ rfl rfl rfl ?_;refine GA.tp 0 rfl [0, 0] (up 0 6) (i_mem (m_loadN (i := 1) rfl rfl ag_64 (vs := [_, _, _, _, _, _, _, _, _, _, _, _]) sz_64 ⟨rfl, rfl, rfl, rfl, rfl, rfl, rfl, rfl, rfl, rfl, rfl, rfl, trivial⟩)) ?_
  refine GA.tk 1 [0, 0] (up 0 6) ?_;refine GA.tk 2 [0, 0] (up 0 6) ?_;refine GA.tk 3 [0, 0] (up 0 6) ?_;refine GA.tp 4 rfl [0, 0] (up 0 6) (i_mem (m_load (i := 0) rfl rfl ag_3 rfl)) ?_;refine GA.al [5] ?_
  refine GAs.cons (i := 5) rfl rfl (t_storeN (i := 2) rfl rfl rfl sz_64 rfl rfl rfl) (by rintro a w h; exact h.me [0, 0] (up 0 6)) ?_ GAs.nil
  refine GA.tk 6 [0, 0] (up 0 6) ?_;refine GA.tk 7 [0, 0] (up 0 6) ?_
  refine GA.done (by kernel_rfl) (?_ : GC _ _ _ _)
  refine GC.ret (Fin.c2 2 64 3 4 2 12 [] [0, 1, 2] ?_)
  have e1 : E1 = 0 := by omega
  exact zq84_
 intro h3; try simp only [tst_] at h3
 refine GL.rz 4 ?_;refine GC.cond_false rfl ?_
 refine GC.skip (?_ : GC _ _ _ _)
 refine GC.seq' ?_;refine GC.rr 3 ?_;refine GL.ld_ 0 ?_;refine GL.rz 1 ?_;refine GC.co ?_ ?_
 ·intro h6; try simp only [tst_] at h6
  refine GC.seq' ?_;refine GC.regionC (m := 8) (is := [0, 0]) (js := (up 0 6)) wide_ rfl rfl rfl ?_;refine GA.tp 0 rfl [0, 0] (up 0 6) (i_pure (p_build ze_64 of_64 rfl rfl)) ?_;refine GA.tk 1 [0, 0] (up 0 6) ?_;refine GA.tk 2 [0, 0] (up 0 6) ?_
  refine GA.tk 3 [0, 0] (up 0 6) ?_;refine GA.tp 4 rfl [0, 0] (up 0 6) (i_mem (m_load (i := 0) rfl rfl ag_45 rfl)) ?_;refine GA.al [5] ?_
  refine GAs.cons (i := 5) rfl rfl (t_storeN (i := 2) rfl rfl rfl sz_64 rfl rfl rfl) (by rintro a w h; exact h.me [0, 0] (up 0 6)) ?_ GAs.nil
  refine GA.tk 6 [0, 0] (up 0 6) ?_;refine GA.tk 7 [0, 0] (up 0 6) ?_
  refine GA.done (by kernel_rfl) (?_ : GC _ _ _ _)
  refine GC.ret (Fin.c2 2 64 3 4 2 12 [] [4, 4, 3] ?_)
  have hR : ∀ E2, ((E1 ≠ 0 ∧ E2 = E1) ∨ (E1 = 0 ∧ entE e = 0 ∧ E2 = 0) ∨ (entE e ≠ 0 ∧ E2 ≠ 0)) → Rd 0 E2 (mentF b 0) (e, t) := fun E2 h => r7ent_fin hs11 hs15 hs18 hs21 hs24 hJ1 (mentC_rd h)
  exact zq83_
 intro h6; try simp only [tst_] at h6
 refine GC.skip (?_ : GC _ _ _ _)
 refine GC.seq' ?_;refine GC.regionC (m := 8) (is := [0, 0]) (js := (up 0 6)) wide_ rfl rfl rfl ?_;refine GA.tp 0 rfl [0, 0] (up 0 6) (i_mem (m_loadN (i := 1) rfl rfl ag_64 (vs := [_, _, _, _, _, _, _, _, _, _, _, _]) sz_64 ⟨rfl, rfl, rfl, rfl, rfl, rfl, rfl, rfl, rfl, rfl, rfl, rfl, trivial⟩)) ?_
 refine GA.tk 1 [0, 0] (up 0 6) ?_;refine GA.tk 2 [0, 0] (up 0 6) ?_;refine GA.tk 3 [0, 0] (up 0 6) ?_;refine GA.tp 4 rfl [0, 0] (up 0 6) (i_mem (m_load (i := 0) rfl rfl ag_3 rfl)) ?_;refine GA.al [5] ?_
 refine GAs.cons (i := 5) rfl rfl (t_storeN (i := 2) rfl rfl rfl sz_64 rfl rfl rfl) (by rintro a w h; exact h.me [0, 0] (up 0 6)) ?_ GAs.nil
 refine GA.tk 6 [0, 0] (up 0 6) ?_;refine GA.tk 7 [0, 0] (up 0 6) ?_
 refine GA.done (by kernel_rfl) (?_ : GC _ _ _ _)
 refine GC.ret (Fin.c2 2 64 3 4 2 12 [] [0, 1, 2] ?_)
 have e1 : E1 = 0 := by omega
 exact zq84_
abbrev Mn {α σ : Type} (f : σ → Option (α × σ)) (k0 E1 : Int) (t0 : σ) (k m : Nat) (xs : List α) (t : σ) : Prop := (E1 = 0 → k0 = 0 ∧ manyF f t0 k = some (xs, t)) ∧ (E1 ≠ 0 → k0 ≠ 0 ∨ manyF f t0 m = none)
theorem mn_next {α σ : Type} {f : σ → Option (α × σ)} {k0 E1 E2 : Int} {t0 t u : σ} {k m : Nat} {xs : List α} {x : α} (e1 : E1 = 0) (h : Mn f k0 E1 t0 k m xs t) (h2 : Rd E1 E2 (f t) (x, u)) (hm : k < m) : Mn f k0 E2 t0 (k + 1) m (xs ++ [x]) u :=
  ⟨fun h0 => ⟨(h.1 e1).1, manyF_next (h.1 e1).2 (h2.1 h0).2⟩, fun h0 => (h2.2 h0).elim (fun g => absurd e1 g) fun g => .inr (manyF_fail (h.1 e1).2 g hm)⟩
theorem mn_rng {α σ : Type} {f : σ → Option (α × σ)} {k0 E1 v : Int} {B : Int} {t0 t : σ} {k m : Nat} {xs : List α} (hc : k0 = 0 → 0 ≤ v ∧ v < B) (h : Mn f k0 E1 t0 k m xs t) (e1 : E1 = 0) (hk : (k : Int) < v) : k + 1 = 0 ∨ (((k + 1 : Nat) : Int) ≤ v ∧ v < B) := by
  have := hc (h.1 e1).1; omega
theorem mn_fin {α σ : Type} {f : σ → Option (α × σ)} {k0 E1 v B : Int} {t0 t : σ} {k : Nat} {xs : List α} (hc : k0 = 0 → 0 ≤ v ∧ v < B) (hb : k = 0 ∨ ((k : Int) ≤ v ∧ v < B)) (h : Mn f k0 E1 t0 k v.toNat xs t) (hx : E1 = 0 → v ≤ (k : Int)) : Rd k0 E1 (manyF f t0 v.toNat) (xs, t) :=
  ⟨fun h0 => by obtain ⟨f1, f2⟩ := h.1 h0; have := hc f1; have := hx h0; rw [show v.toNat = k by omega]; exact ⟨f1, f2⟩, h.2⟩
theorem num_rng {b : List UInt8} {E k v : Int} {at_ n t : Nat} (h : Rd E k (mnumF b at_ n) (v, t)) (hn : n ≤ 7) (h0 : k = 0) : 0 ≤ v ∧ v < ((256 ^ n : Nat) : Int) := by
  have f := (h.1 h0).2
  have := mnumF_pos f hn
  have := (mnumF_rng f).2.2.2.2
  omega
theorem mrow_rd {b : List UInt8} {E1 k1 k2 k3 c s : Int} {t t1 t2 t3 : Nat} {o : Res} (h1 : Rd E1 k1 (mnumF b t 8) (c, t1)) (h2 : Rd k1 k2 (mnumF b t1 8) (s, t2)) (h3 : Rd k2 k3 (mreF b t2) (o, t3)) : Rd E1 k3 (mrowF b t) ((⟨c, s, o⟩ : Row), t3) := by
  unfold mrowF
  refine Rd.bind h1 (Rd.bind h2 ?_)
  have : (decRes (seg b t2 b.length)).map (fun r => ((⟨c, s, r.1⟩ : Row), t2 + r.2)) = (mreF b t2).map fun r => ((⟨c, s, r.1⟩ : Row), r.2) := by
    unfold mreF; cases decRes (seg b t2 b.length) <;> rfl
  show Rd k2 k3 ((decRes (seg b t2 b.length)).map (fun r => ((⟨c, s, r.1⟩ : Row), t2 + r.2))) _
  rw [this]
  exact Rd.map (fun r : Res × Nat => ((⟨c, s, r.1⟩ : Row), r.2)) h3
theorem mpg_rd {b : List UInt8} {E1 k1 k2 k3 a v : Int} {t t1 t2 t3 : Nat} {x : List UInt8} (h1 : Rd E1 k1 (mnumF b t 4) (a, t1)) (h2 : Rd k1 k2 (mnumF b t1 8) (v, t2)) (h3 : Rd k2 k3 (mtxF b t2) (x, t3)) : Rd E1 k3 (mpgF b t) ((⟨a, v, x⟩ : Page), t3) := by
  unfold mpgF
  exact Rd.bind h1 (Rd.bind h2 (Rd.map (fun r : List UInt8 × Nat => ((⟨a, v, r.1⟩ : Page), r.2)) h3))
theorem mstC_rd {s : Stt} {t : Nat} {E1 E2 : Int} (h : (E1 ≠ 0 ∧ E2 = E1) ∨ (E1 = 0 ∧ sttE s = 0 ∧ (t : Int) ≤ 33554432 ∧ E2 = 0) ∨ ((sttE s ≠ 0 ∨ 33554432 < (t : Int)) ∧ E2 ≠ 0)) : Rd E1 E2 (mstC (s, t)) (s, t) := by
  have hs : sttE s = 0 ↔ heldOk s := by rw [sttE_iff]
  rcases h with ⟨h1, rfl⟩ | ⟨h1, h2, h3, rfl⟩ | ⟨h1, h2⟩
  · exact ⟨fun h => absurd h h1, fun h => .inl h⟩
  · exact ⟨fun _ => ⟨h1, if_pos ⟨hs.1 h2, by dsimp only; omega⟩⟩, fun h => absurd rfl h⟩
  · exact ⟨fun h => absurd h h2, fun _ => .inr (if_neg (fun hh => h1.elim (fun g => g (hs.2 hh.1)) (fun g => by have := hh.2; dsimp only at this; omega)))⟩
theorem zq85_ {X : Prop} (h : X := by (exact fun a w h => ⟨(ps), (V), (cs), ((t, E1)), ⟨mn_fin hc27 hk.2.1 hk.2.2.1 (by omega), by dsimp only; omega, by have := hk.1.1; have := hk.2.1; omega, hk.2.2.2⟩, h.ct [0, 0, 0, 0] (up 0 5)⟩)) : X := h
theorem zq86_ {X : Prop} (h : X := by (exact fun a w h => ⟨(rs), (V), (cs), ((t, E1)), ⟨mn_fin hc56 hj.2.1 hj.2.2.1 (by omega), by dsimp only; omega, by have := hj.1.1; have := hj.2.1; omega, hj.2.2.2⟩, h.ct [0, 0, 0, 0] (up 0 6)⟩)) : X := h
theorem zq87_ {X : Prop} (h : X := by (first | exact ⟨zst, 0, k85, none, 0, none, 0, none, 0, ⟨fun h => absurd h (by omega), fun h => ((hR k85 (.inl ⟨h, rfl⟩)).2 h).resolve_left (fun h => h rfl)⟩, by omega, zstLen, rfl, rfl, rfl⟩ | exact ⟨zst, 0, 42, none, 0, none, 0, none, 0, ⟨fun h => absurd h (by decide), fun h => ((hR 42 (.inr (.inr ⟨.inl (by assumption), by decide⟩))).2 h).resolve_left (fun h => h rfl)⟩, by omega, zstLen, rfl, rfl, rfl⟩ | exact ⟨zst, 0, 2, none, 0, none, 0, none, 0, ⟨fun h => absurd h (by decide), fun h => ((hR 2 (.inr (.inr ⟨.inr (by omega), by decide⟩))).2 h).resolve_left (fun h => h rfl)⟩, by omega, zstLen, rfl, rfl, rfl⟩)) : X := h
theorem zq88_ {X : Prop} (h : X := by (exact ⟨_, t85, 0, _, _, _, _, _, _, ⟨fun _ => ((hR 0 (.inr (.inl ⟨by omega, by omega, by omega, rfl⟩))).1 rfl).2, fun h => absurd rfl h⟩, ht85, hSL, rfl, rfl, rfl⟩)) : X := h
set_option maxHeartbeats 2000000 in
theorem r7stt_ct (A : Option Addr) (b : List UInt8) (cp : Nat) (hb : b.length ≤ cp) (hcp' : cp ≤ 9223372036854775807) (hb' : b.length ≤ 10000000000000) : Ct Tryz.prog 104 [.slice A b.length cp] [] [Pers.row Kd.u8 A b]
    (fun u G Q => ∃ (e : Stt) (n : Nat) (k : Int) (A : Option Addr) (cp : Nat) (B : Option Addr) (cq : Nat) (C : Option Addr) (cr : Nat), ((k = 0 → mstF b 0 = some (e, n)) ∧ (k ≠ 0 → mstF b 0 = none)) ∧ n ≤ b.length ∧ SttLen e ∧ u = .tuple #[sttV e A cp B cq C cr, .int .i64 (n : Int), .int .i64 k] ∧ G = [] ∧ Q = sttQ e A B C) := by
 have hp1 : (256 : Nat) ^ 1 = 256 := p256_1
 have hp4 : (256 : Nat) ^ 4 = 4294967296 := p256_4
 refine Ct.intro Tryz.func104 rfl rfl rfl (fun c hc => ?_)
 refine GC.sr_ ?_;refine GL.step rfl (t_alloc rfl ze_39) (GL.ex fun b_t2 => ?_);refine GL.rz 2 ?_;refine GC.sr_ ?_;refine GL.know (q := Pers.row kPage none []) (fun _ _ _ => .inl rfl) ?_;refine GL.know (q := Pers.row kRow none []) (fun _ _ _ => .inl rfl) ?_
 refine GL.know (q := Pers.row kI none []) (fun _ _ _ => .inl rfl) ?_;refine GL.rn 1 ?_;refine GL.pure rfl (p_build ze_171 of_171 rfl rfl) ?_;refine GL.step rfl (t_box rfl rfl rfl) (GL.ex fun b_t14 => ?_);refine GL.rz 1 ?_
 refine GC.rr 1 ?_;refine GL.cl Tryz.call138 [0] [3] rfl rfl rfl (by exact r7num_ct _ _ _ b _ 0 0 8 (by omega) (by omega) (by omega) (by omega) (by omega)) ?_
 rintro _ _ _ ⟨v16, t16, k16, hs16, ⟨ht16, hv16, hw16⟩, rfl, rfl, rfl⟩
 refine GL.pure rfl (p_build ze_39 of_39 rfl rfl) ?_;refine GL.step rfl (t_alloc rfl ze_39) (GL.ex fun b_t6 => ?_);refine GL.sn_ 0 ?_;refine GL.nr 1 ?_;refine GL.cl Tryz.call138 [1] [3] rfl rfl rfl (by exact r7num_ct _ _ _ b _ t16 k16 4 (by omega) (by omega) (by omega) (by omega) (by omega)) ?_
 rintro _ _ _ ⟨v19, t19, k19, hs19, ⟨ht19, hv19, hw19⟩, rfl, rfl, rfl⟩
 refine GL.rn 2 ?_;refine GL.so_ 1 ?_;refine GL.nr 1 ?_;refine GL.cl Tryz.call138 [0] [3] rfl rfl rfl (by exact r7num_ct _ _ _ b _ t19 k19 4 (by omega) (by omega) (by omega) (by omega) (by omega)) ?_
 rintro _ _ _ ⟨v23, t23, k23, hs23, ⟨ht23, hv23, hw23⟩, rfl, rfl, rfl⟩
 refine GL.rn 2 ?_;refine GL.so_ 1 ?_;refine GL.nr 1 ?_;refine GL.cl Tryz.call138 [0] [3] rfl rfl rfl (by exact r7num_ct _ _ _ b _ t23 k23 4 (by omega) (by omega) (by omega) (by omega) (by omega)) ?_
 rintro _ _ _ ⟨v27, t27, k27, hs27, ⟨ht27, hv27, hw27⟩, rfl, rfl, rfl⟩
 refine GL.rz 1 ?_;refine GC.joinK4 (ks := [2, 5, 6, 7]) (is := [2]) (js := [0, 1, 2, 3]) (fun (ps : List Page) (V : Value) (cs : List Value) (u : Nat × Int) => Rd k27 u.2 (manyF (mpgF b) t27 v27.toNat) (ps, u.1) ∧ u.1 ≤ b.length ∧ ps.length ≤ 17592186043904 ∧ ∀ p ∈ ps, p.data.length ≤ 16777216) (fun (ps : List Page) (V : Value) (cs : List Value) (u : Nat × Int) => []) (fun (ps : List Page) (V : Value) (cs : List Value) (u : Nat × Int) => [.cells b_t14 [.slice A b.length cp, .int .i64 (u.1 : Int), .int .i64 u.2] 171, .cells b_t6 [.int .i64 v16, .int .i64 v19, .int .i64 v23, V, .slice none 0 0, .int .i64 0, .slice none 0 0] 39, .row V 59 3 ps.length cs]) (fun (ps : List Page) (V : Value) (cs : List Value) (u : Nat × Int) => [Pers.reps kPage ps cs]) rfl rfl rfl ?_ ?_
 ·refine GC.sr_ ?_
  have hc27 : k27 = 0 → 0 ≤ v27 ∧ v27 < 4294967296 := fun h => by have := num_rng hs27 (by omega) h; omega
  refine GL.nilrow 59 3 ?_;refine GL.know (q := Pers.reps kPage [] []) (fun _ _ _ => rfl) ?_;refine GL.rz 1 ?_;refine GC.block ?_;refine GC.loopK6 (ks := [2, 5, 6, 7]) (is := [3]) (js := [1, 2, 3, 4]) (fun (k : Nat) (ps : List Page) (V : Value) (cs : List Value) (t : Nat) (E1 : Int) => (ps.length = k ∧ t ≤ b.length) ∧ (k = 0 ∨ ((k : Int) ≤ v27 ∧ v27 < 4294967296)) ∧ Mn (mpgF b) k27 E1 t27 k v27.toNat ps t ∧ ∀ p ∈ ps, p.data.length ≤ 16777216) (fun (k : Nat) (ps : List Page) (V : Value) (cs : List Value) (t : Nat) (E1 : Int) => [(8, .int .i64 (k : Int))]) (fun (k : Nat) (ps : List Page) (V : Value) (cs : List Value) (t : Nat) (E1 : Int) => [.cells b_t14 [.slice A b.length cp, .int .i64 (t : Int), .int .i64 E1] 171, .cells b_t6 [.int .i64 v16, .int .i64 v19, .int .i64 v23, V, .slice none 0 0, .int .i64 0, .slice none 0 0] 39, .row V 59 3 ps.length cs]) (fun (k : Nat) (ps : List Page) (V : Value) (cs : List Value) (t : Nat) (E1 : Int) => [Pers.reps kPage ps cs]) (fun (k : Nat) (ps : List Page) (V : Value) (cs : List Value) (t : Nat) (E1 : Int) => v27.toNat - k) (0) ([]) (_) ([]) (t27) (k27) rfl rfl rfl (fun a w h => ⟨⟨⟨rfl, by omega⟩, .inl rfl, ⟨fun h => ⟨h, rfl⟩, fun h => .inl h⟩, by simp⟩, h.cutK (is := [1, 1, 0, 0]) (js := (up 0 5)) (ks := [2, 5, 6, 7]) ⟨rfl, trivial⟩ rfl rfl rfl⟩) ?_
  intro k ps V cs t E1 hk
  try dsimp only [List.cons_append, List.nil_append] at hk ⊢
  refine GC.seq' ?_;refine GC.rr 4 ?_;refine GL.sp 31 ?_ ?_
  ·intro h1; try simp only [tst_] at h1
   refine GL.rn 3 ?_;refine GL.dg_ 0 ?_;refine GL.rz 2 ?_;refine GC.co ?_ ?_
   ·intro h2; try simp only [tst_] at h2
    refine GC.skip (?_ : GC _ _ _ _)
    refine GC.seq' ?_;refine GC.block ?_;refine GC.rr 1 ?_;refine GL.cl Tryz.call138 [0] [4] rfl rfl rfl (by exact r7num_ct _ _ _ b _ t E1 4 (by omega) (by omega) (by omega) (by omega) (by omega)) ?_
    rintro _ _ _ ⟨v41, t41, k41, hs41, ⟨ht41, hv41, hw41⟩, rfl, rfl, rfl⟩
    refine GL.pure rfl (p_build ze_59 of_59 rfl rfl) ?_;refine GL.step rfl (t_alloc rfl ze_59) (GL.ex fun b_t9 => ?_);refine GL.sn_ 0 ?_;refine GL.nr 1 ?_;refine GL.cl Tryz.call138 [1] [4] rfl rfl rfl (by exact r7num_ct _ _ _ b _ t41 k41 8 (by omega) (by omega) (by omega) (by omega) (by omega)) ?_
    rintro _ _ _ ⟨v44, t44, k44, hs44, ⟨ht44, hv44, hw44⟩, rfl, rfl, rfl⟩
    refine GL.rn 1 ?_;refine GL.so_ 1 ?_;refine GL.nr 1 ?_;refine GL.cl Tryz.call139 [0] [4] rfl rfl rfl (by exact r7txt_ct _ _ _ b _ t44 k44 (by omega) (by omega) (by omega) (by omega)) ?_
    rintro _ _ _ ⟨x47, t47, k47, A47, c47, hs47, ⟨ht47, hx47⟩, l47, m47, rfl, rfl, rfl⟩
    refine GL.rn 1 ?_;refine GL.so_ 1 ?_;refine GL.nl_ ?_;refine GC.region ?_;refine GL.rn 1 ?_;refine GL.ld_ 2 ?_;refine GL.ln_ 1 3 ?_;refine GL.snoc (j := 1) (js := [0]) (⟨v41, v44, x47⟩ : Page) ((), ((), (A47, c47))) rfl rfl ⟨trivial, trivial, l47, m47⟩ ?_
    refine GL.step rfl (t_buildSlice rfl Tryz.underlying36 sz_59 ze_59 rfl rfl rfl rfl rfl rfl) (GL.ex fun b_t52 => ?_);refine GL.step rfl (t_append (i := 4) (k := 0) rfl el_36 rfl rfl rfl rfl rfl (allOne_mem rfl) (by first | (have := hk.1.1; have := hk.2.1; omega) | (have := hj.1.1; have := hj.2.1; omega)) (fun _ => rfl)) (GL.ex fun v53 => ?_)
    refine GL.shape (i := 4) rfl (fun A_v53 c_v53 e_v53 l_v53 k_v53 => ?_)
    subst e_v53
    refine GL.rn 1 ?_;refine GL.so_ 3 ?_
    refine GL.nil (?_ : GC _ _ _ _)
    refine GC.region ?_;refine GL.rn 1 ?_;refine GL.pure rfl (p_add rfl rfl (w64 (by omega) (by omega))) ?_;refine GL.rn 1 ?_;refine GL.nil ?_
    exact fun a w h => ⟨(k + 1), (ps ++ [(⟨v41, v44, x47⟩ : Page)]), (_), (_), (t47), (k47), (by omega), ⟨⟨by simp; omega, by omega⟩, mn_rng hc27 hk.2.2.1 (by assumption) (by assumption), mn_next (by assumption) hk.2.2.1 (mpg_rd hs41 hs44 hs47) (by omega), fun p hp => by rcases List.mem_append.1 hp with hp | hp; exact hk.2.2.2 p hp; rw [List.mem_singleton.1 hp]; exact hx47⟩, by rw [List.length_append]; exact h.cut (is := [1, 2, 2, 2]) (js := [0, 3, 4, 5, 6]) ⟨rfl, rfl, rfl, rfl, rfl, trivial⟩ rfl rfl⟩
   intro h2; try simp only [tst_] at h2
   refine GC.exit ?_
   exact zq85_
  intro h1; try simp only [tst_] at h1
  refine GL.rz 6 ?_;refine GC.cond_false rfl ?_;refine GC.exit ?_
  exact zq85_
 intro ps V cs u hK
 try dsimp only [List.cons_append, List.nil_append] at hK ⊢
 obtain ⟨hkP, htP, hlP, hdP⟩ := hK
 refine GC.sr_ ?_;refine GL.shape (i := 2) rfl (fun A_PG c_PG e_PG l_PG k_PG => ?_)
 subst e_PG
 refine GL.freezeR (i := 2) (j := 0) rfl rfl (by decide) ?_;refine GL.rn 1 ?_;refine GL.cl Tryz.call138 [0] [5] rfl rfl rfl (by exact r7num_ct _ _ _ b _ u.1 u.2 1 (by omega) (by omega) (by omega) (by omega) (by omega)) ?_
 rintro _ _ _ ⟨v56, t56, k56, hs56, ⟨ht56, hv56, hw56⟩, rfl, rfl, rfl⟩
 refine GL.rz 1 ?_;refine GC.joinK4 (ks := [2, 5, 6]) (is := [2]) (js := [0, 2, 3, 4, 5]) (fun (rs : List Row) (V2 : Value) (cs2 : List Value) (u2 : Nat × Int) => Rd k56 u2.2 (manyF (mrowF b) t56 v56.toNat) (rs, u2.1) ∧ u2.1 ≤ b.length ∧ rs.length ≤ 17592186043904 ∧ ∀ r ∈ rs, r.result.data.length ≤ 16777216) (fun (rs : List Row) (V2 : Value) (cs2 : List Value) (u2 : Nat × Int) => []) (fun (rs : List Row) (V2 : Value) (cs2 : List Value) (u2 : Nat × Int) => [.cells b_t14 [.slice A b.length cp, .int .i64 (u2.1 : Int), .int .i64 u2.2] 171, .cells b_t6 [.int .i64 v16, .int .i64 v19, .int .i64 v23, .slice A_PG ps.length c_PG, V2, .int .i64 0, .slice none 0 0] 39, .row V2 61 4 rs.length cs2]) (fun (rs : List Row) (V2 : Value) (cs2 : List Value) (u2 : Nat × Int) => [Pers.reps kRow rs cs2]) rfl rfl rfl ?_ ?_
 ·refine GC.sr_ ?_
  have hc56 : k56 = 0 → 0 ≤ v56 ∧ v56 < 256 := fun h => by have := num_rng hs56 (by omega) h; omega
  refine GL.nilrow 61 4 ?_;refine GL.know (q := Pers.reps kRow [] []) (fun _ _ _ => rfl) ?_;refine GL.rz 1 ?_;refine GC.block ?_;refine GC.loopK6 (ks := [2, 5, 6, 7]) (is := [3]) (js := [1, 3, 4, 5, 6]) (fun (k : Nat) (rs : List Row) (V : Value) (cs : List Value) (t : Nat) (E1 : Int) => (rs.length = k ∧ t ≤ b.length) ∧ (k = 0 ∨ ((k : Int) ≤ v56 ∧ v56 < 256)) ∧ Mn (mrowF b) k56 E1 t56 k v56.toNat rs t ∧ ∀ r ∈ rs, r.result.data.length ≤ 16777216) (fun (k : Nat) (rs : List Row) (V : Value) (cs : List Value) (t : Nat) (E1 : Int) => [(10, .int .i64 (k : Int))]) (fun (k : Nat) (rs : List Row) (V : Value) (cs : List Value) (t : Nat) (E1 : Int) => [.cells b_t14 [.slice A b.length cp, .int .i64 (t : Int), .int .i64 E1] 171, .cells b_t6 [.int .i64 v16, .int .i64 v19, .int .i64 v23, .slice A_PG ps.length c_PG, V, .int .i64 0, .slice none 0 0] 39, .row V 61 4 rs.length cs]) (fun (k : Nat) (rs : List Row) (V : Value) (cs : List Value) (t : Nat) (E1 : Int) => [Pers.reps kRow rs cs]) (fun (k : Nat) (rs : List Row) (V : Value) (cs : List Value) (t : Nat) (E1 : Int) => v56.toNat - k) (0) ([]) (_) ([]) (t56) (k56) rfl rfl rfl (fun a w h => ⟨⟨⟨rfl, by omega⟩, .inl rfl, ⟨fun h => ⟨h, rfl⟩, fun h => .inl h⟩, by simp⟩, h.cutK (is := [1, 1, 0, 0]) (js := [0, 1, 3, 4, 5, 6]) (ks := [2, 5, 6, 7]) ⟨rfl, trivial⟩ rfl rfl rfl⟩) ?_
  intro k rs V cs t E1 hj
  try dsimp only [List.cons_append, List.nil_append] at hj ⊢
  refine GC.seq' ?_;refine GC.rr 4 ?_;refine GL.sp 60 ?_ ?_
  ·intro h3; try simp only [tst_] at h3
   refine GL.rn 3 ?_;refine GL.dg_ 0 ?_;refine GL.rz 2 ?_;refine GC.co ?_ ?_
   ·intro h4; try simp only [tst_] at h4
    refine GC.skip (?_ : GC _ _ _ _)
    refine GC.seq' ?_;refine GC.block ?_;refine GC.rr 1 ?_;refine GL.cl Tryz.call138 [0] [5] rfl rfl rfl (by exact r7num_ct _ _ _ b _ t E1 8 (by omega) (by omega) (by omega) (by omega) (by omega)) ?_
    rintro _ _ _ ⟨v70, t70, k70, hs70, ⟨ht70, hv70, hw70⟩, rfl, rfl, rfl⟩
    refine GL.pure rfl (p_build ze_61 of_61 rfl rfl) ?_;refine GL.step rfl (t_alloc rfl ze_61) (GL.ex fun b_t11 => ?_);refine GL.sn_ 0 ?_;refine GL.nr 1 ?_;refine GL.cl Tryz.call138 [1] [5] rfl rfl rfl (by exact r7num_ct _ _ _ b _ t70 k70 8 (by omega) (by omega) (by omega) (by omega) (by omega)) ?_
    rintro _ _ _ ⟨v73, t73, k73, hs73, ⟨ht73, hv73, hw73⟩, rfl, rfl, rfl⟩
    refine GL.rn 1 ?_;refine GL.so_ 1 ?_;refine GL.nr 1 ?_;refine GL.cl Tryz.call140 [0] [5] rfl rfl rfl (by exact r7re_ct _ _ _ b _ t73 k73 (by omega) (by omega) (by omega) (by omega)) ?_
    rintro _ _ _ ⟨o76, t76, k76, A76, c76, hs76, ⟨ht76, hd76⟩, l76, m76, rfl, rfl, rfl⟩
    refine GL.rn 1 ?_;refine GL.sn_ 1 ?_;refine GL.nl_ ?_;refine GC.region ?_;refine GL.rn 1 ?_;refine GL.ld_ 2 ?_;refine GL.ln_ 1 4 ?_;refine GL.snoc (j := 1) (js := [0]) (⟨v70, v73, o76⟩ : Row) ((), ((), ((), (A76, c76)))) rfl rfl ⟨trivial, trivial, trivial, l76, m76⟩ ?_
    refine GL.step rfl (t_buildSlice rfl Tryz.underlying37 sz_61 ze_61 rfl rfl rfl rfl rfl rfl) (GL.ex fun b_t81 => ?_);refine GL.step rfl (t_append (i := 4) (k := 0) rfl el_37 rfl rfl rfl rfl rfl (allOne_mem rfl) (by first | (have := hk.1.1; have := hk.2.1; omega) | (have := hj.1.1; have := hj.2.1; omega)) (fun _ => rfl)) (GL.ex fun v82 => ?_)
    refine GL.shape (i := 4) rfl (fun A_v82 c_v82 e_v82 l_v82 k_v82 => ?_)
    subst e_v82
    refine GL.rn 1 ?_;refine GL.so_ 3 ?_
    refine GL.nil (?_ : GC _ _ _ _)
    refine GC.region ?_;refine GL.rn 1 ?_;refine GL.pure rfl (p_add rfl rfl (w64 (by omega) (by omega))) ?_;refine GL.rn 1 ?_;refine GL.nil ?_
    exact fun a w h => ⟨(k + 1), (rs ++ [(⟨v70, v73, o76⟩ : Row)]), (_), (_), (t76), (k76), (by omega), ⟨⟨by simp; omega, by omega⟩, mn_rng hc56 hj.2.2.1 (by assumption) (by assumption), mn_next (by assumption) hj.2.2.1 (mrow_rd hs70 hs73 hs76) (by omega), fun r hr => by rcases List.mem_append.1 hr with hr | hr; exact hj.2.2.2 r hr; rw [List.mem_singleton.1 hr]; exact hd76⟩, by rw [List.length_append]; exact h.cut (is := [1, 2, 2, 2]) (js := [0, 3, 4, 5, 6, 7]) ⟨rfl, rfl, rfl, rfl, rfl, trivial⟩ rfl rfl⟩
   intro h4; try simp only [tst_] at h4
   refine GC.exit ?_
   exact zq86_
  intro h3; try simp only [tst_] at h3
  refine GL.rz 6 ?_;refine GC.cond_false rfl ?_;refine GC.exit ?_
  exact zq86_
 intro rs V2 cs2 u2 hK2
 try dsimp only [List.cons_append, List.nil_append] at hK2 ⊢
 obtain ⟨hkR, htR, hlR, hdR⟩ := hK2
 refine GC.sr_ ?_;refine GL.shape (i := 2) rfl (fun A_RW c_RW e_RW l_RW k_RW => ?_)
 subst e_RW
 refine GL.freezeR (i := 2) (j := 0) rfl rfl (by decide) ?_;refine GL.rn 1 ?_;refine GL.cl Tryz.call141 [0] [6] rfl rfl rfl (by exact r7gp_ct _ _ _ b _ u2.1 u2.2 (by omega) (by omega) (by omega)) ?_
 rintro _ _ _ ⟨g85, t85, k85, A85, c85, hs85, ⟨ht85, hg85⟩, l85, m85, rfl, rfl, rfl⟩
 refine GL.rn 1 ?_;refine GL.sn_ 1 ?_;refine GL.nl_ ?_;refine GC.seq' ?_;refine GC.sr_ ?_
 have hSL : SttLen (⟨v16, ⟨v19, v23⟩, ps, rs, g85⟩ : Stt) := ⟨hlP, hlR, by show g85.members.length ≤ _; omega, fun p hp => by have := hdP p hp; show p.data.length ≤ _; omega, fun r hr => by have := hdR r hr; show r.result.data.length ≤ _; omega⟩
 have hR : ∀ E2, ((k85 ≠ 0 ∧ E2 = k85) ∨ (k85 = 0 ∧ sttE (⟨v16, ⟨v19, v23⟩, ps, rs, g85⟩ : Stt) = 0 ∧ (t85 : Int) ≤ 33554432 ∧ E2 = 0) ∨ ((sttE (⟨v16, ⟨v19, v23⟩, ps, rs, g85⟩ : Stt) ≠ 0 ∨ 33554432 < (t85 : Int)) ∧ E2 ≠ 0)) → Rd 0 E2 (mstF b 0) ((⟨v16, ⟨v19, v23⟩, ps, rs, g85⟩ : Stt), t85) := fun E2 h => by unfold mstF; exact Rd.bind hs16 (Rd.bind hs19 (Rd.bind hs23 (Rd.bind hs27 (Rd.bind hkP (Rd.bind hs56 (Rd.bind hkR (Rd.bind hs85 (mstC_rd h))))))))
 refine GL.rn 3 ?_;refine GL.ld_ 0 ?_;refine GL.rn 2 ?_;refine GL.sp 92 ?_ ?_
 ·intro h5; try simp only [tst_] at h5
  refine GL.lg_ 1 7 ?_;refine GL.stepG rfl (s := 92) rfl rfl (t_call rfl Tryz.call34 rfl (is := []) (js := [3, 1, 0]) rfl rfl (by exact rstate_ct (⟨v16, ⟨v19, v23⟩, ps, rs, g85⟩ : Stt) _ _ _ _ _ _ hSL)) (GL.ret ?_)
  rintro _ _ _ ⟨rfl, rfl, rfl⟩
  refine GL.rz 2 ?_;refine GC.co ?_ ?_
  ·intro h6; try simp only [tst_] at h6
   refine GC.region ?_;refine GL.rn 3 ?_;refine GL.so_ 0 ?_
   refine GL.nil (?_ : GC _ _ _ _)
   refine GC.seq' ?_;refine GC.rr 3 ?_;refine GL.ld_ 0 ?_;refine GL.rz 8 ?_;refine GC.cond_false rfl ?_
   refine GC.skip (?_ : GC _ _ _ _)
   refine GC.seq' ?_;refine GC.rr 3 ?_;refine GL.ld_ 0 ?_;refine GL.rz 1 ?_;refine GC.cond_true rfl ?_;refine GC.seq' ?_;refine GC.regionC (m := 8) (is := [0, 0]) (js := (up 0 8)) wide_ rfl rfl rfl ?_;refine GA.tp 0 rfl [0, 0] (up 0 8) (i_pure (p_build ze_39 of_39 rfl rfl)) ?_
   refine GA.tk 1 [0, 0] (up 0 8) ?_;refine GA.tk 2 [0, 0] (up 0 8) ?_;refine GA.tk 3 [0, 0] (up 0 8) ?_;refine GA.tp 4 rfl [0, 0] (up 0 8) (i_mem (m_load (i := 0) rfl rfl ag_45 rfl)) ?_;refine GA.al [5] ?_
   refine GAs.cons (i := 5) rfl rfl (t_storeN (i := 2) rfl rfl rfl sz_39 rfl rfl rfl) (by rintro a w h; exact h.me [0, 0] (up 0 8)) ?_ GAs.nil
   refine GA.tk 6 [0, 0] (up 0 8) ?_;refine GA.tk 7 [0, 0] (up 0 8) ?_
   refine GA.done (by kernel_rfl) (?_ : GC _ _ _ _)
   refine GC.ret (Fin.c2 2 39 3 4 2 7 [] [6, 5, 4] ?_)
   exact zq87_
  intro h6; try simp only [tst_] at h6
  refine GC.skip (?_ : GC _ _ _ _)
  refine GC.seq' ?_;refine GC.rr 3 ?_;refine GL.ld_ 0 ?_;refine GL.rn 2 ?_;refine GL.sp 105 ?_ ?_
  ·intro h7; try simp only [tst_] at h7
   refine GL.rn 3 ?_;refine GL.dg_ 0 ?_;refine GL.rz 2 ?_;refine GC.co ?_ ?_
   ·intro h8; try simp only [tst_] at h8
    refine GC.region ?_;refine GL.rn 3 ?_;refine GL.so_ 0 ?_
    refine GL.nil (?_ : GC _ _ _ _)
    refine GC.seq' ?_;refine GC.rr 3 ?_;refine GL.ld_ 0 ?_;refine GL.rz 1 ?_;refine GC.cond_true rfl ?_;refine GC.seq' ?_;refine GC.regionC (m := 8) (is := [0, 0]) (js := (up 0 8)) wide_ rfl rfl rfl ?_;refine GA.tp 0 rfl [0, 0] (up 0 8) (i_pure (p_build ze_39 of_39 rfl rfl)) ?_
    refine GA.tk 1 [0, 0] (up 0 8) ?_;refine GA.tk 2 [0, 0] (up 0 8) ?_;refine GA.tk 3 [0, 0] (up 0 8) ?_;refine GA.tp 4 rfl [0, 0] (up 0 8) (i_mem (m_load (i := 0) rfl rfl ag_45 rfl)) ?_;refine GA.al [5] ?_
    refine GAs.cons (i := 5) rfl rfl (t_storeN (i := 2) rfl rfl rfl sz_39 rfl rfl rfl) (by rintro a w h; exact h.me [0, 0] (up 0 8)) ?_ GAs.nil
    refine GA.tk 6 [0, 0] (up 0 8) ?_;refine GA.tk 7 [0, 0] (up 0 8) ?_
    refine GA.done (by kernel_rfl) (?_ : GC _ _ _ _)
    refine GC.ret (Fin.c2 2 39 3 4 2 7 [] [6, 5, 4] ?_)
    exact zq87_
   intro h8; try simp only [tst_] at h8
   refine GC.skip (?_ : GC _ _ _ _)
   refine GC.seq' ?_;refine GC.rr 3 ?_;refine GL.ld_ 0 ?_;refine GL.rz 1 ?_;refine GC.co ?_ ?_
   ·intro h9; try simp only [tst_] at h9
    refine GC.seq' ?_;refine GC.regionC (m := 8) (is := [0, 0]) (js := (up 0 8)) wide_ rfl rfl rfl ?_;refine GA.tp 0 rfl [0, 0] (up 0 8) (i_pure (p_build ze_39 of_39 rfl rfl)) ?_;refine GA.tk 1 [0, 0] (up 0 8) ?_;refine GA.tk 2 [0, 0] (up 0 8) ?_
    refine GA.tk 3 [0, 0] (up 0 8) ?_;refine GA.tp 4 rfl [0, 0] (up 0 8) (i_mem (m_load (i := 0) rfl rfl ag_45 rfl)) ?_;refine GA.al [5] ?_
    refine GAs.cons (i := 5) rfl rfl (t_storeN (i := 2) rfl rfl rfl sz_39 rfl rfl rfl) (by rintro a w h; exact h.me [0, 0] (up 0 8)) ?_ GAs.nil
    refine GA.tk 6 [0, 0] (up 0 8) ?_;refine GA.tk 7 [0, 0] (up 0 8) ?_
    refine GA.done (by kernel_rfl) (?_ : GC _ _ _ _)
    refine GC.ret (Fin.c2 2 39 3 4 2 7 [] [6, 5, 4] ?_)
    exact zq87_
   intro h9; try simp only [tst_] at h9
   refine GC.skip (?_ : GC _ _ _ _)
   refine GC.seq' ?_;refine GC.regionC (m := 8) (is := [0, 0]) (js := (up 0 8)) wide_ rfl rfl rfl ?_;refine GA.tp 0 rfl [0, 0] (up 0 8) (i_mem (m_loadN (i := 1) rfl rfl ag_39 (vs := [_, _, _, _, _, _, _]) sz_39 ⟨rfl, rfl, rfl, rfl, rfl, rfl, rfl, trivial⟩)) ?_
   refine GA.tk 1 [0, 0] (up 0 8) ?_;refine GA.tk 2 [0, 0] (up 0 8) ?_;refine GA.tk 3 [0, 0] (up 0 8) ?_;refine GA.tp 4 rfl [0, 0] (up 0 8) (i_mem (m_load (i := 0) rfl rfl ag_3 rfl)) ?_;refine GA.al [5] ?_
   refine GAs.cons (i := 5) rfl rfl (t_storeN (i := 2) rfl rfl rfl sz_39 rfl rfl rfl) (by rintro a w h; exact h.me [0, 0] (up 0 8)) ?_ GAs.nil
   refine GA.tk 6 [0, 0] (up 0 8) ?_;refine GA.tk 7 [0, 0] (up 0 8) ?_
   refine GA.done (by kernel_rfl) (?_ : GC _ _ _ _)
   refine GC.ret (Fin.c2 2 39 3 4 2 7 [] [3, 1, 0] ?_)
   exact zq88_
  intro h7; try simp only [tst_] at h7
  refine GL.rz 6 ?_;refine GC.cond_false rfl ?_
  refine GC.skip (?_ : GC _ _ _ _)
  refine GC.seq' ?_;refine GC.rr 3 ?_;refine GL.ld_ 0 ?_;refine GL.rz 1 ?_;refine GC.co ?_ ?_
  ·intro h10; try simp only [tst_] at h10
   refine GC.seq' ?_;refine GC.regionC (m := 8) (is := [0, 0]) (js := (up 0 8)) wide_ rfl rfl rfl ?_;refine GA.tp 0 rfl [0, 0] (up 0 8) (i_pure (p_build ze_39 of_39 rfl rfl)) ?_;refine GA.tk 1 [0, 0] (up 0 8) ?_;refine GA.tk 2 [0, 0] (up 0 8) ?_
   refine GA.tk 3 [0, 0] (up 0 8) ?_;refine GA.tp 4 rfl [0, 0] (up 0 8) (i_mem (m_load (i := 0) rfl rfl ag_45 rfl)) ?_;refine GA.al [5] ?_
   refine GAs.cons (i := 5) rfl rfl (t_storeN (i := 2) rfl rfl rfl sz_39 rfl rfl rfl) (by rintro a w h; exact h.me [0, 0] (up 0 8)) ?_ GAs.nil
   refine GA.tk 6 [0, 0] (up 0 8) ?_;refine GA.tk 7 [0, 0] (up 0 8) ?_
   refine GA.done (by kernel_rfl) (?_ : GC _ _ _ _)
   refine GC.ret (Fin.c2 2 39 3 4 2 7 [] [6, 5, 4] ?_)
   exact zq87_
  intro h10; try simp only [tst_] at h10
  refine GC.skip (?_ : GC _ _ _ _)
  refine GC.seq' ?_;refine GC.regionC (m := 8) (is := [0, 0]) (js := (up 0 8)) wide_ rfl rfl rfl ?_;refine GA.tp 0 rfl [0, 0] (up 0 8) (i_mem (m_loadN (i := 1) rfl rfl ag_39 (vs := [_, _, _, _, _, _, _]) sz_39 ⟨rfl, rfl, rfl, rfl, rfl, rfl, rfl, trivial⟩)) ?_
  refine GA.tk 1 [0, 0] (up 0 8) ?_;refine GA.tk 2 [0, 0] (up 0 8) ?_;refine GA.tk 3 [0, 0] (up 0 8) ?_;refine GA.tp 4 rfl [0, 0] (up 0 8) (i_mem (m_load (i := 0) rfl rfl ag_3 rfl)) ?_;refine GA.al [5] ?_
  refine GAs.cons (i := 5) rfl rfl (t_storeN (i := 2) rfl rfl rfl sz_39 rfl rfl rfl) (by rintro a w h; exact h.me [0, 0] (up 0 8)) ?_ GAs.nil
  refine GA.tk 6 [0, 0] (up 0 8) ?_;refine GA.tk 7 [0, 0] (up 0 8) ?_
  refine GA.done (by kernel_rfl) (?_ : GC _ _ _ _)
  refine GC.ret (Fin.c2 2 39 3 4 2 7 [] [3, 1, 0] ?_)
  exact zq88_
 intro h5; try simp only [tst_] at h5
 refine GL.rz 4 ?_;refine GC.cond_false rfl ?_
 refine GC.skip (?_ : GC _ _ _ _)
 refine GC.seq' ?_;refine GC.rr 3 ?_;refine GL.ld_ 0 ?_;refine GL.rn 2 ?_;refine GL.sp 105 ?_ ?_
 ·intro h11; try simp only [tst_] at h11
  refine GL.rn 3 ?_;refine GL.dg_ 0 ?_;refine GL.rz 2 ?_;refine GC.co ?_ ?_
  ·intro h12; try simp only [tst_] at h12
   refine GC.region ?_;refine GL.rn 3 ?_;refine GL.so_ 0 ?_
   refine GL.nil (?_ : GC _ _ _ _)
   refine GC.seq' ?_;refine GC.rr 3 ?_;refine GL.ld_ 0 ?_;refine GL.rz 1 ?_;refine GC.cond_true rfl ?_;refine GC.seq' ?_;refine GC.regionC (m := 8) (is := [0, 0]) (js := (up 0 8)) wide_ rfl rfl rfl ?_;refine GA.tp 0 rfl [0, 0] (up 0 8) (i_pure (p_build ze_39 of_39 rfl rfl)) ?_
   refine GA.tk 1 [0, 0] (up 0 8) ?_;refine GA.tk 2 [0, 0] (up 0 8) ?_;refine GA.tk 3 [0, 0] (up 0 8) ?_;refine GA.tp 4 rfl [0, 0] (up 0 8) (i_mem (m_load (i := 0) rfl rfl ag_45 rfl)) ?_;refine GA.al [5] ?_
   refine GAs.cons (i := 5) rfl rfl (t_storeN (i := 2) rfl rfl rfl sz_39 rfl rfl rfl) (by rintro a w h; exact h.me [0, 0] (up 0 8)) ?_ GAs.nil
   refine GA.tk 6 [0, 0] (up 0 8) ?_;refine GA.tk 7 [0, 0] (up 0 8) ?_
   refine GA.done (by kernel_rfl) (?_ : GC _ _ _ _)
   refine GC.ret (Fin.c2 2 39 3 4 2 7 [] [6, 5, 4] ?_)
   exact zq87_
  intro h12; try simp only [tst_] at h12
  refine GC.skip (?_ : GC _ _ _ _)
  refine GC.seq' ?_;refine GC.rr 3 ?_;refine GL.ld_ 0 ?_;refine GL.rz 1 ?_;refine GC.co ?_ ?_
  ·intro h13; try simp only [tst_] at h13
   refine GC.seq' ?_;refine GC.regionC (m := 8) (is := [0, 0]) (js := (up 0 8)) wide_ rfl rfl rfl ?_;refine GA.tp 0 rfl [0, 0] (up 0 8) (i_pure (p_build ze_39 of_39 rfl rfl)) ?_;refine GA.tk 1 [0, 0] (up 0 8) ?_;refine GA.tk 2 [0, 0] (up 0 8) ?_
   refine GA.tk 3 [0, 0] (up 0 8) ?_;refine GA.tp 4 rfl [0, 0] (up 0 8) (i_mem (m_load (i := 0) rfl rfl ag_45 rfl)) ?_;refine GA.al [5] ?_
   refine GAs.cons (i := 5) rfl rfl (t_storeN (i := 2) rfl rfl rfl sz_39 rfl rfl rfl) (by rintro a w h; exact h.me [0, 0] (up 0 8)) ?_ GAs.nil
   refine GA.tk 6 [0, 0] (up 0 8) ?_;refine GA.tk 7 [0, 0] (up 0 8) ?_
   refine GA.done (by kernel_rfl) (?_ : GC _ _ _ _)
   refine GC.ret (Fin.c2 2 39 3 4 2 7 [] [6, 5, 4] ?_)
   exact zq87_
  intro h13; try simp only [tst_] at h13
  refine GC.skip (?_ : GC _ _ _ _)
  refine GC.seq' ?_;refine GC.regionC (m := 8) (is := [0, 0]) (js := (up 0 8)) wide_ rfl rfl rfl ?_;refine GA.tp 0 rfl [0, 0] (up 0 8) (i_mem (m_loadN (i := 1) rfl rfl ag_39 (vs := [_, _, _, _, _, _, _]) sz_39 ⟨rfl, rfl, rfl, rfl, rfl, rfl, rfl, trivial⟩)) ?_
  refine GA.tk 1 [0, 0] (up 0 8) ?_;refine GA.tk 2 [0, 0] (up 0 8) ?_;refine GA.tk 3 [0, 0] (up 0 8) ?_;refine GA.tp 4 rfl [0, 0] (up 0 8) (i_mem (m_load (i := 0) rfl rfl ag_3 rfl)) ?_;refine GA.al [5] ?_
  refine GAs.cons (i := 5) rfl rfl (t_storeN (i := 2) rfl rfl rfl sz_39 rfl rfl rfl) (by rintro a w h; exact h.me [0, 0] (up 0 8)) ?_ GAs.nil
  refine GA.tk 6 [0, 0] (up 0 8) ?_;refine GA.tk 7 [0, 0] (up 0 8) ?_
  refine GA.done (by kernel_rfl) (?_ : GC _ _ _ _)
  refine GC.ret (Fin.c2 2 39 3 4 2 7 [] [3, 1, 0] ?_)
  exact zq88_
 intro h11; try simp only [tst_] at h11
 refine GL.rz 6 ?_;refine GC.cond_false rfl ?_
 refine GC.skip (?_ : GC _ _ _ _)
 refine GC.seq' ?_;refine GC.rr 3 ?_;refine GL.ld_ 0 ?_;refine GL.rz 1 ?_;refine GC.co ?_ ?_
 ·intro h14; try simp only [tst_] at h14
  refine GC.seq' ?_;refine GC.regionC (m := 8) (is := [0, 0]) (js := (up 0 8)) wide_ rfl rfl rfl ?_;refine GA.tp 0 rfl [0, 0] (up 0 8) (i_pure (p_build ze_39 of_39 rfl rfl)) ?_;refine GA.tk 1 [0, 0] (up 0 8) ?_;refine GA.tk 2 [0, 0] (up 0 8) ?_
  refine GA.tk 3 [0, 0] (up 0 8) ?_;refine GA.tp 4 rfl [0, 0] (up 0 8) (i_mem (m_load (i := 0) rfl rfl ag_45 rfl)) ?_;refine GA.al [5] ?_
  refine GAs.cons (i := 5) rfl rfl (t_storeN (i := 2) rfl rfl rfl sz_39 rfl rfl rfl) (by rintro a w h; exact h.me [0, 0] (up 0 8)) ?_ GAs.nil
  refine GA.tk 6 [0, 0] (up 0 8) ?_;refine GA.tk 7 [0, 0] (up 0 8) ?_
  refine GA.done (by kernel_rfl) (?_ : GC _ _ _ _)
  refine GC.ret (Fin.c2 2 39 3 4 2 7 [] [6, 5, 4] ?_)
  exact zq87_
 intro h14; try simp only [tst_] at h14
 refine GC.skip (?_ : GC _ _ _ _)
 refine GC.seq' ?_;refine GC.regionC (m := 8) (is := [0, 0]) (js := (up 0 8)) wide_ rfl rfl rfl ?_;refine GA.tp 0 rfl [0, 0] (up 0 8) (i_mem (m_loadN (i := 1) rfl rfl ag_39 (vs := [_, _, _, _, _, _, _]) sz_39 ⟨rfl, rfl, rfl, rfl, rfl, rfl, rfl, trivial⟩)) ?_
 refine GA.tk 1 [0, 0] (up 0 8) ?_;refine GA.tk 2 [0, 0] (up 0 8) ?_;refine GA.tk 3 [0, 0] (up 0 8) ?_;refine GA.tp 4 rfl [0, 0] (up 0 8) (i_mem (m_load (i := 0) rfl rfl ag_3 rfl)) ?_;refine GA.al [5] ?_
 refine GAs.cons (i := 5) rfl rfl (t_storeN (i := 2) rfl rfl rfl sz_39 rfl rfl rfl) (by rintro a w h; exact h.me [0, 0] (up 0 8)) ?_ GAs.nil
 refine GA.tk 6 [0, 0] (up 0 8) ?_;refine GA.tk 7 [0, 0] (up 0 8) ?_
 refine GA.done (by kernel_rfl) (?_ : GC _ _ _ _)
 refine GC.ret (Fin.c2 2 39 3 4 2 7 [] [3, 1, 0] ?_)
 exact zq88_
def bI (b : Bool) : Int := if b = true then 1 else 0
theorem bI0 (b : Bool) : (bI b = 0) = (b = false) := by cases b <;> simp [bI]
abbrev lefR (p e : Nat) (A : Option Addr) (b : List UInt8) (cp : Nat) (bad : Bool) : List Own := [.cells p [.slice A b.length cp, .bool bad] e]
theorem zq89_ {X : Prop} (h : X := by (exact ⟨true, b, A, cp, ⟨fun h => by (cases h), fun _ => by first | exact .inl (by assumption) | exact .inr (by assumption)⟩, Nat.le_refl _, hcp, hcp', rfl, rfl, rfl⟩)) : X := h
theorem rtk_ct (p e_ : Nat) (A : Option Addr) (b : List UInt8) (cp n : Nat) (e : Int) (bad : Bool) (hn : e = 0 → n ≤ b.length) (hcp : b.length ≤ cp) (hcp' : cp ≤ 9223372036854775807) : Ct Tryz.prog 100 [.pointer (some ⟨p, 0, none⟩), .int .i64 (n : Int), .int .i64 e] (lefR p e_ A b cp bad) [Pers.row Kd.u8 A b]
    (fun u G Q => ∃ (z : Bool) (L' : List UInt8) (A' : Option Addr) (c' : Nat), ((z = false → bad = false ∧ e = 0 ∧ L' = b.drop n) ∧ (z = true → bad = true ∨ e ≠ 0)) ∧ L'.length ≤ b.length ∧ L'.length ≤ c' ∧ c' ≤ 9223372036854775807 ∧ u = .tuple #[] ∧ G = lefR p e_ A' L' c' z ∧ Q = [Pers.row Kd.u8 A' L']) := by
 refine Ct.intro Tryz.func100 rfl rfl rfl (fun c hc => ?_)
 refine GC.seq' ?_;refine GC.rr 3 ?_;refine GL.ld_ 0 ?_;refine GL.rn 1 ?_;refine GL.sp 10 ?_ ?_
 ·intro h1; try simp only [tst_] at h1
  refine GL.rz 3 ?_;refine GC.cond_true rfl ?_;refine GC.rr 3 ?_;refine GL.so_ 0 ?_;refine GL.nl_ ?_;refine GC.ret ?_
  refine fun a w h => Fin.back0 rfl (is := [0]) (js := [0]) rfl rfl ?_ h
  clear h
  exact zq89_
 intro h1; try simp only [tst_] at h1
 refine GL.rz 3 ?_;refine GC.co ?_ ?_
 ·intro h2; try simp only [tst_] at h2
  refine GC.rr 3 ?_;refine GL.so_ 0 ?_;refine GL.nl_ ?_;refine GC.ret ?_
  refine fun a w h => Fin.back0 rfl (is := [0]) (js := [0]) rfl rfl ?_ h
  clear h
  exact zq89_
 intro h2; try simp only [tst_] at h2
 refine GC.skip (?_ : GC _ _ _ _)
 refine GC.region ?_
 have hn_ := hn (by omega)
 refine GL.rn 4 ?_;refine GL.ld_ 0 ?_;refine GL.rn 1 ?_;refine GL.step rfl (t_cut_l (j := 0) rfl rfl rfl rfl Tryz.underlying25 sz_5 (by omega) (by omega) (by omega)) ?_
 rw [show ((n : Int)).toNat = n from rfl, seg_drop]
 refine GL.rn 2 ?_;refine GL.so_ 0 ?_;refine GL.nil ?_
 refine fun a w h => Fin.back0 rfl (is := [0]) (js := [0]) rfl rfl ?_ h
 clear h
 exact ⟨_, b.drop n, _, _, ⟨fun h => ⟨by first | assumption | simp_all, by omega, rfl⟩, fun h => by simp_all⟩, drop_len, by rw [List.length_drop]; omega, by omega, rfl, rfl, rfl⟩
theorem rnb_ct (p e_ : Nat) (A : Option Addr) (b : List UInt8) (cp n : Nat) (bad : Bool) (hn : 1 ≤ n) (hn' : n ≤ 8) (hcp : b.length ≤ cp) (hcp' : cp ≤ 9223372036854775807) (hb : b.length ≤ 10000000000000) : Ct Tryz.prog 52 [.pointer (some ⟨p, 0, none⟩), .int .i64 (n : Int)] (lefR p e_ A b cp bad) [Pers.row Kd.u8 A b]
    (fun u G Q => ∃ (v : Int) (L' : List UInt8) (z : Bool) (A' : Option Addr) (c' : Nat), Rd (bI bad) (bI z) (wnumF n b) (v, L') ∧ (0 ≤ v ∧ v < ((256 ^ n : Nat) : Int) ∧ L'.length ≤ b.length) ∧ L'.length ≤ c' ∧ c' ≤ 9223372036854775807 ∧ u = .int .u64 v ∧ G = lefR p e_ A' L' c' z ∧ Q = [Pers.row Kd.u8 A' L']) := by
 have hgv : getV b 0 n < 256 ^ n := by
   unfold getV; split
   ·exact valN_rng (by assumption) (by omega)
   exact Nat.pow_pos (by decide)
 refine Ct.intro Tryz.func52 rfl rfl rfl (fun c hc => ?_)
 refine GC.rg 1 ?_;refine GC.rr 3 ?_;refine GL.ld_ 0 ?_;refine GL.rn 1 ?_;refine GL.cl Tryz.call98 [] [0] rfl rfl rfl (by exact rget_ct _ b _ 0 n hn hn' hcp (by omega) (by omega)) ?_
 rintro _ _ _ ⟨rfl, rfl, rfl⟩
 refine GL.rz 7 ?_;refine GC.rr 3 ?_;refine GL.cl Tryz.call100 [0] [0] rfl rfl rfl (by exact rtk_ct _ _ _ b _ n (getE b 0 n) bad (fun h => by have := getE_zero h; omega) hcp hcp') ?_
 rintro _ _ _ ⟨z21, L21, A21, c21, ht21, hx21, l21, k21, rfl, rfl, rfl⟩
 refine GL.nr 2 ?_;refine GL.nl_ ?_;refine GC.ret (Fin.b1 4 [0] [0] ?_)
 refine ⟨_, L21, z21, A21, c21, ⟨fun h => ?_, fun h => ?_⟩, ⟨by omega, by omega, hx21⟩, l21, k21, rfl, rfl, rfl⟩
 ·rw [bI0] at h ⊢
  obtain ⟨f1, f2, f3⟩ := ht21.1 h
  have hq := getE_zero f2
  exact ⟨f1, by rw [wnumF, if_pos (by omega), f3, getV, if_pos hq, Nat.zero_add]⟩
 have hz : z21 = true := by cases z21; exact absurd rfl h; rfl
 rcases ht21.2 hz with g | g
 ·exact .inl (by rw [g]; decide)
 exact .inr (by rw [wnumF, if_neg (fun hq => g (if_pos (by omega)))])
theorem rsm_ct (p e_ : Nat) (A : Option Addr) (b : List UInt8) (cp : Nat) (bad : Bool) (hcp : b.length ≤ cp) (hcp' : cp ≤ 9223372036854775807) (hb : b.length ≤ 10000000000000) : Ct Tryz.prog 53 [.pointer (some ⟨p, 0, none⟩)] (lefR p e_ A b cp bad) [Pers.row Kd.u8 A b]
    (fun u G Q => ∃ (v : Int) (L' : List UInt8) (z : Bool) (A' : Option Addr) (c' : Nat), Rd (bI bad) (bI z) (wsmF b) (v, L') ∧ (0 ≤ v ∧ v ≤ 4611686018427387904 ∧ L'.length ≤ b.length) ∧ L'.length ≤ c' ∧ c' ≤ 9223372036854775807 ∧ u = .int .i64 v ∧ G = lefR p e_ A' L' c' z ∧ Q = [Pers.row Kd.u8 A' L']) := by
 refine Ct.intro Tryz.func53 rfl rfl rfl (fun c hc => ?_)
 refine GC.rg 1 ?_;refine GC.rr 1 ?_;refine GL.cl Tryz.call52 [0] [0] rfl rfl rfl (by exact rnb_ct _ _ _ b _ 8 bad (by omega) (by omega) hcp hcp' hb) ?_
 rintro _ _ _ ⟨v5, L5, z5, A5, c5, hs5, ⟨hv5, hw5, hx5⟩, l5, k5, rfl, rfl, rfl⟩
 refine GL.rz 1 ?_;refine GC.seq' ?_;refine GC.rg 2 ?_;refine GC.co ?_ ?_
 ·intro h1; try simp only [tst_] at h1
  refine GC.rr 3 ?_;refine GL.so_ 0 ?_;refine GL.nr 1 ?_;refine GL.nl_ ?_;refine GC.ret (Fin.b1 2 [0] [0] ?_)
  exact ⟨0, L5, true, A5, c5, ⟨fun h => by (cases h), fun _ => (Decidable.em (bI z5 = 0)).elim (fun hz => .inr (by rw [wsmF, (hs5.1 hz).2, Option.bind_some]; exact if_neg (by omega))) (fun hz => (hs5.2 hz).imp id fun g => by rw [wsmF, g]; rfl)⟩, ⟨by omega, by omega, hx5⟩, l5, k5, rfl, rfl, rfl⟩
 intro h1; try simp only [tst_] at h1
 refine GC.skip (?_ : GC _ _ _ _)
 refine GC.rr 1 ?_;refine GL.pure rfl (p_convR (t := 23) (r := v5) (by rw [Tryz.underlying23]; simp) Tryz.underlying3 rfl (cvI (by omega) (by omega))) ?_
 refine GL.rz 1 ?_;refine GC.ret (Fin.b1 2 [0] [0] ?_)
 exact ⟨v5, L5, z5, A5, c5, by unfold wsmF;refine Rd.bind hs5 ?_; dsimp only; rw [if_pos (by omega)]; exact Rd.same _, ⟨by omega, by omega, hx5⟩, l5, k5, rfl, rfl, rfl⟩
theorem zq90_ {X : Prop} (h : X := by (exact fun a w h => ⟨(k + 1), (xs ++ [v27]), (_), (L27), (z27), (_), (_), (by omega), ⟨⟨by simp; omega, by omega, l27, k27⟩, mn_rng hc10 hk.2.2 (by rw [bI0]; assumption) (by assumption), mn_next (by rw [bI0]; assumption) hk.2.2 hs27 (by omega)⟩, h.cut (is := [1, 1, 1, 1]) (js := [0, 2, 3, 4]) ⟨rfl, rfl, rfl, rfl, rfl, trivial⟩ rfl rfl⟩)) : X := h
theorem zq91_ {X : Prop} (h : X := by (exact ⟨⟨v7, xs⟩, L, z, _, _, _, _, by unfold wgrpF; exact Rd.bind hs7 (Rd.bind hs10 (Rd.map (fun r : List Int × List UInt8 => ((⟨v7, r.1⟩ : Grp), r.2)) (mn_fin hc10 hk.2.1 hk.2.2 (fun h => by rw [bI0] at h; first | omega | simp_all)))), ⟨hk.1.2.1, by have := hk.1.1; have := hk.2.1; show xs.length ≤ 255; omega⟩, hk.1.2.2.1, hk.1.2.2.2, rfl, rfl, rfl⟩)) : X := h
theorem rgr_ct (p e_ : Nat) (A : Option Addr) (b : List UInt8) (cp : Nat) (bad : Bool) (hcp : b.length ≤ cp) (hcp' : cp ≤ 9223372036854775807) (hb : b.length ≤ 10000000000000) : Ct Tryz.prog 103 [.pointer (some ⟨p, 0, none⟩)] (lefR p e_ A b cp bad) [Pers.row Kd.u8 A b]
    (fun u G Q => ∃ (g : Grp) (L' : List UInt8) (z : Bool) (A' : Option Addr) (c' : Nat) (B' : Option Addr) (d' : Nat), Rd (bI bad) (bI z) (wgrpF b) (g, L') ∧ (L'.length ≤ b.length ∧ g.members.length ≤ 255) ∧ L'.length ≤ c' ∧ c' ≤ 9223372036854775807 ∧ u = .agg #[.int .i64 g.epoch, .slice B' g.members.length d'] ∧ G = lefR p e_ A' L' c' z ∧ Q = [Pers.row kI B' g.members, Pers.row Kd.u8 A' L']) := by
 have hp1 : (256 : Nat) ^ 1 = 256 := p256_1
 refine Ct.intro Tryz.func103 rfl rfl rfl (fun c hc => ?_)
 refine GC.sr_ ?_;refine GL.step rfl (t_alloc rfl ze_33) (GL.ex fun b_t2 => ?_);refine GL.nr 1 ?_;refine GL.cl Tryz.call53 [1] [0] rfl rfl rfl (by exact rsm_ct _ _ _ b _ bad hcp hcp' hb) ?_
 rintro _ _ _ ⟨v7, L7, z7, A7, c7, hs7, ⟨hv7, hw7, hx7⟩, l7, k7, rfl, rfl, rfl⟩
 refine GL.pure rfl (p_build ze_33 of_33 rfl rfl) ?_;refine GL.step rfl (t_alloc rfl ze_33) (GL.ex fun b_t3 => ?_);refine GL.sn_ 0 ?_;refine GL.nr 1 ?_;refine GL.cl Tryz.call52 [1] [0] rfl rfl rfl (by exact rnb_ct _ _ _ L7 _ 1 z7 (by omega) (by omega) l7 k7 (by omega)) ?_
 rintro _ _ _ ⟨v10, L10, z10, A10, c10, hs10, ⟨hv10, hw10, hx10⟩, l10, k10, rfl, rfl, rfl⟩
 refine GL.pure rfl (p_convR (t := 23) (r := v10) (by rw [Tryz.underlying23]; simp) Tryz.underlying3 rfl (cvI (by omega) (by omega))) ?_;refine GL.rz 1 ?_;refine GC.seq' ?_;refine GC.sr_ ?_
 have hc10 : bI z10 = 0 → 0 ≤ v10 ∧ v10 < 256 := fun _ => by omega
 refine GL.nilrow 3 1 ?_;refine GL.rz 1 ?_;refine GC.block ?_;refine GC.loopK7 (ks := [0, 2, 3, 4]) (is := [3]) (js := [0, 1, 2]) (fun (k : Nat) (xs : List Int) (U : Value) (L : List UInt8) (z : Bool) (Al : Option Addr) (cl : Nat) => (xs.length = k ∧ L.length ≤ b.length ∧ L.length ≤ cl ∧ cl ≤ 9223372036854775807) ∧ (k = 0 ∨ ((k : Int) ≤ v10 ∧ v10 < 256)) ∧ Mn (wnumF 1) (bI z10) (bI z) L10 k v10.toNat xs L) (fun (k : Nat) (xs : List Int) (U : Value) (L : List UInt8) (z : Bool) (Al : Option Addr) (cl : Nat) => [(5, .int .i64 (k : Int))]) (fun (k : Nat) (xs : List Int) (U : Value) (L : List UInt8) (z : Bool) (Al : Option Addr) (cl : Nat) => [.cells p [.slice Al L.length cl, .bool z] e_, .cells b_t3 [.int .i64 v7, U] 33, .row U 3 1 xs.length (xs.map (Value.int .i64))]) (fun (k : Nat) (xs : List Int) (U : Value) (L : List UInt8) (z : Bool) (Al : Option Addr) (cl : Nat) => [Pers.row Kd.u8 Al L]) (fun (k : Nat) (xs : List Int) (U : Value) (L : List UInt8) (z : Bool) (Al : Option Addr) (cl : Nat) => v10.toNat - k) (0) ([]) (_) (L10) (z10) (_) (_) rfl rfl rfl (fun a w h => ⟨⟨⟨rfl, by omega, l10, k10⟩, .inl rfl, fun h => ⟨h, rfl⟩, fun h => .inl h⟩, h.cutK (is := [1, 1, 0, 0]) (js := [0, 0, 1, 2]) (ks := [0, 2, 3, 4]) ⟨rfl, trivial⟩ rfl rfl rfl⟩) ?_
 intro k xs U L z Al cl hk
 try dsimp only [List.cons_append, List.nil_append] at hk ⊢
 refine GC.seq' ?_;refine GC.rr 4 ?_;refine GL.sp 15 ?_ ?_
 ·intro h1; try simp only [tst_, bI0] at h1
  refine GL.rn 3 ?_;refine GL.dg_ 0 ?_;refine GL.rz 2 ?_;refine GC.co ?_ ?_
  ·intro h2; try simp only [tst_, bI0] at h2
   refine GC.skip (?_ : GC _ _ _ _)
   refine GC.seq' ?_;refine GC.block ?_;refine GC.regionC (m := 9) (is := [3]) (js := [0, 1, 2, 3]) wide_ rfl rfl rfl ?_;refine GA.tk 0 [3] [0, 1, 2, 3] ?_;refine GA.tk 2 [3] [0, 1, 2, 3] ?_;refine GA.al [1, 3] ?_
   refine GAs.cons (i := 1) rfl rfl (t_mem rfl (m_load (i := 1) rfl rfl ag_31 rfl)) (by rintro a w h; exact h.me [3] [0, 1, 2, 3]) ?_ ?_
   ·refine GA.al [3] ?_
    refine GAs.cons (i := 3) rfl rfl (t_call rfl Tryz.call52 rfl (is := [0]) (js := [0]) rfl rfl (by exact rnb_ct _ _ _ L _ 1 z (by omega) (by omega) hk.1.2.2.1 hk.1.2.2.2 (by omega))) (by rintro a w ⟨_, _, _, ⟨v27, L27, z27, A27, c27, hs27, ⟨hv27, hw27, hx27⟩, l27, k27, rfl, rfl, rfl⟩, h⟩; exact h.me [3] [1, 2, 3, 4]) (GA.ret ?_) GAs.nil
    rintro _ _ _ ⟨v27, L27, z27, A27, c27, hs27, ⟨hv27, hw27, hx27⟩, l27, k27, rfl, rfl, rfl⟩
    refine GA.tp 4 rfl [3] [1, 2, 3, 4] (i_pure (p_convR (t := 23) (r := v27) (by rw [Tryz.underlying23]; simp) Tryz.underlying3 rfl (cvI (by omega) (by omega)))) ?_;refine GA.al [5] ?_
    refine GAs.cons (i := 5) rfl rfl (t_buildSlice rfl Tryz.underlying31 sz_3 ze_3 rfl rfl rfl rfl rfl rfl) (by rintro a w ⟨_, h⟩; exact h.me [4] [1, 2, 3, 4]) (GA.ex fun b_t29 => ?_) GAs.nil
    refine GA.al [6] ?_
    refine GAs.cons (i := 6) rfl rfl (t_append (i := 3) (k := 0) rfl el_31 rfl rfl rfl rfl rfl (allOne_mem rfl) (by have := hk.1.1; have := hk.2.1; omega) (fun _ => rfl)) (by rintro a w ⟨_, h⟩; exact h.me [4] [1, 2, 3, 4]) (GA.ex fun v30 => ?_) GAs.nil
    refine GA.shape (i := 3) rfl (fun A_v30 c_v30 e_v30 l_v30 k_v30 => ?_)
    subst e_v30
    refine GA.tk 7 [4] [1, 2, 3, 4] ?_;refine GA.al [8] ?_
    refine GAs.cons (i := 8) rfl rfl (t_store (i := 2) rfl rfl rfl rfl sz_31 rfl rfl rfl) (by rintro a w h; exact h.me [4] [1, 2, 3, 4]) ?_ GAs.nil
    refine GA.done (by kernel_rfl) (?_ : GC _ _ _ _)
    refine GC.region ?_;refine GL.rowIs (i := 3) (m' := ((xs ++ [v27])).length) (cs' := ((xs ++ [v27])).map (Value.int .i64)) rfl (by first | rfl | (simp; done) | (simp; omega)) (by first | rfl | (simp; done)) rfl ?_
    refine GL.rn 1 ?_;refine GL.pure rfl (p_add rfl rfl (w64 (by omega) (by omega))) ?_;refine GL.rn 1 ?_;refine GL.nil ?_
    exact zq90_
   refine GAs.cons (i := 3) rfl rfl (t_call rfl Tryz.call52 rfl (is := [0]) (js := [0]) rfl rfl (by exact rnb_ct _ _ _ L _ 1 z (by omega) (by omega) hk.1.2.2.1 hk.1.2.2.2 (by omega))) (by rintro a w ⟨_, _, _, ⟨v27, L27, z27, A27, c27, hs27, ⟨hv27, hw27, hx27⟩, l27, k27, rfl, rfl, rfl⟩, h⟩; exact h.me [3] [1, 2, 3, 4]) (GA.ret ?_) GAs.nil
   rintro _ _ _ ⟨v27, L27, z27, A27, c27, hs27, ⟨hv27, hw27, hx27⟩, l27, k27, rfl, rfl, rfl⟩
   refine GA.tp 4 rfl [3] [1, 2, 3, 4] (i_pure (p_convR (t := 23) (r := v27) (by rw [Tryz.underlying23]; simp) Tryz.underlying3 rfl (cvI (by omega) (by omega)))) ?_;refine GA.al [1, 5] ?_
   refine GAs.cons (i := 1) rfl rfl (t_mem rfl (m_load (i := 1) rfl rfl ag_31 rfl)) (by rintro a w h; exact h.me [3] [1, 2, 3, 4]) ?_ ?_
   ·refine GA.al [5] ?_
    refine GAs.cons (i := 5) rfl rfl (t_buildSlice rfl Tryz.underlying31 sz_3 ze_3 rfl rfl rfl rfl rfl rfl) (by rintro a w ⟨_, h⟩; exact h.me [4] [1, 2, 3, 4]) (GA.ex fun b_t29 => ?_) GAs.nil
    refine GA.al [6] ?_
    refine GAs.cons (i := 6) rfl rfl (t_append (i := 3) (k := 0) rfl el_31 rfl rfl rfl rfl rfl (allOne_mem rfl) (by have := hk.1.1; have := hk.2.1; omega) (fun _ => rfl)) (by rintro a w ⟨_, h⟩; exact h.me [4] [1, 2, 3, 4]) (GA.ex fun v30 => ?_) GAs.nil
    refine GA.shape (i := 3) rfl (fun A_v30 c_v30 e_v30 l_v30 k_v30 => ?_)
    subst e_v30
    refine GA.tk 7 [4] [1, 2, 3, 4] ?_;refine GA.al [8] ?_
    refine GAs.cons (i := 8) rfl rfl (t_store (i := 2) rfl rfl rfl rfl sz_31 rfl rfl rfl) (by rintro a w h; exact h.me [4] [1, 2, 3, 4]) ?_ GAs.nil
    refine GA.done (by kernel_rfl) (?_ : GC _ _ _ _)
    refine GC.region ?_;refine GL.rowIs (i := 3) (m' := ((xs ++ [v27])).length) (cs' := ((xs ++ [v27])).map (Value.int .i64)) rfl (by first | rfl | (simp; done) | (simp; omega)) (by first | rfl | (simp; done)) rfl ?_
    refine GL.rn 1 ?_;refine GL.pure rfl (p_add rfl rfl (w64 (by omega) (by omega))) ?_;refine GL.rn 1 ?_;refine GL.nil ?_
    exact zq90_
   refine GAs.cons (i := 5) rfl rfl (t_buildSlice rfl Tryz.underlying31 sz_3 ze_3 rfl rfl rfl rfl rfl rfl) (by rintro a w ⟨_, h⟩; exact h.me [4] [1, 2, 3, 4]) (GA.ex fun b_t29 => ?_) GAs.nil
   refine GA.al [1] ?_
   refine GAs.cons (i := 1) rfl rfl (t_mem rfl (m_load (i := 2) rfl rfl ag_31 rfl)) (by rintro a w h; exact h.me [4] [1, 2, 3, 4]) ?_ GAs.nil
   refine GA.al [6] ?_
   refine GAs.cons (i := 6) rfl rfl (t_append (i := 3) (k := 0) rfl el_31 rfl rfl rfl rfl rfl (allOne_mem rfl) (by have := hk.1.1; have := hk.2.1; omega) (fun _ => rfl)) (by rintro a w ⟨_, h⟩; exact h.me [4] [1, 2, 3, 4]) (GA.ex fun v30 => ?_) GAs.nil
   refine GA.shape (i := 3) rfl (fun A_v30 c_v30 e_v30 l_v30 k_v30 => ?_)
   subst e_v30
   refine GA.tk 7 [4] [1, 2, 3, 4] ?_;refine GA.al [8] ?_
   refine GAs.cons (i := 8) rfl rfl (t_store (i := 2) rfl rfl rfl rfl sz_31 rfl rfl rfl) (by rintro a w h; exact h.me [4] [1, 2, 3, 4]) ?_ GAs.nil
   refine GA.done (by kernel_rfl) (?_ : GC _ _ _ _)
   refine GC.region ?_;refine GL.rowIs (i := 3) (m' := ((xs ++ [v27])).length) (cs' := ((xs ++ [v27])).map (Value.int .i64)) rfl (by first | rfl | (simp; done) | (simp; omega)) (by first | rfl | (simp; done)) rfl ?_
   refine GL.rn 1 ?_;refine GL.pure rfl (p_add rfl rfl (w64 (by omega) (by omega))) ?_;refine GL.rn 1 ?_;refine GL.nil ?_
   exact zq90_
  intro h2; try simp only [tst_, bI0] at h2
  refine GC.exit (?_ : GC _ _ _ _)
  refine GC.sr_ ?_;refine GL.shape (i := 2) rfl (fun A_M c_M e_M l_M k_M => ?_)
  subst e_M
  refine GL.freezeI (i := 2) rfl ?_;refine GL.ln_ 1 2 ?_;refine GL.sn_ 2 ?_;refine GL.nl_ ?_;refine GC.ret (Fin.c0 2 33 2 2 [0] [0, 1] ?_)
  exact zq91_
 intro h1; try simp only [tst_, bI0] at h1
 refine GL.rz 6 ?_;refine GC.cond_false rfl ?_
 refine GC.exit (?_ : GC _ _ _ _)
 refine GC.sr_ ?_;refine GL.shape (i := 2) rfl (fun A_M c_M e_M l_M k_M => ?_)
 subst e_M
 refine GL.freezeI (i := 2) rfl ?_;refine GL.ln_ 1 2 ?_;refine GL.sn_ 2 ?_;refine GL.nl_ ?_;refine GC.ret (Fin.c0 2 33 2 2 [0] [0, 1] ?_)
 exact zq91_
theorem bitv : ∀ n : Fin 256, (bitN (n.val : Int) 1 = 0 ↔ ¬ n.val % 2 = 1) ∧ (bitN (n.val : Int) 2 = 0 ↔ ¬ n.val / 2 % 2 = 1) ∧ (bitN (n.val : Int) 4 = 0 ↔ ¬ n.val / 4 % 2 = 1) ∧ (bitN (n.val : Int) 8 = 0 ↔ ¬ n.val / 8 % 2 = 1) := by decide +kernel
theorem bitz {v : Int} (h : 0 ≤ v) (h' : v < 256) : (bitN v 1 = 0 ↔ ¬ v % 2 = 1) ∧ (bitN v 2 = 0 ↔ ¬ v / 2 % 2 = 1) ∧ (bitN v 4 = 0 ↔ ¬ v / 4 % 2 = 1) ∧ (bitN v 8 = 0 ↔ ¬ v / 8 % 2 = 1) := by
  have hb := bitv ⟨v.toNat, by omega⟩
  dsimp only at hb
  rw [show ((v.toNat : Nat) : Int) = v by omega] at hb
  refine ⟨hb.1.trans (by omega), hb.2.1.trans (by omega), hb.2.2.1.trans (by omega), hb.2.2.2.trans (by omega)⟩
theorem tmod2 {v : Int} (h : 0 ≤ v) : v.tmod 2 = v % 2 := Int.tmod_eq_emod_of_nonneg h
theorem tdivW {v : Int} (k : Int) (hk : 1 ≤ k) (h : 0 ≤ v) (h' : v < 256) : IntKind.u64.wrap (v.tdiv k) = v / k := by
  rw [Int.tdiv_eq_ediv_of_nonneg h]
  have h1 : 0 ≤ v / k := Int.ediv_nonneg h (by omega)
  have h2 : v / k ≤ v := Int.ediv_le_self k h
  exact cvU h1 (by omega)
theorem opt_rd {α : Type} {f : Option (α × Nat)} {L L' : List UInt8} {z z1 : Bool} {o : α} {n : Nat} {e : Int} (hs : e = 0 → f = some (o, n)) (hn : e ≠ 0 → f = none) (ht : (z1 = false → z = false ∧ e = 0 ∧ L' = L.drop n) ∧ (z1 = true → z = true ∨ e ≠ 0)) : Rd (bI z) (bI z1) (f.map fun o => (o.1, L.drop o.2)) (o, L') := by
  refine ⟨fun h => ?_, fun h => ?_⟩
  · rw [bI0] at h ⊢
    obtain ⟨g1, g2, rfl⟩ := ht.1 h
    exact ⟨g1, by rw [hs g2]; rfl⟩
  · have hz : z1 = true := by cases z1; exact absurd rfl h; rfl
    exact (ht.2 hz).imp (fun g => by rw [g]; decide) fun g => by rw [hn g]; rfl
theorem skip_rd {α : Type} {f : Option α} {r : α} {z : Bool} (h : z = false → f = some r) : Rd (bI z) (bI z) f r := by
  refine ⟨fun g => ⟨g, h (by rwa [bI0] at g)⟩, fun g => .inl g⟩
def wrstF (b : List UInt8) : Option ((OpD × Res × Grp × Stt × List Entry) × List UInt8) :=
  (wprtF b).bind fun x => (wnumF 4 x.2).bind fun n => (manyF went n.2 n.1.toNat).map fun r => ((x.1.1, x.1.2.1, x.1.2.2.1, x.1.2.2.2, r.1), r.2)
theorem prt_rd {b L0 L1 L2 L3 L4 : List UInt8} {z z0 z1 z2 z3 z4 : Bool} {v : Int} {o : OpD} {r : Res} {g : Grp} {s : Stt} (h0 : Rd (bI z) (bI z0) (wnumF 1 b) (v, L0)) (h1 : Rd (bI z0) (bI z1) (wpO v L0) (o, L1)) (h2 : Rd (bI z1) (bI z2) (wpR v L1) (r, L2)) (h3 : Rd (bI z2) (bI z3) (wpG v L2) (g, L3)) (h4 : Rd (bI z3) (bI z4) (wpS v L3) (s, L4)) : Rd (bI z) (bI z4) (wprtF b) ((o, r, g, s), L4) := by
  unfold wprtF
  exact Rd.bind h0 (Rd.bind h1 (Rd.bind h2 (Rd.bind h3 (Rd.map (fun x : Stt × List UInt8 => ((o, r, g, x.1), x.2)) h4))))
theorem went_rd {L L' : List UInt8} {z z1 : Bool} {e : Entry} {n : Nat} {k : Int} (hs : (k = 0 → mentF L 0 = some (e, n)) ∧ (k ≠ 0 → mentF L 0 = none)) (ht : (z1 = false → z = false ∧ k = 0 ∧ L' = L.drop n) ∧ (z1 = true → z = true ∨ k ≠ 0)) : Rd (bI z) (bI z1) (went L) (e, L') := opt_rd hs.1 hs.2 ht
theorem zq92_ {X : Prop} (h : X := by (exact fun a w h => ⟨(zop), (L21), (z21), (⟨none, 0, none, 0, none, 0, none, 0, none, 0, none, 0, none, 0, A21, c21⟩), ⟨skip_rd (fun h_ => by rw [wpO, if_pos (by rw [hbz.1]; simp_all)]), by omega, l21, k21⟩, h.ct [0, 1, 0] [3, 3, 4, 0, 1, 2, 3, 5]⟩)) : X := h
theorem zq93_ {X : Prop} (h : X := by (exact fun a w h => ⟨(rz), (L1), (z1), (⟨none, 0, none, 0, none, 0, none, 0, none, 0, none, 0, none, 0, x.a8, x.c8⟩), ⟨skip_rd (fun h_ => by rw [wpR, if_pos (by rw [hbz.2.1]; simp_all)]), by omega, hO2, hO3⟩, h.ct [0, 0, 0] [6, 2, 0, 1, 3, 4, 5, 6, 7]⟩)) : X := h
theorem zq94_ {X : Prop} (h : X := by (exact fun a w h => ⟨(zst), (L3), (z3), (⟨none, 0, none, 0, none, 0, none, 0, none, 0, none, 0, none, 0, w_.a8, w_.c8⟩), ⟨skip_rd (fun h_ => by rw [wpS, if_pos (by rw [hbz.2.2.2]; simp_all)]), by omega, hG2, hG3⟩, h.ct [0, 0, 0] [6, 5, 7, 1, 0, 2, 3, 4, 5, 6, 7, 8, 9]⟩)) : X := h
theorem zq95_ {X : Prop} (h : X := by (exact ⟨o, r, g, s, es, L, zz, ⟨x.a1, x.c1, x.a2, x.c2, y.a3, y.c3, w_.a4, w_.c4, q_.a5, q_.c5, q_.a6, q_.c6, q_.a7, q_.c7, A_EN, c_EN⟩, _, _, by unfold wrstF; exact Rd.bind (prt_rd hs21 hO hR hG hS) (Rd.bind hs107 (Rd.map (fun e : List Entry × List UInt8 => ((o, r, g, s, e.1), e.2)) (mn_fin hc107 hk.2.1 hk.2.2 (fun h => by rw [bI0] at h; first | omega | simp_all)))), hk.1.2.2.1, hk.1.2.2.2, rfl, rfl, rfl⟩)) : X := h
end Go.Proofs.YtdhdmbmknpjhbaaGreat
