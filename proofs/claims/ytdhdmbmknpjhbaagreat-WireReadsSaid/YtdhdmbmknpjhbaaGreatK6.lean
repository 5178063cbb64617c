/- Texts of this claim, in one: what the law leans on (part 6). -/
import Derived.Test.YtdhdmbmknpjhbaaGreatK5
set_option linter.unusedVariables false
set_option linter.unusedSimpArgs false
set_option maxRecDepth 100000
namespace Go.Proofs.YtdhdmbmknpjhbaaGreat
open Go Go.Sx Go.Proofs
set_option maxHeartbeats 2000000 in
theorem rrst_ct (p e_ : Nat) (y0 y1 y2 y3 y4 y5 y6 y7 y8 y9 y10 : Int) (A : Option Addr) (b : List UInt8) (cp : Nat) (bad : Bool) (hcp : b.length ≤ cp) (hcp' : cp ≤ 9223372036854775807) (hb : b.length ≤ 10000000000000) : Ct Tryz.prog 54 [.pointer (some ⟨p, 0, none⟩), .agg #[.int .u8 y0, .int .i64 y1, .int .i64 y2, .int .i64 y3, .int .i64 y4, .int .i64 y5, .int .i64 y6, .int .i64 y7, .int .u64 y8, .int .i64 y9, .int .i64 y10, .int .u8 0, .int .i64 0, .int .i64 0, .slice none 0 0, .slice none 0 0, .int .u8 0, .slice none 0 0, .int .i64 0, .slice none 0 0, .int .i64 0, .int .i64 0, .int .i64 0, .slice none 0 0, .slice none 0 0, .int .i64 0, .slice none 0 0, .slice none 0 0]] (lefR p e_ A b cp bad) [Pers.row Kd.u8 A b]
    (fun u G Q => ∃ (o : OpD) (r : Res) (g : Grp) (s : Stt) (es : List Entry) (L' : List UInt8) (z : Bool) (x : Lie) (A' : Option Addr) (c' : Nat), Rd (bI bad) (bI z) (wrstF b) ((o, r, g, s, es), L') ∧ L'.length ≤ c' ∧ c' ≤ 9223372036854775807 ∧ u = .agg #[.int .u8 y0, .int .i64 y1, .int .i64 y2, .int .i64 y3, .int .i64 y4, .int .i64 y5, .int .i64 y6, .int .i64 y7, .int .u64 y8, .int .i64 y9, .int .i64 y10, .int .u8 o.kind, .int .i64 o.at_, .int .i64 o.n, .slice x.a1 o.data.length x.c1, .slice x.a2 o.old.length x.c2, .int .u8 r.code, .slice x.a3 r.data.length x.c3, .int .i64 g.epoch, .slice x.a4 g.members.length x.c4, .int .i64 s.num, .int .i64 s.shp.bl, .int .i64 s.shp.sz, .slice x.a5 s.pages.length x.c5, .slice x.a6 s.rows.length x.c6, .int .i64 s.grp.epoch, .slice x.a7 s.grp.members.length x.c7, .slice x.a8 es.length x.c8] ∧ G = lefR p e_ A' L' c' z ∧ Q = [Pers.row Kd.u8 x.a1 o.data, Pers.row Kd.u8 x.a2 o.old, Pers.row Kd.u8 x.a3 r.data, Pers.row kI x.a4 g.members, Pers.row kPage x.a5 s.pages, Pers.row kRow x.a6 s.rows, Pers.row kI x.a7 s.grp.members, Pers.row kEntry x.a8 es, Pers.row Kd.u8 A' L']) := by
 have hp1 : (256 : Nat) ^ 1 = 256 := p256_1
 have hp4 : (256 : Nat) ^ 4 = 4294967296 := p256_4
 refine Ct.intro Tryz.func54 rfl rfl rfl (fun c hc => ?_)
 refine GC.sr_ ?_;refine GL.step rfl (t_box rfl rfl rfl) (GL.ex fun b_t3 => ?_);refine GL.step rfl (t_alloc rfl ze_42) (GL.ex fun b_t4 => ?_);refine GL.nr 1 ?_;refine GL.cl Tryz.call52 [2] [0] rfl rfl rfl (by exact rnb_ct _ _ _ b _ 1 bad (by omega) (by omega) hcp hcp' hb) ?_
 rintro _ _ _ ⟨v21, L21, z21, A21, c21, hs21, ⟨hv21, hw21, hx21⟩, l21, k21, rfl, rfl, rfl⟩
 have hbz := bitz (v := v21) (by omega) (by omega)
 refine GL.know (q := Pers.row Kd.u8 none []) (fun _ _ _ => .inl rfl) ?_;refine GL.know (q := Pers.row kI none []) (fun _ _ _ => .inl rfl) ?_;refine GL.know (q := Pers.row kPage none []) (fun _ _ _ => .inl rfl) ?_;refine GL.know (q := Pers.row kRow none []) (fun _ _ _ => .inl rfl) ?_
 refine GL.rz 1 ?_;refine GC.joinK4 (ks := [0, 3, 4, 5]) (is := [1]) (js := [0, 1, 2, 3, 5]) (fun (o : OpD) (L1 : List UInt8) (z1 : Bool) (x : Lie) => Rd (bI z21) (bI z1) (wpO v21 L21) (o, L1) ∧ L1.length ≤ b.length ∧ L1.length ≤ x.c8 ∧ x.c8 ≤ 9223372036854775807) (fun (o : OpD) (L1 : List UInt8) (z1 : Bool) (x : Lie) => []) (fun (o : OpD) (L1 : List UInt8) (z1 : Bool) (x : Lie) => [.cells p [.slice x.a8 L1.length x.c8, .bool z1] e_, .cells b_t3 [.int .u8 y0, .int .i64 y1, .int .i64 y2, .int .i64 y3, .int .i64 y4, .int .i64 y5, .int .i64 y6, .int .i64 y7, .int .u64 y8, .int .i64 y9, .int .i64 y10, .int .u8 o.kind, .int .i64 o.at_, .int .i64 o.n, .slice x.a1 o.data.length x.c1, .slice x.a2 o.old.length x.c2, .int .u8 0, .slice none 0 0, .int .i64 0, .slice none 0 0, .int .i64 0, .int .i64 0, .int .i64 0, .slice none 0 0, .slice none 0 0, .int .i64 0, .slice none 0 0, .slice none 0 0] 42]) (fun (o : OpD) (L1 : List UInt8) (z1 : Bool) (x : Lie) => [Pers.row Kd.u8 x.a1 o.data, Pers.row Kd.u8 x.a2 o.old, Pers.row Kd.u8 x.a8 L1]) rfl rfl rfl ?_ ?_
 ·refine GC.rr 1 ?_;refine GL.pure rfl (p_rem (r := v21 % 2) rfl rfl (by omega) (tmod2 (by omega))) ?_;refine GL.rn 2 ?_;refine GL.sp 25 ?_ ?_
  ·intro h1; try simp only [tst_] at h1
   refine GL.rn 3 ?_;refine GL.dg_ 0 ?_;refine GL.rz 2 ?_;refine GC.co ?_ ?_
   ·intro h2; try simp only [tst_] at h2
    refine GC.rr 3 ?_;refine GL.ld_ 0 ?_;refine GL.cl Tryz.call101 [] [4] rfl rfl rfl (by exact rdop_ct _ L21 _ l21 k21 (by omega)) ?_
    rintro _ _ _ ⟨o37, n37, e37, A37, c37, B37, d37, hs37, hn37, hd37, l37, k37, m37, p37, rfl, rfl, rfl⟩
    refine GL.rn 4 ?_;refine GL.step rfl (t_alloc rfl ze_27) (GL.ex fun b_t6 => ?_);refine GL.sn_ 0 ?_;refine GL.rz 2 ?_;refine GC.rr 3 ?_;refine GL.cl Tryz.call100 [1] [6] rfl rfl rfl (by exact rtk_ct _ _ _ L21 _ n37 e37 z21 (fun _ => hn37.1) l21 k21) ?_
    rintro _ _ _ ⟨z44, L44, A44, c44, ht44, hx44, l44, k44, rfl, rfl, rfl⟩
    refine GL.nl_ ?_;refine GC.region ?_;refine GL.ln_ 1 5 ?_;refine GL.rn 1 ?_;refine GL.sn_ 3 ?_;refine GL.nil ?_
    exact fun a w h => ⟨(o37), (L44), (z44), (⟨A37, c37, B37, d37, none, 0, none, 0, none, 0, none, 0, none, 0, A44, c44⟩), ⟨by rw [wpO, if_neg (by rw [hbz.1]; simp_all)]; exact opt_rd hs37 hn37.2 ht44, by omega, l44, k44⟩, h.ct [0, 2, 1] [1, 2, 0, 3, 4, 5, 6, 8]⟩
   intro h2; try simp only [tst_] at h2
   refine GC.skip ?_
   exact zq92_
  intro h1; try simp only [tst_] at h1
  refine GL.rz 6 ?_;refine GC.cond_false rfl ?_;refine GC.skip ?_
  exact zq92_
 intro o L1 z1 x hO
 try dsimp only [List.cons_append, List.nil_append] at hO ⊢
 obtain ⟨hO, hO1, hO2, hO3⟩ := hO
 refine GC.joinK4 (ks := [0, 3, 4, 5]) (is := [2]) (js := [0, 1, 3, 4, 5, 6, 7]) (fun (r : Res) (L2 : List UInt8) (z2 : Bool) (y : Lie) => Rd (bI z1) (bI z2) (wpR v21 L1) (r, L2) ∧ L2.length ≤ b.length ∧ L2.length ≤ y.c8 ∧ y.c8 ≤ 9223372036854775807) (fun (r : Res) (L2 : List UInt8) (z2 : Bool) (y : Lie) => []) (fun (r : Res) (L2 : List UInt8) (z2 : Bool) (y : Lie) => [.cells p [.slice y.a8 L2.length y.c8, .bool z2] e_, .cells b_t3 [.int .u8 y0, .int .i64 y1, .int .i64 y2, .int .i64 y3, .int .i64 y4, .int .i64 y5, .int .i64 y6, .int .i64 y7, .int .u64 y8, .int .i64 y9, .int .i64 y10, .int .u8 o.kind, .int .i64 o.at_, .int .i64 o.n, .slice x.a1 o.data.length x.c1, .slice x.a2 o.old.length x.c2, .int .u8 r.code, .slice y.a3 r.data.length y.c3, .int .i64 0, .slice none 0 0, .int .i64 0, .int .i64 0, .int .i64 0, .slice none 0 0, .slice none 0 0, .int .i64 0, .slice none 0 0, .slice none 0 0] 42]) (fun (r : Res) (L2 : List UInt8) (z2 : Bool) (y : Lie) => [Pers.row Kd.u8 y.a3 r.data, Pers.row Kd.u8 y.a8 L2]) rfl rfl rfl ?_ ?_
 ·refine GC.rr 1 ?_;refine GL.pure rfl (p_quo (r := v21 / 2) rfl rfl (by omega) (tdivW 2 (by omega) (by omega) (by omega))) ?_;refine GL.pure rfl (p_rem (r := v21 / 2 % 2) rfl rfl (by omega) (tmod2 (by omega))) ?_;refine GL.rn 2 ?_
  refine GL.sp 51 ?_ ?_
  ·intro h3; try simp only [tst_] at h3
   refine GL.rn 3 ?_;refine GL.dg_ 0 ?_;refine GL.rz 2 ?_;refine GC.co ?_ ?_
   ·intro h4; try simp only [tst_] at h4
    refine GC.rr 3 ?_;refine GL.ld_ 0 ?_;refine GL.cl Tryz.call102 [] [2] rfl rfl rfl (by exact rdres_ct _ L1 _ hO2 hO3 (by omega)) ?_
    rintro _ _ _ ⟨o63, n63, e63, A63, c63, hs63, hn63, hd63, l63, k63, rfl, rfl, rfl⟩
    refine GL.rn 4 ?_;refine GL.step rfl (t_alloc rfl ze_30) (GL.ex fun b_t9 => ?_);refine GL.sn_ 0 ?_;refine GL.rz 2 ?_;refine GC.rr 3 ?_;refine GL.cl Tryz.call100 [1] [3] rfl rfl rfl (by exact rtk_ct _ _ _ L1 _ n63 e63 z1 (fun _ => hn63.1) hO2 hO3) ?_
    rintro _ _ _ ⟨z70, L70, A70, c70, ht70, hx70, l70, k70, rfl, rfl, rfl⟩
    refine GL.nl_ ?_;refine GC.region ?_;refine GL.ln_ 1 2 ?_;refine GL.rn 1 ?_;refine GL.sn_ 2 ?_;refine GL.nil ?_
    exact fun a w h => ⟨(o63), (L70), (z70), (⟨none, 0, none, 0, A63, c63, none, 0, none, 0, none, 0, none, 0, A70, c70⟩), ⟨by rw [wpR, if_neg (by rw [hbz.2.1]; simp_all)]; exact opt_rd hs63 hn63.2 ht70, by omega, l70, k70⟩, h.ct [0, 1, 1] [1, 0, 2, 3, 5, 6, 7, 8, 9]⟩
   intro h4; try simp only [tst_] at h4
   refine GC.skip ?_
   exact zq93_
  intro h3; try simp only [tst_] at h3
  refine GL.rz 6 ?_;refine GC.cond_false rfl ?_;refine GC.skip ?_
  exact zq93_
 intro r L2 z2 y hR
 try dsimp only [List.cons_append, List.nil_append] at hR ⊢
 obtain ⟨hR, hR1, hR2, hR3⟩ := hR
 refine GC.joinK4 (ks := [0, 3, 4, 5]) (is := [2]) (js := [0, 2, 3, 4, 5, 6, 7, 8]) (fun (g : Grp) (L3 : List UInt8) (z3 : Bool) (w_ : Lie) => Rd (bI z2) (bI z3) (wpG v21 L2) (g, L3) ∧ L3.length ≤ b.length ∧ L3.length ≤ w_.c8 ∧ w_.c8 ≤ 9223372036854775807) (fun (g : Grp) (L3 : List UInt8) (z3 : Bool) (w_ : Lie) => []) (fun (g : Grp) (L3 : List UInt8) (z3 : Bool) (w_ : Lie) => [.cells p [.slice w_.a8 L3.length w_.c8, .bool z3] e_, .cells b_t3 [.int .u8 y0, .int .i64 y1, .int .i64 y2, .int .i64 y3, .int .i64 y4, .int .i64 y5, .int .i64 y6, .int .i64 y7, .int .u64 y8, .int .i64 y9, .int .i64 y10, .int .u8 o.kind, .int .i64 o.at_, .int .i64 o.n, .slice x.a1 o.data.length x.c1, .slice x.a2 o.old.length x.c2, .int .u8 r.code, .slice y.a3 r.data.length y.c3, .int .i64 g.epoch, .slice w_.a4 g.members.length w_.c4, .int .i64 0, .int .i64 0, .int .i64 0, .slice none 0 0, .slice none 0 0, .int .i64 0, .slice none 0 0, .slice none 0 0] 42]) (fun (g : Grp) (L3 : List UInt8) (z3 : Bool) (w_ : Lie) => [Pers.row kI w_.a4 g.members, Pers.row Kd.u8 w_.a8 L3]) rfl rfl rfl ?_ ?_
 ·refine GC.rr 1 ?_;refine GL.pure rfl (p_quo (r := v21 / 4) rfl rfl (by omega) (tdivW 4 (by omega) (by omega) (by omega))) ?_;refine GL.pure rfl (p_rem (r := v21 / 4 % 2) rfl rfl (by omega) (tmod2 (by omega))) ?_;refine GL.rz 1 ?_
  refine GC.co ?_ ?_
  ·intro h5; try simp only [tst_] at h5
   refine GC.region ?_;refine GL.rn 1 ?_;refine GL.cl Tryz.call103 [0] [1] rfl rfl rfl (by exact rgr_ct _ _ _ L2 _ z2 hR2 hR3 (by omega)) ?_
   rintro _ _ _ ⟨g78, L78, z78, A78, c78, B78, d78, hs78, ⟨ht78, hg78⟩, l78, k78, rfl, rfl, rfl⟩
   refine GL.rn 1 ?_;refine GL.sn_ 1 ?_;refine GL.nil ?_
   exact fun a w h => ⟨(g78), (L78), (z78), (⟨none, 0, none, 0, none, 0, B78, d78, none, 0, none, 0, none, 0, A78, c78⟩), ⟨by rw [wpG, if_neg (by rw [hbz.2.2.1]; simp_all)]; exact hs78, by omega, l78, k78⟩, h.ct [0, 0, 0] [0, 1, 2, 4, 5, 6, 7, 8, 9, 10]⟩
  intro h5; try simp only [tst_] at h5
  refine GC.skip ?_
  exact fun a w h => ⟨(zgr), (L2), (z2), (⟨none, 0, none, 0, none, 0, none, 0, none, 0, none, 0, none, 0, y.a8, y.c8⟩), ⟨skip_rd (fun h_ => by rw [wpG, if_pos (by rw [hbz.2.2.1]; simp_all)]), by omega, hR2, hR3⟩, h.ct [0, 0, 0] [6, 1, 0, 2, 3, 4, 5, 6, 7, 8]⟩
 intro g L3 z3 w_ hG
 try dsimp only [List.cons_append, List.nil_append] at hG ⊢
 obtain ⟨hG, hG1, hG2, hG3⟩ := hG
 refine GC.joinK4 (ks := [0, 3, 4]) (is := [2]) (js := [0, 2, 3, 4, 5, 6, 7, 8, 9]) (fun (s : Stt) (L4 : List UInt8) (z4 : Bool) (q_ : Lie) => Rd (bI z3) (bI z4) (wpS v21 L3) (s, L4) ∧ L4.length ≤ b.length ∧ L4.length ≤ q_.c8 ∧ q_.c8 ≤ 9223372036854775807) (fun (s : Stt) (L4 : List UInt8) (z4 : Bool) (q_ : Lie) => []) (fun (s : Stt) (L4 : List UInt8) (z4 : Bool) (q_ : Lie) => [.cells p [.slice q_.a8 L4.length q_.c8, .bool z4] e_, .cells b_t3 [.int .u8 y0, .int .i64 y1, .int .i64 y2, .int .i64 y3, .int .i64 y4, .int .i64 y5, .int .i64 y6, .int .i64 y7, .int .u64 y8, .int .i64 y9, .int .i64 y10, .int .u8 o.kind, .int .i64 o.at_, .int .i64 o.n, .slice x.a1 o.data.length x.c1, .slice x.a2 o.old.length x.c2, .int .u8 r.code, .slice y.a3 r.data.length y.c3, .int .i64 g.epoch, .slice w_.a4 g.members.length w_.c4, .int .i64 s.num, .int .i64 s.shp.bl, .int .i64 s.shp.sz, .slice q_.a5 s.pages.length q_.c5, .slice q_.a6 s.rows.length q_.c6, .int .i64 s.grp.epoch, .slice q_.a7 s.grp.members.length q_.c7, .slice none 0 0] 42]) (fun (s : Stt) (L4 : List UInt8) (z4 : Bool) (q_ : Lie) => [Pers.row kPage q_.a5 s.pages, Pers.row kRow q_.a6 s.rows, Pers.row kI q_.a7 s.grp.members, Pers.row Kd.u8 q_.a8 L4]) rfl rfl rfl ?_ ?_
 ·refine GC.rr 1 ?_;refine GL.pure rfl (p_quo (r := v21 / 8) rfl rfl (by omega) (tdivW 8 (by omega) (by omega) (by omega))) ?_;refine GL.pure rfl (p_rem (r := v21 / 8 % 2) rfl rfl (by omega) (tmod2 (by omega))) ?_;refine GL.rn 2 ?_
  refine GL.sp 84 ?_ ?_
  ·intro h6; try simp only [tst_] at h6
   refine GL.rn 3 ?_;refine GL.dg_ 0 ?_;refine GL.rz 2 ?_;refine GC.co ?_ ?_
   ·intro h7; try simp only [tst_] at h7
    refine GC.rr 3 ?_;refine GL.ld_ 0 ?_;refine GL.cl Tryz.call104 [] [1] rfl rfl rfl (by exact r7stt_ct _ L3 _ hG2 hG3 (by omega)) ?_
    rintro _ _ _ ⟨g96, t96, f96, A96, cp96, B96, cq96, C96, cr96, hs96, ht96, hl96, rfl, rfl, rfl⟩
    refine GL.rn 4 ?_;refine GL.step rfl (t_alloc rfl ze_39) (GL.ex fun b_t12 => ?_);refine GL.sn_ 0 ?_;refine GL.rz 2 ?_;refine GC.rr 3 ?_;refine GL.cl Tryz.call100 [1] [4] rfl rfl rfl (by exact rtk_ct _ _ _ L3 _ t96 f96 z3 (fun _ => ht96) hG2 hG3) ?_
    rintro _ _ _ ⟨z103, L103, A103, c103, ht103, hx103, l103, k103, rfl, rfl, rfl⟩
    refine GL.nl_ ?_;refine GC.region ?_;refine GL.ln_ 1 7 ?_;refine GL.rn 1 ?_;refine GL.sn_ 2 ?_;refine GL.nil ?_
    exact fun a w h => ⟨(g96), (L103), (z103), (⟨none, 0, none, 0, none, 0, none, 0, A96, cp96, B96, cq96, C96, cr96, A103, c103⟩), ⟨by rw [wpS, if_neg (by rw [hbz.2.2.2]; simp_all)]; exact opt_rd hs96.1 hs96.2 ht103, by omega, l103, k103⟩, h.ct [0, 1, 1] [1, 2, 3, 0, 4, 6, 7, 8, 9, 10, 11, 12, 13]⟩
   intro h7; try simp only [tst_] at h7
   refine GC.skip ?_
   exact zq94_
  intro h6; try simp only [tst_] at h6
  refine GL.rz 6 ?_;refine GC.cond_false rfl ?_;refine GC.skip ?_
  exact zq94_
 intro s L4 z4 q_ hS
 try dsimp only [List.cons_append, List.nil_append] at hS ⊢
 obtain ⟨hS, hS1, hS2, hS3⟩ := hS
 refine GC.rr 1 ?_;refine GL.cl Tryz.call52 [0] [3] rfl rfl rfl (by exact rnb_ct _ _ _ L4 _ 4 z4 (by omega) (by omega) hS2 hS3 (by omega)) ?_
 rintro _ _ _ ⟨v107, L107, z107, A107, c107, hs107, ⟨hv107, hw107, hx107⟩, l107, k107, rfl, rfl, rfl⟩
 refine GL.rz 1 ?_;refine GC.seq' ?_;refine GC.sr_ ?_
 have hc107 : bI z107 = 0 → 0 ≤ v107 ∧ v107 < 4294967296 := fun _ => by omega
 refine GL.nilrow 64 12 ?_;refine GL.know (q := Pers.reps kEntry [] []) (fun _ _ _ => rfl) ?_;refine GL.rz 1 ?_;refine GC.block ?_;refine GC.loopK8 (ks := [0, 3, 4, 15]) (is := [3]) (js := (up 1 14)) (fun (k : Nat) (es : List Entry) (V : Value) (cs : List Value) (L : List UInt8) (zz : Bool) (Al : Option Addr) (cl : Nat) => (es.length = k ∧ L.length ≤ b.length ∧ L.length ≤ cl ∧ cl ≤ 9223372036854775807) ∧ (k = 0 ∨ ((k : Int) ≤ v107 ∧ v107 < 4294967296)) ∧ Mn went (bI z107) (bI zz) L107 k v107.toNat es L) (fun (k : Nat) (es : List Entry) (V : Value) (cs : List Value) (L : List UInt8) (zz : Bool) (Al : Option Addr) (cl : Nat) => [(16, .int .u64 (k : Int))]) (fun (k : Nat) (es : List Entry) (V : Value) (cs : List Value) (L : List UInt8) (zz : Bool) (Al : Option Addr) (cl : Nat) => [.cells p [.slice Al L.length cl, .bool zz] e_, .cells b_t3 [.int .u8 y0, .int .i64 y1, .int .i64 y2, .int .i64 y3, .int .i64 y4, .int .i64 y5, .int .i64 y6, .int .i64 y7, .int .u64 y8, .int .i64 y9, .int .i64 y10, .int .u8 o.kind, .int .i64 o.at_, .int .i64 o.n, .slice x.a1 o.data.length x.c1, .slice x.a2 o.old.length x.c2, .int .u8 r.code, .slice y.a3 r.data.length y.c3, .int .i64 g.epoch, .slice w_.a4 g.members.length w_.c4, .int .i64 s.num, .int .i64 s.shp.bl, .int .i64 s.shp.sz, .slice q_.a5 s.pages.length q_.c5, .slice q_.a6 s.rows.length q_.c6, .int .i64 s.grp.epoch, .slice q_.a7 s.grp.members.length q_.c7, V] 42, .row V 64 12 es.length cs]) (fun (k : Nat) (es : List Entry) (V : Value) (cs : List Value) (L : List UInt8) (zz : Bool) (Al : Option Addr) (cl : Nat) => [Pers.reps kEntry es cs, Pers.row Kd.u8 Al L]) (fun (k : Nat) (es : List Entry) (V : Value) (cs : List Value) (L : List UInt8) (zz : Bool) (Al : Option Addr) (cl : Nat) => v107.toNat - k) (0) ([]) (_) ([]) (L107) (z107) (_) (_) rfl rfl rfl (fun a w h => ⟨⟨⟨rfl, by omega, l107, k107⟩, .inl rfl, fun h => ⟨h, rfl⟩, fun h => .inl h⟩, h.cutK (is := [1, 1, 0, 0]) (js := [0, 1, 1, 2, 3, 4, 5, 6, 7, 8, 9, 10, 11, 12, 13, 14]) (ks := [0, 3, 4, 15]) ⟨rfl, trivial⟩ rfl rfl rfl⟩) ?_
 intro k es V cs L zz Al cl hk
 try dsimp only [List.cons_append, List.nil_append] at hk ⊢
 refine GC.seq' ?_;refine GC.rr 4 ?_;refine GL.sp 111 ?_ ?_
 ·intro h8; try simp only [tst_] at h8
  refine GL.rn 3 ?_;refine GL.dg_ 0 ?_;refine GL.rz 2 ?_;refine GC.co ?_ ?_
  ·intro h9; try simp only [tst_] at h9
   refine GC.skip (?_ : GC _ _ _ _)
   refine GC.seq' ?_;refine GC.block ?_;refine GC.rr 3 ?_;refine GL.ld_ 0 ?_;refine GL.cl Tryz.call105 [] [1] rfl rfl rfl (by exact r7ent_ct _ L _ hk.1.2.2.1 hk.1.2.2.2 (by omega)) ?_
   rintro _ _ _ ⟨g125, t125, f125, A125, cp125, B125, cq125, C125, cr125, hs125, ⟨ht125, hl125⟩, j125, k125, l125, m125, n125, o125, rfl, rfl, rfl⟩
   refine GL.rn 4 ?_;refine GL.step rfl (t_alloc rfl ze_64) (GL.ex fun b_t17 => ?_);refine GL.sn_ 0 ?_;refine GL.rz 2 ?_;refine GC.rr 3 ?_;refine GL.cl Tryz.call100 [1] [4] rfl rfl rfl (by exact rtk_ct _ _ _ L _ t125 f125 zz (fun _ => ht125) hk.1.2.2.1 hk.1.2.2.2) ?_
   rintro _ _ _ ⟨z132, L132, A132, c132, ht132, hx132, l132, k132, rfl, rfl, rfl⟩
   refine GL.nl_ ?_;refine GC.region ?_;refine GL.rn 1 ?_;refine GL.ld_ 2 ?_;refine GL.ln_ 1 12 ?_;refine GL.snoc (j := 4) (js := [1, 2, 3]) g125 ((), ((), ((), ((), ((), (((), ((), ((), ((A125, cp125), (B125, cq125))))), ((), (C125, cr125)))))))) rfl rfl ⟨trivial, trivial, trivial, trivial, trivial, ⟨trivial, trivial, trivial, ⟨j125, k125⟩, ⟨l125, m125⟩⟩, trivial, n125, o125⟩ ?_
   refine GL.step rfl (t_buildSlice rfl Tryz.underlying40 sz_64 ze_64 rfl rfl rfl rfl rfl rfl) (GL.ex fun b_t136 => ?_);refine GL.step rfl (t_append (i := 4) (k := 0) rfl el_40 rfl rfl rfl rfl rfl (allOne_mem rfl) (by have := hk.1.1; have := hk.2.1; omega) (fun _ => rfl)) (GL.ex fun v137 => ?_)
   refine GL.shape (i := 4) rfl (fun A_v137 c_v137 e_v137 l_v137 k_v137 => ?_)
   subst e_v137
   refine GL.rn 1 ?_;refine GL.so_ 3 ?_
   refine GL.nil (?_ : GC _ _ _ _)
   refine GC.region ?_;refine GL.rn 1 ?_;refine GL.pure rfl (p_add rfl rfl (cvU (by omega) (by omega))) ?_;refine GL.rn 1 ?_;refine GL.nil ?_
   exact fun a w h => ⟨(k + 1), (es ++ [g125]), (_), (_), (L132), (z132), (_), (_), (by omega), ⟨⟨by simp; omega, by omega, l132, k132⟩, mn_rng hc107 hk.2.2 (by rw [bI0]; assumption) (by assumption), mn_next (by rw [bI0]; assumption) hk.2.2 (went_rd hs125 ht132) (by omega)⟩, by rw [List.length_append]; exact h.cut (is := [1, 2, 2, 2]) (js := [0, 1, 7, 8, 9, 10, 11, 12, 13, 14, 15, 16, 17, 18, 19, 20]) ⟨rfl, rfl, rfl, rfl, rfl, trivial⟩ rfl rfl⟩
  intro h9; try simp only [tst_] at h9
  refine GC.exit (?_ : GC _ _ _ _)
  refine GC.sr_ ?_;refine GL.shape (i := 2) rfl (fun A_EN c_EN e_EN l_EN k_EN => ?_)
  subst e_EN
  refine GL.freezeR (i := 2) (j := 0) rfl rfl (by decide) ?_;refine GL.ln_ 1 28 ?_;refine GL.sn_ 2 ?_;refine GL.nl_ ?_;refine GC.ret (Fin.c0 4 42 2 28 [0] [10, 11, 9, 8, 4, 5, 6, 0, 2] ?_)
  exact zq95_
 intro h8; try simp only [tst_] at h8
 refine GL.rz 6 ?_;refine GC.cond_false rfl ?_
 refine GC.exit (?_ : GC _ _ _ _)
 refine GC.sr_ ?_;refine GL.shape (i := 2) rfl (fun A_EN c_EN e_EN l_EN k_EN => ?_)
 subst e_EN
 refine GL.freezeR (i := 2) (j := 0) rfl rfl (by decide) ?_;refine GL.ln_ 1 28 ?_;refine GL.sn_ 2 ?_;refine GL.nl_ ?_;refine GC.ret (Fin.c0 4 42 2 28 [0] [10, 11, 9, 8, 4, 5, 6, 0, 2] ?_)
 exact zq95_
theorem ropen_ct (A : Option Addr) (b : List UInt8) (cp : Nat) (h4 : 4 ≤ b.length) (hb : b.length ≤ cp) (hcp' : cp ≤ 9223372036854775807) (hb' : b.length ≤ 100000000000) : Ct Tryz.prog 99 [.slice A b.length cp] [] [Pers.row Kd.u8 A b]
    (fun u G Q => ∃ (A' : Option Addr) (n c' : Nat) (k : Int), (k = 0 ↔ sealB (seg b 0 (b.length - 4)) = b) ∧ u = .tuple #[.slice A' n c', .int .i64 k] ∧ G = [] ∧ Q = []) := by
 have hsl : (seg b 0 (b.length - 4)).length = b.length - 4 := by rw [seg_length (by omega)]; omega
 refine Ct.intro Tryz.func99 rfl rfl rfl (fun c hc => ?_)
 refine GC.rg 2 ?_;refine GC.seq' ?_;refine GC.rg 3 ?_;refine GC.co ?_ ?_
 ·intro h1; try simp only [tst_] at h1
  exfalso; omega
 intro h1; try simp only [tst_] at h1
 refine GC.skip (?_ : GC _ _ _ _)
 refine GC.sr_ ?_;refine GL.step rfl (t_buildSlice rfl Tryz.underlying25 sz_5 ze_5 rfl rfl rfl rfl rfl rfl) (GL.ex fun b_t8 => ?_);refine GL.rn 3 ?_;refine GL.pure rfl (p_sub rfl rfl (w64 (by omega) (by omega))) ?_;refine GL.step rfl (t_cut_h (j := 0) rfl rfl rfl rfl Tryz.underlying25 sz_5 (by omega) (by omega) (by omega)) ?_
 rw [show ((b.length : Int) - 4).toNat = b.length - 4 by omega]
 refine GL.torow (i := 0) (m := 0) (sz := 1) rfl rfl (by decide) rfl ?_;refine GL.step rfl (t_appendS (i := 0) (k := 0) rfl el_25 rfl rfl rfl rfl (by simp; omega) (fun _ => rfl)) (GL.ex fun v14 => ?_)
 refine GL.rowIs (i := 0) (m' := ((seg b 0 (b.length - 4))).length) (cs' := ((seg b 0 (b.length - 4))).map u8v) rfl (by first | (simp only [List.length_append, List.length_cons, List.length_nil, List.append_assoc]; done) | (simp only [List.length_append, List.length_cons, List.length_nil, List.append_assoc]; omega) | (simp; done) | (simp; omega) | rfl) (by first | (simp only [List.map_append, List.map_cons, List.map_nil, List.append_assoc]; done) | (simp; done) | rfl) rfl ?_
 refine GL.shape (i := 0) rfl (fun A_t8 c_t8 e_t8 l_t8 k_t8 => ?_)
 subst e_t8
 refine GL.freezeB (i := 0) rfl ?_;refine GL.rz 1 ?_
 iterate 2 refine GC.seq' ?_
 refine GC.regionC (m := 6) (is := []) (js := [0, 1, 2]) wide_ rfl rfl rfl ?_;refine GA.tk 0 [] [0, 1, 2] ?_;refine GA.tk 3 [] [0, 1, 2] ?_;refine GA.tp 4 rfl [] [0, 1, 2] (i_mem (m_str (i := 2) rfl rfl Tryz.underlying25 Tryz.underlying5 Tryz.underlying9)) ?_
 refine GA.al [1] ?_
 refine GAs.cons (i := 1) rfl rfl (t_call rfl Tryz.call57 rfl (is := []) (js := [0]) rfl rfl (by exact rseal_ct _ (seg b 0 (b.length - 4)) _ (by omega))) (by rintro a w ⟨_, _, _, ⟨A16, cp16, l16, k16, rfl, rfl, rfl⟩, h⟩; exact h.me [] [0, 1, 2]) (GA.ret ?_) GAs.nil
 rintro _ _ _ ⟨A16, cp16, l16, k16, rfl, rfl, rfl⟩
 refine GA.freezeB (i := 0) rfl ?_;refine GA.al [2] ?_
 refine GAs.cons (i := 2) rfl rfl (t_mem rfl (m_str (i := 0) rfl rfl Tryz.underlying25 Tryz.underlying5 Tryz.underlying9)) (by rintro a w h; exact h.me [] [1, 2, 3]) ?_ GAs.nil
 refine GA.tp 5 rfl [] [1, 2, 3] (i_pure (p_sneq rfl rfl)) ?_
 refine GA.done (by kernel_rfl) (?_ : GC _ _ _ _)
 refine GC.co ?_ ?_
 ·intro h2; try simp only [tst_] at h2
  refine GC.rg 2 ?_;refine GC.ret (Fin.b2 2 3 [] [] ?_)
  exact ⟨_, _, _, 31, ⟨fun h => absurd h (by decide), fun h => by simp_all⟩, rfl, rfl, rfl⟩
 intro h2; try simp only [tst_] at h2
 refine GC.skip (?_ : GC _ _ _ _)
 refine GC.rg 3 ?_;refine GC.ret (Fin.b2 2 3 [] [] ?_)
 exact ⟨_, _, _, 0, ⟨fun _ => by simp_all, fun _ => rfl⟩, rfl, rfl, rfl⟩
theorem r3read_ct (A : Option Addr) (b : List UInt8) (cp : Nat) (hb : b.length ≤ 100000000000) (hcp : b.length ≤ cp) (hcp' : cp ≤ 9223372036854775807) : Ct Tryz.prog 51 [.slice A b.length cp, .int .i64 0] [] [Pers.row Kd.u8 A b]
    (fun u G Q => ∃ k s A' bd c' n, bd.length ≤ c' ∧ c' ≤ 9223372036854775807 ∧ rdR b k s bd n ∧ u = .tuple #[.agg #[.int .u8 k, .int .u64 s, .slice A' bd.length c'], .int .i64 n, .int .i64 (rdE b)] ∧ G = [] ∧ Q = [Pers.row Kd.u8 A' bd]) := by
 have hg12 : 16 ≤ b.length → getV b 12 4 = rdN b := fun h => if_pos (by omega)
 have hg4 : 16 ≤ b.length → getV b 4 8 = valN (seg b 4 12) := fun h => if_pos (by omega)
 refine Ct.intro Tryz.func51 rfl rfl rfl (fun c hc => ?_)
 refine GC.sr_ ?_;refine GL.step rfl (t_alloc rfl ze_55) (GL.ex fun b_t4 => ?_);refine GL.rz 2 ?_;refine GC.seq' ?_;refine GC.sr_ ?_;refine GL.know (q := Pers.row Kd.u8 none []) (fun _ _ _ => .inl rfl) ?_;refine GL.rn 3 ?_
 refine GL.sp 18 ?_ ?_
 ·intro h1; try simp only [tst_] at h1
  first
  | (exfalso; omega)
  |(skip
    refine GL.rz 5 ?_;refine GC.cond_true rfl ?_;refine GC.sr_ ?_;refine GL.pure rfl (p_build ze_55 of_55 rfl rfl) ?_;refine GL.sn_ 0 ?_;refine GL.rz 2 ?_
    skip
    refine GC.ret (Fin.c2 4 55 5 6 0 3 [] [1] ?_)
    skip)
 intro h1; try simp only [tst_] at h1
 first
 | (exfalso; omega)
 |(skip
   refine GL.rz 5 ?_;refine GC.co ?_ ?_
   ·intro h2; try simp only [tst_] at h2
    first
    | (exfalso; omega)
    |(skip
      refine GC.sr_ ?_;refine GL.pure rfl (p_build ze_55 of_55 rfl rfl) ?_;refine GL.sn_ 0 ?_;refine GL.rz 2 ?_
      skip
      refine GC.ret (Fin.c2 4 55 5 6 0 3 [] [1] ?_)
      skip)
   intro h2; try simp only [tst_] at h2
   first
   | (exfalso; omega)
   |(skip
     refine GC.skip (?_ : GC _ _ _ _)
     refine GC.rr 2 ?_;refine GL.step rfl (t_cut_l (j := 1) rfl rfl rfl rfl Tryz.underlying25 sz_5 (by omega) (by omega) (by omega)) ?_
     rw [show (0 : Int).toNat = 0 from rfl, seg_all]
     refine GL.rz 1 ?_;refine GC.seq' ?_;refine GC.rg 3 ?_;refine GC.co ?_ ?_
     ·intro h3; try simp only [tst_] at h3
      first
      | (exfalso; omega)
      |(skip
        refine GC.sr_ ?_;refine GL.pure rfl (p_build ze_55 of_55 rfl rfl) ?_;refine GL.sn_ 0 ?_;refine GL.rz 2 ?_;refine GC.ret (Fin.c2 4 55 5 6 0 3 [] [1] ?_)
        have e := rd1 (b := b) (by omega)
        exact ⟨0, 0, none, [], 0, 0, by simp, by simp, fun h => by omega, by rw [e]; rfl, rfl, rfl⟩)
     intro h3; try simp only [tst_] at h3
     first
     | (exfalso; omega)
     |(skip
       refine GC.skip (?_ : GC _ _ _ _)
       refine GC.rr 1 ?_;refine GL.cl Tryz.call98 [] [0] rfl rfl rfl (by exact rget_ct _ b _ 12 4 (by omega) (by omega) (by omega) (by omega) (by omega)) ?_
       rintro _ _ _ ⟨rfl, rfl, rfl⟩
       refine GL.rz 7 ?_;refine GC.seq' ?_;refine GC.sr_ ?_
       rw [hg12 (by omega)]
       refine GL.rn 1 ?_;refine GL.step rfl (t_index (i := 0) rfl rfl rfl rfl Tryz.underlying25 sz_5 (by omega) (gt_ok (by omega) (by omega))) (GL.ex fun p_x39 => GL.ex fun r_x39 => GL.and fun ok_x39 => ?_)
       rcases r_x39 with _
       refine GL.step rfl (t_mem rfl (m_loadP (i := 0) rfl rfl ag_5 rfl)) ?_;refine GL.rn 2 ?_;refine GL.sp 42 ?_ ?_
       ·intro h4; try simp only [tst_] at h4
        first
        | (exfalso; omega)
        |(skip
          refine GL.rz 15 ?_;refine GC.cond_true rfl ?_;refine GC.sr_ ?_;refine GL.pure rfl (p_build ze_55 of_55 rfl rfl) ?_;refine GL.sn_ 0 ?_;refine GL.rz 2 ?_;refine GC.ret (Fin.c2 4 55 5 6 0 3 [] [2] ?_)
          have e := rd2 (b := b) (by omega) (by omega)
          exact ⟨0, 0, none, [], 0, 0, by simp, by simp, fun h => by omega, by rw [e]; rfl, rfl, rfl⟩)
       intro h4; try simp only [tst_] at h4
       first
       | (exfalso; omega)
       |(skip
         refine GL.rn 1 ?_;refine GL.stepG rfl (s := 42) rfl rfl (t_index (i := 1) rfl rfl rfl rfl Tryz.underlying25 sz_5 (by omega) (gt_ok (by omega) (by omega))) (GL.ex fun p_x44 => GL.ex fun r_x44 => GL.and fun ok_x44 => ?_)
         rcases r_x44 with _
         refine GL.stepG rfl (s := 42) rfl rfl (t_mem rfl (m_loadP (i := 0) rfl rfl ag_5 rfl)) ?_;refine GL.rn 3 ?_;refine GL.sp 48 ?_ ?_
         ·intro h5; try simp only [tst_] at h5
          first
          | (exfalso; omega)
          |(skip
            refine GL.rz 9 ?_;refine GC.cond_true rfl ?_;refine GC.sr_ ?_;refine GL.pure rfl (p_build ze_55 of_55 rfl rfl) ?_;refine GL.sn_ 0 ?_;refine GL.rz 2 ?_;refine GC.ret (Fin.c2 4 55 5 6 0 3 [] [3] ?_)
            have e := rd2 (b := b) (by omega) (by omega)
            exact ⟨0, 0, none, [], 0, 0, by simp, by simp, fun h => by omega, by rw [e]; rfl, rfl, rfl⟩)
         intro h5; try simp only [tst_] at h5
         first
         | (exfalso; omega)
         |(skip
           refine GL.rn 1 ?_;refine GL.stepG rfl (s := 48) rfl rfl (t_index (i := 2) rfl rfl rfl rfl Tryz.underlying25 sz_5 (by omega) (gt_ok (by omega) (by omega))) (GL.ex fun p_x50 => GL.ex fun r_x50 => GL.and fun ok_x50 => ?_)
           rcases r_x50 with _
           refine GL.stepG rfl (s := 48) rfl rfl (t_mem rfl (m_loadP (i := 0) rfl rfl ag_5 rfl)) ?_;refine GL.rn 3 ?_;refine GL.sp 54 ?_ ?_
           ·intro h6; try simp only [tst_] at h6
            first
            | (exfalso; omega)
            |(skip
              refine GL.rz 3 ?_;refine GC.cond_true rfl ?_;refine GC.sr_ ?_;refine GL.pure rfl (p_build ze_55 of_55 rfl rfl) ?_;refine GL.sn_ 0 ?_;refine GL.rz 2 ?_;refine GC.ret (Fin.c2 4 55 5 6 0 3 [] [4] ?_)
              have e := rd2 (b := b) (by omega) (by omega)
              exact ⟨0, 0, none, [], 0, 0, by simp, by simp, fun h => by omega, by rw [e]; rfl, rfl, rfl⟩)
           intro h6; try simp only [tst_] at h6
           first
           | (exfalso; omega)
           |(skip
             refine GL.rz 3 ?_;refine GC.co ?_ ?_
             ·intro h7; try simp only [tst_] at h7
              first
              | (exfalso; omega)
              |(skip
                refine GC.sr_ ?_;refine GL.pure rfl (p_build ze_55 of_55 rfl rfl) ?_;refine GL.sn_ 0 ?_;refine GL.rz 2 ?_;refine GC.ret (Fin.c2 4 55 5 6 0 3 [] [4] ?_)
                have e := rd2 (b := b) (by omega) (by omega)
                exact ⟨0, 0, none, [], 0, 0, by simp, by simp, fun h => by omega, by rw [e]; rfl, rfl, rfl⟩)
             intro h7; try simp only [tst_] at h7
             first
             | (exfalso; omega)
             |(skip
               refine GC.skip (?_ : GC _ _ _ _)
               refine GC.seq' ?_;refine GC.rr 2 ?_;refine GL.pure rfl (p_sub rfl rfl (w64 (by omega) (by omega))) ?_;refine GL.rn 1 ?_;refine GL.pure rfl (p_convR (t := 23) (r := ((rdN b : Nat) : Int)) (by rw [Tryz.underlying23]; simp) Tryz.underlying3 rfl (cvI (by omega) (by omega))) ?_
               refine GL.rz 1 ?_;refine GC.co ?_ ?_
               ·intro h8; try simp only [tst_] at h8
                first
                | (exfalso; omega)
                |(skip
                  refine GC.sr_ ?_;refine GL.pure rfl (p_build ze_55 of_55 rfl rfl) ?_;refine GL.sn_ 0 ?_;refine GL.rz 2 ?_;refine GC.ret (Fin.c2 4 55 5 6 0 3 [] [4] ?_)
                  have e := rd3 (b := b) (by omega) (by omega) (by omega)
                  exact ⟨0, 0, none, [], 0, 0, by simp, by simp, fun h => by omega, by rw [e]; rfl, rfl, rfl⟩)
               intro h8; try simp only [tst_] at h8
               first
               | (exfalso; omega)
               |(skip
                 refine GC.skip (?_ : GC _ _ _ _)
                 refine GC.sr_ ?_
                 have hsl : (seg b 0 (rdN b + 20)).length = rdN b + 20 := by rw [seg_length (by omega)]; omega
                 have hsg : seg (seg b 0 (rdN b + 20)) 0 ((seg b 0 (rdN b + 20)).length - 4) = seg b 0 (rdN b + 16) := by rw [hsl]; exact seg_seg (by omega)
                 refine GL.rn 2 ?_;refine GL.pure rfl (p_convR (t := 23) (r := ((rdN b : Nat) : Int)) (by rw [Tryz.underlying23]; simp) Tryz.underlying3 rfl (cvI (by omega) (by omega))) ?_
                 refine GL.pure rfl (p_add rfl rfl (w64 (by omega) (by omega))) ?_;refine GL.step rfl (t_cut_h (j := 3) rfl rfl rfl rfl Tryz.underlying25 sz_5 (by omega) (by omega) (by omega)) ?_
                 rw [show (20 + ((rdN b : Nat) : Int)).toNat = rdN b + 20 by omega]
                 refine GL.cl Tryz.call99 [] [0] rfl rfl rfl (by exact ropen_ct _ (seg b 0 (rdN b + 20)) _ (by omega) (by omega) (by omega) (by omega)) ?_
                 rintro _ _ _ ⟨A72, n72, c72, k72, hs72, rfl, rfl, rfl⟩
                 refine GL.rz 5 ?_;refine GC.seq' ?_;refine GC.rg 2 ?_;refine GC.co ?_ ?_
                 ·intro h9; try simp only [tst_] at h9
                  first
                  | (exfalso; omega)
                  |(skip
                    refine GC.sr_ ?_;refine GL.pure rfl (p_build ze_55 of_55 rfl rfl) ?_;refine GL.sn_ 0 ?_;refine GL.rz 2 ?_;refine GC.ret (Fin.c2 4 55 5 6 0 3 [] [5] ?_)
                    have e := rd4 (b := b) (by omega) (by omega) (by omega) (fun h => by rw [hsg] at hs72; have := hs72.2 h; omega)
                    exact ⟨0, 0, none, [], 0, 0, by simp, by simp, fun h => by omega, by rw [e]; rfl, rfl, rfl⟩)
                 intro h9; try simp only [tst_] at h9
                 first
                 | (exfalso; omega)
                 |(skip
                   refine GC.skip (?_ : GC _ _ _ _)
                   refine GC.rr 1 ?_;refine GL.cl Tryz.call98 [] [4] rfl rfl rfl (by exact rget_ct _ b _ 4 8 (by omega) (by omega) (by omega) (by omega) (by omega)) ?_
                   rintro _ _ _ ⟨rfl, rfl, rfl⟩
                   refine GL.rz 7 ?_;refine GC.seq' ?_
                   have hbl : (seg b 16 (rdN b + 16)).length = rdN b := by rw [seg_length (by omega)]; omega
                   rw [hg4 (by omega)]
                   refine GC.layQ (y := .const (.int .i64 (2))) (j := 4) rfl rfl (by omega) (gt_ok (by omega) (by omega)) (fun p_x85 r_x85 hA_x85 ok_x85 => ?_)
                   rcases r_x85 with _
                   refine GC.regionC (m := 20) (is := []) (js := (up 0 8)) wide_ rfl rfl rfl ?_;refine GA.tk 0 [] (up 0 8) ?_;refine GA.tp 1 rfl [] (up 0 8) (i_pure (p_indexL hA_x85 rfl rfl Tryz.underlying25 sz_5 (by omega) (by omega))) ?_
                   refine GA.tp 2 rfl [] (up 0 8) (i_mem (m_loadP (i := 0) rfl rfl ag_5 rfl)) ?_;refine GA.tk 3 [] (up 0 8) ?_;refine GA.tk 5 [] (up 0 8) ?_;refine GA.tk 6 [] (up 0 8) ?_;refine GA.tp 7 rfl [] (up 0 8) (i_pure (p_convR (t := 23) (r := ((rdN b : Nat) : Int)) (by rw [Tryz.underlying23]; simp) Tryz.underlying3 rfl (cvI (by omega) (by omega)))) ?_
                   refine GA.tp 8 rfl [] (up 0 8) (i_pure (p_add rfl rfl (w64 (by omega) (by omega)))) ?_;refine GA.tk 12 [] (up 0 8) ?_;refine GA.tp 13 rfl [] (up 0 8) (i_pure (p_add rfl rfl (w64 (by omega) (by omega)))) ?_
                   refine GA.tk 14 [] (up 0 8) ?_;refine GA.tp 15 rfl [] (up 0 8) (i_pure (p_convR (t := 23) (r := ((rdN b : Nat) : Int)) (by rw [Tryz.underlying23]; simp) Tryz.underlying3 rfl (cvI (by omega) (by omega)))) ?_
                   refine GA.tp 16 rfl [] (up 0 8) (i_pure (p_add rfl rfl (w64 (by omega) (by omega)))) ?_;refine GA.al [4, 9] ?_
                   refine GAs.cons (i := 4) rfl rfl (t_buildSlice rfl Tryz.underlying25 sz_5 ze_5 rfl rfl rfl rfl rfl rfl) (by rintro a w ⟨_, h⟩; exact h.me [] (up 0 8)) (GA.ex fun b_t88 => ?_) ?_
                   ·refine GA.al [9] ?_
                    refine GAs.cons (i := 9) rfl rfl (t_cut_lh (j := 5) rfl rfl rfl rfl rfl Tryz.underlying25 sz_5 (by omega) (by omega) (by omega) (by omega)) (by rintro a w h; exact h.me [] (up 1 8)) ?_ GAs.nil
                    rw [show (16 : Int).toNat = 16 from rfl, show (16 + ((rdN b : Nat) : Int)).toNat = rdN b + 16 by omega]
                    refine GA.torow (i := 0) (m := 0) (sz := 1) rfl rfl (by decide) rfl ?_;refine GA.al [10] ?_
                    refine GAs.cons (i := 10) rfl rfl (t_appendS (i := 0) (k := 0) rfl el_25 rfl rfl rfl rfl (by rw [hbl]; omega) (fun _ => rfl)) (by rintro a w ⟨_, h⟩; exact h.me [] (up 1 8)) (GA.ex fun v94 => ?_) GAs.nil
                    refine GA.shape (i := 0) rfl (fun A_v94 c_v94 e_v94 l_v94 k_v94 => ?_)
                    subst e_v94
                    refine GA.tp 11 rfl [] (up 1 8) (i_pure (p_build ze_55 of_55 rfl rfl)) ?_;refine GA.al [17] ?_
                    refine GAs.cons (i := 17) rfl rfl (t_storeN (i := 1) rfl rfl rfl sz_55 rfl rfl rfl) (by rintro a w h; exact h.me [] (up 1 8)) ?_ GAs.nil
                    refine GA.tk 18 [] (up 1 8) ?_;refine GA.tk 19 [] (up 1 8) ?_
                    rw [Nat.zero_add]
                    refine GA.rowIs (i := 0) (m' := ((seg b 16 (rdN b + 16))).length) (cs' := ((seg b 16 (rdN b + 16))).map u8v) rfl (by first | (simp only [List.length_append, List.length_cons, List.length_nil, List.append_assoc]; done) | (simp only [List.length_append, List.length_cons, List.length_nil, List.append_assoc]; omega) | (simp; done) | (simp; omega) | rfl) (by first | (simp only [List.map_append, List.map_cons, List.map_nil, List.append_assoc]; done) | (simp; done) | rfl) rfl ?_
                    refine GA.freezeB (i := 0) rfl ?_
                    refine GA.done (by kernel_rfl) (?_ : GC _ _ _ _)
                    refine GC.ret (Fin.c2 4 55 5 6 0 3 [] [0] ?_)
                    have e := rd5 (b := b) (by omega) (by omega) (by omega) (by rw [hsg] at hs72; exact hs72.1 (by omega))
                    refine ⟨_, _, _, _, _, _, ?_, k_v94, ?_, by rw [e]; rfl, rfl, rfl⟩
                    ·omega
                    exact fun h => ⟨rfl, rfl, rfl, by omega, by omega⟩
                   refine GAs.cons (i := 9) rfl rfl (t_cut_lh (j := 5) rfl rfl rfl rfl rfl Tryz.underlying25 sz_5 (by omega) (by omega) (by omega) (by omega)) (by rintro a w h; exact h.me [] (up 1 8)) ?_ ?_
                   ·refine GA.al [4] ?_
                    refine GAs.cons (i := 4) rfl rfl (t_buildSlice rfl Tryz.underlying25 sz_5 ze_5 rfl rfl rfl rfl rfl rfl) (by rintro a w ⟨_, h⟩; exact h.me [] (up 1 8)) (GA.ex fun b_t88 => ?_) GAs.nil
                    rw [show (16 : Int).toNat = 16 from rfl, show (16 + ((rdN b : Nat) : Int)).toNat = rdN b + 16 by omega]
                    refine GA.torow (i := 0) (m := 0) (sz := 1) rfl rfl (by decide) rfl ?_;refine GA.al [10] ?_
                    refine GAs.cons (i := 10) rfl rfl (t_appendS (i := 0) (k := 0) rfl el_25 rfl rfl rfl rfl (by rw [hbl]; omega) (fun _ => rfl)) (by rintro a w ⟨_, h⟩; exact h.me [] (up 1 8)) (GA.ex fun v94 => ?_) GAs.nil
                    refine GA.shape (i := 0) rfl (fun A_v94 c_v94 e_v94 l_v94 k_v94 => ?_)
                    subst e_v94
                    refine GA.tp 11 rfl [] (up 1 8) (i_pure (p_build ze_55 of_55 rfl rfl)) ?_;refine GA.al [17] ?_
                    refine GAs.cons (i := 17) rfl rfl (t_storeN (i := 1) rfl rfl rfl sz_55 rfl rfl rfl) (by rintro a w h; exact h.me [] (up 1 8)) ?_ GAs.nil
                    refine GA.tk 18 [] (up 1 8) ?_;refine GA.tk 19 [] (up 1 8) ?_
                    rw [Nat.zero_add]
                    refine GA.rowIs (i := 0) (m' := ((seg b 16 (rdN b + 16))).length) (cs' := ((seg b 16 (rdN b + 16))).map u8v) rfl (by first | (simp only [List.length_append, List.length_cons, List.length_nil, List.append_assoc]; done) | (simp only [List.length_append, List.length_cons, List.length_nil, List.append_assoc]; omega) | (simp; done) | (simp; omega) | rfl) (by first | (simp only [List.map_append, List.map_cons, List.map_nil, List.append_assoc]; done) | (simp; done) | rfl) rfl ?_
                    refine GA.freezeB (i := 0) rfl ?_
                    refine GA.done (by kernel_rfl) (?_ : GC _ _ _ _)
                    refine GC.ret (Fin.c2 4 55 5 6 0 3 [] [0] ?_)
                    have e := rd5 (b := b) (by omega) (by omega) (by omega) (by rw [hsg] at hs72; exact hs72.1 (by omega))
                    refine ⟨_, _, _, _, _, _, ?_, k_v94, ?_, by rw [e]; rfl, rfl, rfl⟩
                    ·omega
                    exact fun h => ⟨rfl, rfl, rfl, by omega, by omega⟩
                   exact GAs.nil)))))))))
theorem rstate_ok (s : Stt) (h : heldOk s) (A : Option Addr) (cp : Nat) (B : Option Addr) (cq : Nat) (C : Option Addr) (cr : Nat) (hs : SttLen s) : Ct Tryz.prog 34 [sttV s A cp B cq C cr] [] (sttQ s A B C) (fun u G Q => u = .int .i64 0 ∧ G = [] ∧ Q = []) := by
  have := rstate_ct s A cp B cq C cr hs
  rw [show sttE s = 0 from if_pos h] at this
  exact this
theorem sttH_eq (s : Stt) : leN 8 s.num.toNat ++ leN 4 s.shp.bl.toNat ++ leN 4 s.shp.sz.toNat ++ leN 4 (s.pages.length : Int).toNat = sttH s := by rw [sttH, flZ_one, flZ_three]; simp only [List.append_assoc]
theorem pgB_eq (p : Page) : leN 4 p.at_.toNat ++ leN 8 p.ver.toNat ++ leN 4 p.data.length ++ p.data = pgB p := by rw [pgB, flZ_one, flZ_one]
theorem rowBy_eq (r : Row) : leN 8 r.client.toNat ++ leN 8 r.serial.toNat ++ resB r.result = rowBy r := by rw [rowBy, flZ_two]
set_option maxHeartbeats 2000000 in
theorem rencstt_all (s : Stt) (A : Option Addr) (cp : Nat) (B : Option Addr) (cq : Nat) (C : Option Addr) (cr : Nat) (hs : SttLen s) (hh : heldOk s) : Ct Tryz.prog 89 [sttV s A cp B cq C cr] [] (sttQ s A B C)
    (fun u G Q => ((sttB s).length ≤ 33554432 ∧ ∃ A' cp', (sttB s).length ≤ cp' ∧ cp' ≤ 9223372036854775807 ∧ u = .tuple #[.slice A' (sttB s).length cp', .int .i64 0] ∧ G = [rowOf A' cp' (sttB s)] ∧ Q = []) ∨ (33554432 < (sttB s).length ∧ u = .tuple #[.slice none 0 0, .int .i64 2] ∧ G = [] ∧ Q = [])) := by
 have hr := held_rng hh
 obtain ⟨n1, b1, s1, pl, rl, pg, rw_, gr⟩ := held_rng hh
 have hH := sttH_len s
 have hpa := pgs_all hr
 have hra := rws_all hr
 have hgl := grpB_len gr
 refine Ct.intro Tryz.func89 rfl rfl rfl (fun c hc => ?_)
 refine GC.sr_ ?_;refine GL.step rfl (t_box rfl rfl rfl) (GL.ex fun b_t1 => ?_);refine GL.rz 2 ?_;refine GC.seq' ?_;refine GC.sr_ ?_;refine GL.ln_ 0 7 ?_;refine GL.cl Tryz.call34 [] [0, 1, 2] rfl rfl rfl (by exact rstate_ok s hh _ _ _ _ _ _ hs) ?_
 rintro _ _ _ ⟨rfl, rfl, rfl⟩
 refine GL.rz 1 ?_;refine GC.cond_false rfl ?_
 refine GC.skip (?_ : GC _ _ _ _)
 refine GC.joinK2 (ks := [1]) (is := [0]) (js := [0, 1, 2]) (fun (A1 : Option Addr) (c1 : Nat) => (sttH s).length ≤ c1 ∧ c1 ≤ 9223372036854775807) (fun (A1 : Option Addr) (c1 : Nat) => [(4, .slice A1 (sttH s).length c1)]) (fun (A1 : Option Addr) (c1 : Nat) => [rowOf A1 c1 (sttH s)]) (fun (A1 : Option Addr) (c1 : Nat) => []) rfl rfl rfl ?_ ?_
 ·refine GC.regionC (m := 16) (is := [0]) (js := [0, 1, 2]) wide_ rfl rfl rfl ?_;refine GA.tk 0 [0] [0, 1, 2] ?_;refine GA.tp 1 rfl [0] [0, 1, 2] (i_mem (m_load (i := 0) rfl rfl ag_3 rfl)) ?_;refine GA.tk 3 [0] [0, 1, 2] ?_
  refine GA.tk 4 [0] [0, 1, 2] ?_;refine GA.tp 5 rfl [0] [0, 1, 2] (i_mem (m_load (i := 0) rfl rfl ag_3 rfl)) ?_;refine GA.tk 7 [0] [0, 1, 2] ?_;refine GA.tk 8 [0] [0, 1, 2] ?_;refine GA.tp 9 rfl [0] [0, 1, 2] (i_mem (m_load (i := 0) rfl rfl ag_3 rfl)) ?_
  refine GA.tk 11 [0] [0, 1, 2] ?_;refine GA.tp 12 rfl [0] [0, 1, 2] (i_mem (m_load (i := 0) rfl rfl ag_36 rfl)) ?_;refine GA.tk 13 [0] [0, 1, 2] ?_;refine GA.al [2] ?_
  refine GAs.cons (i := 2) rfl rfl (t_call rfl Tryz.call126 rfl (is := []) (js := []) rfl rfl (by exact r7put_nil s.num 8 (by omega) (by omega) (by omega) (by rw [p256_8]; omega))) (by rintro a w ⟨_, _, _, ⟨A15, cp15, l15, k15, rfl, rfl, rfl⟩, h⟩; exact h.me [1] [0, 1, 2]) (GA.ret ?_) GAs.nil
  rintro _ _ _ ⟨A15, cp15, l15, k15, rfl, rfl, rfl⟩
  refine GA.freezeB (i := 0) rfl ?_;refine GA.al [6] ?_
  refine GAs.cons (i := 6) rfl rfl (t_call rfl Tryz.call126 rfl (is := []) (js := [0]) rfl rfl (by exact r7put_ct _ (leN 8 s.num.toNat) _ s.shp.bl 4 (by omega) (by omega) (by simp [leN_length]) (by omega) (by rw [p256_4]; omega))) (by rintro a w ⟨_, _, _, ⟨A19, cp19, l19, k19, rfl, rfl, rfl⟩, h⟩; exact h.me [1] [1, 2, 3]) (GA.ret ?_) GAs.nil
  rintro _ _ _ ⟨A19, cp19, l19, k19, rfl, rfl, rfl⟩
  refine GA.freezeB (i := 0) rfl ?_;refine GA.al [10] ?_
  refine GAs.cons (i := 10) rfl rfl (t_call rfl Tryz.call126 rfl (is := []) (js := [0]) rfl rfl (by exact r7put_ct _ (leN 8 s.num.toNat ++ leN 4 s.shp.bl.toNat) _ s.shp.sz 4 (by omega) (by omega) (by simp [leN_length]) (by omega) (by rw [p256_4]; omega))) (by rintro a w ⟨_, _, _, ⟨A23, cp23, l23, k23, rfl, rfl, rfl⟩, h⟩; exact h.me [1] [2, 3, 4]) (GA.ret ?_) GAs.nil
  rintro _ _ _ ⟨A23, cp23, l23, k23, rfl, rfl, rfl⟩
  refine GA.freezeB (i := 0) rfl ?_;refine GA.al [14] ?_
  refine GAs.cons (i := 14) rfl rfl (t_call rfl Tryz.call126 rfl (is := []) (js := [0]) rfl rfl (by exact r7put_ct _ (leN 8 s.num.toNat ++ leN 4 s.shp.bl.toNat ++ leN 4 s.shp.sz.toNat) _ (s.pages.length : Int) 4 (by omega) (by omega) (by simp [leN_length]) (by omega) (by rw [p256_4]; omega))) (by rintro a w ⟨_, _, _, ⟨A27, cp27, l27, k27, rfl, rfl, rfl⟩, h⟩; exact h.me [1] [3, 4, 5]) (GA.ret ?_) GAs.nil
  rintro _ _ _ ⟨A27, cp27, l27, k27, rfl, rfl, rfl⟩
  refine GA.tk 15 [1] [3, 4, 5] ?_;refine GA.done (by kernel_rfl) ?_
  exact fun a w h => ⟨(A27), (cp27), ⟨by rw [← sttH_eq]; exact l27, k27⟩, by rw [← sttH_eq]; exact h.ct [0, 0] [3, 4, 5]⟩
 intro A1 c1 hj3
 try dsimp only [List.cons_append, List.nil_append] at hj3 ⊢
 refine GC.seq' ?_;refine GC.rg 1 ?_;refine GC.block ?_;refine GC.loopK3 (ks := [1]) (is := [1]) (js := [0, 1, 2]) (fun (k : Nat) (A1 : Option Addr) (c1 : Nat) => k ≤ s.pages.length) (fun (k : Nat) (A1 : Option Addr) (c1 : Nat) => [(4, .slice A1 (sttH s ++ (s.pages.take k).flatMap pgB).length c1), (5, .int .i64 (k : Int))]) (fun (k : Nat) (A1 : Option Addr) (c1 : Nat) => [rowOf A1 c1 (sttH s ++ (s.pages.take k).flatMap pgB)]) (fun (k : Nat) (A1 : Option Addr) (c1 : Nat) => []) (fun (k : Nat) (A1 : Option Addr) (c1 : Nat) => s.pages.length - k) (0) (_) (_) rfl rfl rfl (fun a w h => ⟨by omega, by simp only [List.take_zero, List.flatMap_nil, List.append_nil]; exact h.cutK (is := [0, 0]) (js := [0, 1, 2]) (ks := [1]) ⟨rfl, rfl, trivial⟩ rfl rfl rfl⟩) ?_
 intro k A1 c1 hk
 try dsimp only [List.cons_append, List.nil_append] at hk ⊢
 refine GC.seq' ?_;refine GC.rr 2 ?_;refine GL.ld_ 1 ?_;refine GL.rz 2 ?_;refine GC.co ?_ ?_
 ·intro h1; try simp only [tst_] at h1
  first
  | (exfalso; omega)
  |(skip
    refine GC.skip (?_ : GC _ _ _ _)
    refine GC.seq' ?_;refine GC.block ?_;refine GC.seq' ?_
    have hx := pg _ (gt_elem (l := s.pages) (k := k) (by omega))
    refine GC.layQ (y := .tmp 5) (j := 0) rfl rfl (by omega) (gt_ok (by omega) (by omega)) (fun p_x38 r_x38 hA_x38 ok_x38 => ?_)
    rcases r_x38 with ⟨_, ⟨_, ⟨Ax38_0, cpx38_0⟩⟩⟩
    refine GC.layQ (y := .tmp 5) (j := 2) rfl rfl (by omega) (gt_ok (by omega) (by omega)) (fun p_x45 r_x45 hA_x45 ok_x45 => ?_)
    rcases r_x45 with ⟨_, ⟨_, ⟨Ax45_0, cpx45_0⟩⟩⟩
    refine GC.regionC (m := 15) (is := [0, 0]) (js := (up 0 7)) wide_ rfl rfl rfl ?_;refine GA.tk 0 [0, 0] (up 0 7) ?_;refine GA.tp 1 rfl [0, 0] (up 0 7) (i_mem (m_load (i := 1) rfl rfl ag_36 rfl)) ?_;refine GA.tk 2 [0, 0] (up 0 7) ?_
    refine GA.tp 3 rfl [0, 0] (up 0 7) (i_pure (p_indexL hA_x38 rfl rfl Tryz.underlying36 sz_59 (by omega) (by omega))) ?_;refine GA.tp 4 rfl [0, 0] (up 0 7) (i_pure (p_fieldAddr' fo_59_0 rfl)) ?_;refine GA.tp 5 rfl [0, 0] (up 0 7) (i_mem (m_loadP (i := 2) rfl rfl ag_3 rfl)) ?_
    refine GA.tk 7 [0, 0] (up 0 7) ?_;refine GA.tp 8 rfl [0, 0] (up 0 7) (i_mem (m_load (i := 1) rfl rfl ag_36 rfl)) ?_;refine GA.tk 9 [0, 0] (up 0 7) ?_;refine GA.tp 10 rfl [0, 0] (up 0 7) (i_pure (p_indexL hA_x45 rfl rfl Tryz.underlying36 sz_59 (by omega) (by omega))) ?_
    refine GA.tp 11 rfl [0, 0] (up 0 7) (i_pure (p_fieldAddr' fo_59_1 rfl)) ?_;refine GA.tp 12 rfl [0, 0] (up 0 7) (i_mem (m_loadP (i := 0) rfl rfl ag_3 rfl)) ?_;refine GA.al [6] ?_
    refine GAs.cons (i := 6) rfl rfl (t_call rfl Tryz.call126 rfl (is := []) (js := []) rfl rfl (by exact r7put_nil (gt s.pages (k : Int)).at_ 4 (by omega) (by omega) (by omega) (by rw [p256_4]; omega))) (by rintro a w ⟨_, _, _, ⟨A41, cp41, l41, k41, rfl, rfl, rfl⟩, h⟩; exact h.me [1, 1] (up 0 7)) (GA.ret ?_) ?_
    ·rintro _ _ _ ⟨A41, cp41, l41, k41, rfl, rfl, rfl⟩
     refine GA.freezeB (i := 0) rfl ?_;refine GA.al [13] ?_
     refine GAs.cons (i := 13) rfl rfl (t_call rfl Tryz.call126 rfl (is := []) (js := [0]) rfl rfl (by exact r7put_ct _ (leN 4 (gt s.pages (k : Int)).at_.toNat) _ (gt s.pages (k : Int)).ver 8 (by omega) (by omega) (by simp [leN_length]) (by omega) (by rw [p256_8]; omega))) (by rintro a w ⟨_, _, _, ⟨A48, cp48, l48, k48, rfl, rfl, rfl⟩, h⟩; exact h.me [1, 1] (up 1 7)) (GA.ret ?_) GAs.nil
     rintro _ _ _ ⟨A48, cp48, l48, k48, rfl, rfl, rfl⟩
     refine GA.tk 14 [1, 1] (up 1 7) ?_
     refine GA.done (by kernel_rfl) (?_ : GC _ _ _ _)
     refine GC.rr 2 ?_;refine GL.ld_ 2 ?_;refine GL.rn 1 ?_;refine GL.step rfl (t_index (i := 5) rfl rfl rfl rfl Tryz.underlying36 sz_59 (by omega) (gt_ok (by omega) (by omega))) (GL.ex fun p_x54 => GL.ex fun r_x54 => GL.and fun ok_x54 => ?_)
     rcases r_x54 with ⟨_, ⟨_, ⟨Ax54_0, cpx54_0⟩⟩⟩
     refine GL.pure rfl (p_fieldAddr' fo_59_2 rfl) ?_;refine GL.step rfl (t_mem rfl (m_loadP (i := 0) rfl rfl ag_25 rfl)) ?_;refine GL.freezeB (i := 0) rfl ?_;refine GL.cl Tryz.call56 [] [0, 2] rfl rfl rfl (by exact rtext_ct _ (leN 4 (gt s.pages (k : Int)).at_.toNat ++ leN 8 (gt s.pages (k : Int)).ver.toNat) _ _ (gt s.pages (k : Int)).data _ (by simp [leN_length]) (by omega)) ?_
     rintro _ _ _ ⟨A57, cp57, l57, k57, rfl, rfl, rfl⟩
     refine GL.rz 4 ?_;refine GC.region ?_;refine GL.rn 2 ?_;refine GL.freezeB (i := 0) rfl ?_;refine GL.step rfl (t_appendS (i := 0) (k := 0) rfl el_25 rfl rfl rfl rfl (by (try simp only [List.length_append, List.length_cons, List.length_nil, List.length_map, List.length_take, flZ_length, flI_length, leN_length]); first | omega | (have := pgs_len hr k; have := pgB_len (pg _ (gt_elem (l := s.pages) (k := k) (by omega))).2.2.2.2; omega) | (have := rws_len hr k; have := rowBy_len (rw_ _ (gt_elem (l := s.rows) (k := k) (by omega))).2.2; rw [← rowBy_eq] at this; simp only [List.length_append, leN_length] at this; omega)) (fun _ => rfl)) (GL.ex fun v62 => ?_)
     refine GL.rowIs (i := 0) (m' := ((sttH s ++ (s.pages.take k).flatMap pgB ++ (leN 4 (gt s.pages (k : Int)).at_.toNat ++ leN 8 (gt s.pages (k : Int)).ver.toNat ++ leN 4 (gt s.pages (k : Int)).data.length ++ (gt s.pages (k : Int)).data))).length) (cs' := ((sttH s ++ (s.pages.take k).flatMap pgB ++ (leN 4 (gt s.pages (k : Int)).at_.toNat ++ leN 8 (gt s.pages (k : Int)).ver.toNat ++ leN 4 (gt s.pages (k : Int)).data.length ++ (gt s.pages (k : Int)).data))).map u8v) rfl (by first | (simp only [List.length_append, List.length_cons, List.length_nil, List.append_assoc]; done) | (simp only [List.length_append, List.length_cons, List.length_nil, List.append_assoc]; omega) | (simp [rowBy]; done) | (simp [rowBy]; omega) | rfl) (by first | (simp only [List.map_append, List.map_cons, List.map_nil, List.append_assoc]; done) | (simp [rowBy]; done) | rfl) rfl ?_
     refine GL.shape (i := 0) rfl (fun A_b c_b e_b l_b k_b => ?_)
     subst e_b
     refine GL.rn 1 ?_
     refine GL.nil (?_ : GC _ _ _ _)
     refine GC.region ?_;refine GL.rn 1 ?_;refine GL.pure rfl (p_add rfl rfl (w64 (by omega) (by omega))) ?_;refine GL.rn 1 ?_;refine GL.nil ?_
     exact fun a w h => ⟨(k + 1), (A_b), (c_b), (by omega), by omega, by rw [fm_take (by omega), ← List.append_assoc, ← pgB_eq]; exact h.ct [0, 0] [9, 10, 11]⟩
    exact GAs.nil)
 intro h1; try simp only [tst_] at h1
 first
 | (exfalso; omega)
 |(skip
   refine GC.exit (?_ : GC _ _ _ _)
   refine GC.seq' ?_
   obtain rfl : k = s.pages.length := by omega
   rw [List.take_length]
   refine GC.region ?_;refine GL.rn 2 ?_;refine GL.ld_ 1 ?_;refine GL.rn 1 ?_;refine GL.pure rfl (p_convR (t := 3) (r := (((byI (s.rows.length : Int)).toNat : Nat) : Int)) (by rw [Tryz.underlying3]; simp) Tryz.underlying5 rfl (cv8 (by omega) (by omega))) ?_
   refine GL.step rfl (t_buildSlice rfl Tryz.underlying25 sz_5 ze_5 rfl rfl rfl rfl rfl rfl) (GL.ex fun b_t68 => ?_);refine GL.step rfl (t_append (i := 1) (k := 0) rfl el_25 rfl rfl rfl rfl rfl (allOne_mem rfl) (by (try simp only [List.length_append, List.length_cons, List.length_nil, List.length_map, List.length_take, flZ_length, flI_length, leN_length]); first | omega | (have := pgs_len hr k; have := pgB_len (pg _ (gt_elem (l := s.pages) (k := k) (by omega))).2.2.2.2; omega) | (have := rws_len hr k; have := rowBy_len (rw_ _ (gt_elem (l := s.rows) (k := k) (by omega))).2.2; rw [← rowBy_eq] at this; simp only [List.length_append, leN_length] at this; omega)) (fun _ => rfl)) (GL.ex fun v69 => ?_)
   refine GL.rowIs (i := 1) (m' := ((sttH s ++ s.pages.flatMap pgB ++ [byI (s.rows.length : Int)])).length) (cs' := ((sttH s ++ s.pages.flatMap pgB ++ [byI (s.rows.length : Int)])).map u8v) rfl (by first | (simp only [List.length_append, List.length_cons, List.length_nil, List.append_assoc]; done) | (simp only [List.length_append, List.length_cons, List.length_nil, List.append_assoc]; omega) | (simp [rowBy]; done) | (simp [rowBy]; omega) | rfl) (by first | (simp only [List.map_append, List.map_cons, List.map_nil, List.append_assoc]; done) | (simp [rowBy]; done) | rfl) rfl ?_
   refine GL.shape (i := 1) rfl (fun A_b c_b e_b l_b k_b => ?_)
   subst e_b
   refine GL.rn 1 ?_
   refine GL.nil (?_ : GC _ _ _ _)
   refine GC.seq' ?_;refine GC.rg 1 ?_;refine GC.block ?_;refine GC.loopK3 (ks := [1]) (is := [0, 2]) (js := [0, 1, 2]) (fun (k : Nat) (A1 : Option Addr) (c1 : Nat) => k ≤ s.rows.length) (fun (k : Nat) (A1 : Option Addr) (c1 : Nat) => [(4, .slice A1 (sttH s ++ s.pages.flatMap pgB ++ [byI (s.rows.length : Int)] ++ (s.rows.take k).flatMap rowBy).length c1), (7, .int .i64 (k : Int))]) (fun (k : Nat) (A1 : Option Addr) (c1 : Nat) => [rowOf A1 c1 (sttH s ++ s.pages.flatMap pgB ++ [byI (s.rows.length : Int)] ++ (s.rows.take k).flatMap rowBy)]) (fun (k : Nat) (A1 : Option Addr) (c1 : Nat) => []) (fun (k : Nat) (A1 : Option Addr) (c1 : Nat) => s.rows.length - k) (0) (_) (_) rfl rfl rfl (fun a w h => ⟨by omega, by simp only [List.take_zero, List.flatMap_nil, List.append_nil]; exact h.cutK (is := [1, 0, 0]) (js := [0, 1, 2]) (ks := [1]) ⟨rfl, rfl, trivial⟩ rfl rfl rfl⟩) ?_
   intro k A1 c1 hk
   try dsimp only [List.cons_append, List.nil_append] at hk ⊢
   refine GC.seq' ?_;refine GC.rr 2 ?_;refine GL.ld_ 2 ?_;refine GL.rz 2 ?_;refine GC.co ?_ ?_
   ·intro h2; try simp only [tst_] at h2
    first
    | (exfalso; omega)
    |(skip
      refine GC.skip (?_ : GC _ _ _ _)
      refine GC.seq' ?_;refine GC.block ?_;refine GC.seq' ?_
      have hx := rw_ _ (gt_elem (l := s.rows) (k := k) (by omega))
      refine GC.region ?_;refine GL.rn 1 ?_;refine GL.ld_ 2 ?_;refine GL.rn 1 ?_;refine GL.step rfl (t_index (i := 1) rfl rfl rfl rfl Tryz.underlying37 sz_61 (by omega) (gt_ok (by omega) (by omega))) (GL.ex fun p_x81 => GL.ex fun r_x81 => GL.and fun ok_x81 => ?_)
      rcases r_x81 with ⟨_, ⟨_, ⟨_, ⟨Ax81_0, cpx81_0⟩⟩⟩⟩
      refine GL.pure rfl (p_fieldAddr' fo_61_2 rfl) ?_;refine GL.step rfl (t_mem rfl (m_loadPN (i := 0) rfl rfl ag_30 (vs := [_, _]) sz_30 ⟨rfl, rfl, trivial⟩)) ?_;refine GL.cl Tryz.call87 [] [1] rfl rfl rfl (by exact rencres_ct (gt s.rows (k : Int)).result _ _ hx.2.2) ?_
      rintro _ _ _ ⟨A84, cp84, l84, k84, rfl, rfl, rfl⟩
      refine GL.rn 5 ?_
      refine GL.nil (?_ : GC _ _ _ _)
      refine GC.freezeB (i := 0) rfl ?_;refine GC.layQ (y := .tmp 7) (j := 4) rfl rfl (by omega) (gt_ok (by omega) (by omega)) (fun p_x91 r_x91 hA_x91 ok_x91 => ?_)
      rcases r_x91 with ⟨_, ⟨_, ⟨_, ⟨Ax91_0, cpx91_0⟩⟩⟩⟩
      refine GC.layQ (y := .tmp 7) (j := 6) rfl rfl (by omega) (gt_ok (by omega) (by omega)) (fun p_x98 r_x98 hA_x98 ok_x98 => ?_)
      rcases r_x98 with ⟨_, ⟨_, ⟨_, ⟨Ax98_0, cpx98_0⟩⟩⟩⟩
      refine GC.regionC (m := 19) (is := [1, 1]) (js := (up 0 10)) wide_ rfl rfl rfl ?_;refine GA.tk 0 [1, 1] (up 0 10) ?_;refine GA.tk 1 [1, 1] (up 0 10) ?_;refine GA.tp 2 rfl [1, 1] (up 0 10) (i_mem (m_load (i := 1) rfl rfl ag_37 rfl)) ?_
      refine GA.tk 3 [1, 1] (up 0 10) ?_;refine GA.tp 4 rfl [1, 1] (up 0 10) (i_pure (p_indexL hA_x91 rfl rfl Tryz.underlying37 sz_61 (by omega) (by omega))) ?_;refine GA.tp 5 rfl [1, 1] (up 0 10) (i_pure (p_fieldAddr' fo_61_0 rfl)) ?_
      refine GA.tp 6 rfl [1, 1] (up 0 10) (i_mem (m_loadP (i := 2) rfl rfl ag_3 rfl)) ?_;refine GA.tk 8 [1, 1] (up 0 10) ?_;refine GA.tp 9 rfl [1, 1] (up 0 10) (i_mem (m_load (i := 1) rfl rfl ag_37 rfl)) ?_;refine GA.tk 10 [1, 1] (up 0 10) ?_
      refine GA.tp 11 rfl [1, 1] (up 0 10) (i_pure (p_indexL hA_x98 rfl rfl Tryz.underlying37 sz_61 (by omega) (by omega))) ?_;refine GA.tp 12 rfl [1, 1] (up 0 10) (i_pure (p_fieldAddr' fo_61_1 rfl)) ?_;refine GA.tp 13 rfl [1, 1] (up 0 10) (i_mem (m_loadP (i := 0) rfl rfl ag_3 rfl)) ?_
      refine GA.tk 16 [1, 1] (up 0 10) ?_;refine GA.al [7] ?_
      refine GAs.cons (i := 7) rfl rfl (t_call rfl Tryz.call126 rfl (is := []) (js := []) rfl rfl (by exact r7put_nil (gt s.rows (k : Int)).client 8 (by omega) (by omega) (by omega) (by rw [p256_8]; omega))) (by rintro a w ⟨_, _, _, ⟨A94, cp94, l94, k94, rfl, rfl, rfl⟩, h⟩; exact h.me [2, 2] (up 0 10)) (GA.ret ?_) ?_
      ·rintro _ _ _ ⟨A94, cp94, l94, k94, rfl, rfl, rfl⟩
       refine GA.freezeB (i := 0) rfl ?_;refine GA.al [14] ?_
       refine GAs.cons (i := 14) rfl rfl (t_call rfl Tryz.call126 rfl (is := []) (js := [0]) rfl rfl (by exact r7put_ct _ (leN 8 (gt s.rows (k : Int)).client.toNat) _ (gt s.rows (k : Int)).serial 8 (by omega) (by omega) (by simp [leN_length]) (by omega) (by rw [p256_8]; omega))) (by rintro a w ⟨_, _, _, ⟨A101, cp101, l101, k101, rfl, rfl, rfl⟩, h⟩; exact h.me [2, 2] (up 1 10)) (GA.ret ?_) GAs.nil
       rintro _ _ _ ⟨A101, cp101, l101, k101, rfl, rfl, rfl⟩
       refine GA.freezeB (i := 0) rfl ?_;refine GA.al [15] ?_
       refine GAs.cons (i := 15) rfl rfl (t_appendS (i := 0) (k := 0) rfl el_25 rfl rfl rfl rfl (by (try simp only [List.length_append, List.length_cons, List.length_nil, List.length_map, List.length_take, flZ_length, flI_length, leN_length]); first | omega | (have := pgs_len hr k; have := pgB_len (pg _ (gt_elem (l := s.pages) (k := k) (by omega))).2.2.2.2; omega) | (have := rws_len hr k; have := rowBy_len (rw_ _ (gt_elem (l := s.rows) (k := k) (by omega))).2.2; rw [← rowBy_eq] at this; simp only [List.length_append, leN_length] at this; omega)) (fun _ => rfl)) (by rintro a w ⟨_, h⟩; exact h.me [1, 1] (up 2 10)) (GA.ex fun v102 => ?_) GAs.nil
       refine GA.al [17] ?_
       refine GAs.cons (i := 17) rfl rfl (t_appendS (i := 0) (k := 6) rfl el_25 rfl rfl rfl rfl (by (try simp only [List.length_append, List.length_cons, List.length_nil, List.length_map, List.length_take, flZ_length, flI_length, leN_length]); first | omega | (have := pgs_len hr k; have := pgB_len (pg _ (gt_elem (l := s.pages) (k := k) (by omega))).2.2.2.2; omega) | (have := rws_len hr k; have := rowBy_len (rw_ _ (gt_elem (l := s.rows) (k := k) (by omega))).2.2; rw [← rowBy_eq] at this; simp only [List.length_append, leN_length] at this; omega)) (fun _ => rfl)) (by rintro a w ⟨_, h⟩; exact h.me [1, 1] (up 2 10)) (GA.ex fun v104 => ?_) GAs.nil
       refine GA.tk 18 [1, 1] (up 2 10) ?_;refine GA.rowIs (i := 0) (m' := ((sttH s ++ s.pages.flatMap pgB ++ [byI (s.rows.length : Int)] ++ (s.rows.take k).flatMap rowBy ++ (leN 8 (gt s.rows (k : Int)).client.toNat ++ leN 8 (gt s.rows (k : Int)).serial.toNat ++ resB (gt s.rows (k : Int)).result))).length) (cs' := ((sttH s ++ s.pages.flatMap pgB ++ [byI (s.rows.length : Int)] ++ (s.rows.take k).flatMap rowBy ++ (leN 8 (gt s.rows (k : Int)).client.toNat ++ leN 8 (gt s.rows (k : Int)).serial.toNat ++ resB (gt s.rows (k : Int)).result))).map u8v) rfl (by first | (simp only [List.length_append, List.length_cons, List.length_nil, List.append_assoc]; done) | (simp only [List.length_append, List.length_cons, List.length_nil, List.append_assoc]; omega) | (simp [rowBy]; done) | (simp [rowBy]; omega) | rfl) (by first | (simp only [List.map_append, List.map_cons, List.map_nil, List.append_assoc]; done) | (simp [rowBy]; done) | rfl) rfl ?_
       refine GA.shape (i := 0) rfl (fun A_b c_b e_b l_b k_b => ?_)
       subst e_b
       refine GA.done (by kernel_rfl) (?_ : GC _ _ _ _)
       refine GC.region ?_;refine GL.rn 1 ?_;refine GL.pure rfl (p_add rfl rfl (w64 (by omega) (by omega))) ?_;refine GL.rn 1 ?_;refine GL.nil ?_
       exact fun a w h => ⟨(k + 1), (A_b), (c_b), (by omega), by omega, by rw [fm_take (by omega), ← List.append_assoc, ← rowBy_eq]; exact h.ct [0, 0, 0] [9, 10, 11]⟩
      exact GAs.nil)
   intro h2; try simp only [tst_] at h2
   first
   | (exfalso; omega)
   |(skip
     refine GC.exit (?_ : GC _ _ _ _)
     refine GC.seq' ?_
     obtain rfl : k = s.rows.length := by omega
     rw [List.take_length]
     refine GC.region ?_;refine GL.rn 2 ?_;refine GL.ln_ 2 2 ?_;refine GL.cl Tryz.call127 [] [2] rfl rfl rfl (by exact r7grp_nil s.grp _ _ gr) ?_
     rintro _ _ _ ⟨A108, cp108, l108, k108, rfl, rfl, rfl⟩
     refine GL.freezeB (i := 0) rfl ?_;refine GL.step rfl (t_appendS (i := 0) (k := 0) rfl el_25 rfl rfl rfl rfl (by (try simp only [List.length_append, List.length_cons, List.length_nil, List.length_map, List.length_take, flZ_length, flI_length, leN_length]); first | omega | (have := pgs_len hr k; have := pgB_len (pg _ (gt_elem (l := s.pages) (k := k) (by omega))).2.2.2.2; omega) | (have := rws_len hr k; have := rowBy_len (rw_ _ (gt_elem (l := s.rows) (k := k) (by omega))).2.2; rw [← rowBy_eq] at this; simp only [List.length_append, leN_length] at this; omega)) (fun _ => rfl)) (GL.ex fun v109 => ?_)
     refine GL.rowIs (i := 0) (m' := ((sttH s ++ s.pages.flatMap pgB ++ [byI (s.rows.length : Int)] ++ s.rows.flatMap rowBy ++ grpB s.grp)).length) (cs' := ((sttH s ++ s.pages.flatMap pgB ++ [byI (s.rows.length : Int)] ++ s.rows.flatMap rowBy ++ grpB s.grp)).map u8v) rfl (by first | (simp only [List.length_append, List.length_cons, List.length_nil, List.append_assoc]; done) | (simp only [List.length_append, List.length_cons, List.length_nil, List.append_assoc]; omega) | (simp [rowBy]; done) | (simp [rowBy]; omega) | rfl) (by first | (simp only [List.map_append, List.map_cons, List.map_nil, List.append_assoc]; done) | (simp [rowBy]; done) | rfl) rfl ?_
     refine GL.shape (i := 0) rfl (fun A_b c_b e_b l_b k_b => ?_)
     subst e_b
     refine GL.rn 1 ?_
     refine GL.nil (?_ : GC _ _ _ _)
     iterate 2 refine GC.seq' ?_
     have hsb : (sttH s ++ s.pages.flatMap pgB ++ [byI (s.rows.length : Int)] ++ s.rows.flatMap rowBy ++ grpB s.grp).length = (sttB s).length := rfl
     refine GC.region ?_;refine GL.rn 3 ?_
     refine GL.nil (?_ : GC _ _ _ _)
     refine GC.co ?_ ?_
     ·intro h3; try simp only [tst_] at h3
      first
      | (exfalso; omega)
      |(skip
        refine GC.rg 2 ?_;refine GC.ret (Fin.b2 2 3 [] [] ?_)
        exact .inr ⟨by omega, rfl, rfl, rfl⟩)
     intro h3; try simp only [tst_] at h3
     first
     | (exfalso; omega)
     |(skip
       refine GC.skip (?_ : GC _ _ _ _)
       refine GC.rg 3 ?_;refine GC.ret (Fin.b2 2 3 [0] [] ?_)
       exact .inl ⟨by omega, _, _, l_b, k_b, rfl, rfl, rfl⟩)))
theorem rencstt_ok (s : Stt) (A : Option Addr) (cp : Nat) (B : Option Addr) (cq : Nat) (C : Option Addr) (cr : Nat) (hs : SttLen s) (hh : heldOk s) (hl : (sttB s).length ≤ 33554432) : Ct Tryz.prog 89 [sttV s A cp B cq C cr] [] (sttQ s A B C)
    (fun u G Q => ∃ A' cp', (sttB s).length ≤ cp' ∧ cp' ≤ 9223372036854775807 ∧ u = .tuple #[.slice A' (sttB s).length cp', .int .i64 0] ∧ G = [rowOf A' cp' (sttB s)] ∧ Q = []) :=
  Ct.mono (rencstt_all s A cp B cq C cr hs hh) fun u G Q h => h.elim (fun h => h.2) (fun h => by omega)
theorem rencstt_long (s : Stt) (A : Option Addr) (cp : Nat) (B : Option Addr) (cq : Nat) (C : Option Addr) (cr : Nat) (hs : SttLen s) (hh : heldOk s) (hl : 33554432 < (sttB s).length) : Ct Tryz.prog 89 [sttV s A cp B cq C cr] [] (sttQ s A B C)
    (fun u G Q => u = .tuple #[.slice none 0 0, .int .i64 2] ∧ G = [] ∧ Q = []) :=
  Ct.mono (rencstt_all s A cp B cq C cr hs hh) fun u G Q h => h.elim (fun h => by omega) (fun h => h.2)
end Go.Proofs.YtdhdmbmknpjhbaaGreat
namespace Go.Proofs.YtdhdmbmknpjhbaaGreat
open Go Go.Sx Go.Proofs
section
variable {P : Program} {n : Nat} {env : List (Nat × Value)} {d : Nat} {t u ty : TypeId} {pos : String} {aft : Array Edge} {g : Option (Nat × Bool)} {x y : Operand} {k k' yk : IntKind} {m l r : Int}
theorem p_addR (hx : ev env x = some (.int k m)) (hy : ev env y = some (.int k l)) (hr : k.wrap (m + l) = r) : Pv P n env ⟨some d, .binOp .add t x y u, ty, pos, aft, g⟩ (.int k r) := hr ▸ p_addw hx hy
end
end Go.Proofs.YtdhdmbmknpjhbaaGreat
namespace Go.Proofs.YtdhdmbmknpjhbaaGreat
open Go Go.Sx Go.Proofs
theorem add_b1 : IntKind.u8.wrap (0 + 1) = pbit true false false false := by decide
theorem add_b2 (a : Bool) : IntKind.u8.wrap (pbit a false false false + 2) = pbit a true false false := by cases a <;> decide
theorem add_b4 (a b : Bool) : IntKind.u8.wrap (pbit a b false false + 4) = pbit a b true false := by cases a <;> cases b <;> decide
theorem add_b8 (a b c : Bool) : IntKind.u8.wrap (pbit a b c false + 8) = pbit a b c true := by cases a <;> cases b <;> cases c <;> decide
theorem rem_b (a b c d : Bool) : (pbit a b c d).tmod 2 = bi a 1 := by revert a b c d; decide
theorem quo_b2 (a b c d : Bool) : IntKind.u8.wrap ((pbit a b c d).tdiv 2) = pbit b c d false := by revert a b c d; decide
theorem quo_b4 (a b c d : Bool) : IntKind.u8.wrap ((pbit a b c d).tdiv 4) = pbit c d false false := by revert a b c d; decide
theorem quo_b8 (a b c d : Bool) : IntKind.u8.wrap ((pbit a b c d).tdiv 8) = pbit d false false false := by revert a b c d; decide
theorem bi1t (a : Bool) : (bi a 1 = 1) = (a = true) := by cases a <;> simp [bi]
theorem rparts_ct (m : Msg) (s : Lie) (hm : MsgLen m) : Ct Tryz.prog 85 [msgV m s] [] (msgQ m s) (fun u G Q => u = .int .u8 (partsN m) ∧ G = [] ∧ Q = []) := by
 refine Ct.intro Tryz.func85 rfl rfl rfl (fun c hc => ?_)
 refine GC.sr_ ?_;refine GL.step rfl (t_box rfl rfl rfl) (GL.ex fun b_t1 => ?_);refine GL.rz 1 ?_;refine GC.rg 1 ?_;refine GC.joinK1 (ks := [1, 2]) (is := [0]) (js := (up 0 8)) (fun (u_ : Unit) => True) (fun (u_ : Unit) => [(3, .int .u8 (pbit (decide (¬ m.op = zop)) false false false))]) (fun (u_ : Unit) => []) (fun (u_ : Unit) => []) rfl rfl rfl ?_ ?_
 ·refine GC.rr 1 ?_;refine GL.ln_ 0 5 ?_;refine GL.pure rfl (p_build ze_27 of_27 rfl rfl) ?_;refine GL.cl Tryz.call27 [] [0, 1] rfl rfl rfl (by exact rbzero_ct m.op _ _ _ _) ?_
  rintro _ _ _ ⟨rfl, rfl, rfl⟩
  refine GL.rz 1 ?_;refine GC.co ?_ ?_
  ·intro h1; try simp only [tst_] at h1
   refine GC.region ?_;refine GL.rn 1 ?_;refine GL.pure rfl (p_addR rfl rfl add_b1) ?_;refine GL.rn 1 ?_;refine GL.nil ?_
   exact zq28_
  intro h1; try simp only [tst_] at h1
  refine GC.skip ?_
  exact zq29_
 intro u_ hj2
 try dsimp only [List.cons_append, List.nil_append] at hj2 ⊢
 refine GC.joinK1 (ks := [1, 2]) (is := [0]) (js := (up 0 8)) (fun (u_ : Unit) => True) (fun (u_ : Unit) => [(3, .int .u8 (pbit (decide (¬ m.op = zop)) (decide (¬ m.res = rz)) false false))]) (fun (u_ : Unit) => []) (fun (u_ : Unit) => []) rfl rfl rfl ?_ ?_
 ·refine GC.rr 1 ?_;refine GL.ln_ 0 2 ?_;refine GL.cl Tryz.call29 [] [] rfl rfl rfl (by exact zres_ct m.res _ _) ?_
  rintro _ _ _ ⟨rfl, rfl, rfl⟩
  refine GL.rz 1 ?_;refine GC.co ?_ ?_
  ·intro h2; try simp only [tst_] at h2
   refine GC.region ?_;refine GL.rn 1 ?_;refine GL.pure rfl (p_addR rfl rfl (add_b2 _)) ?_;refine GL.rn 1 ?_;refine GL.nil ?_
   exact fun a w h => ⟨(()), trivial, by rw [decide_eq_true (show ¬ m.res = rz by simp_all)]; exact h.ct [0] (up 0 8)⟩
  intro h2; try simp only [tst_] at h2
  refine GC.skip ?_
  exact fun a w h => ⟨(()), trivial, by rw [decide_eq_false (show ¬ ¬ m.res = rz by simp_all)]; exact h.ct [0] (up 0 8)⟩
 intro u_ hj4
 try dsimp only [List.cons_append, List.nil_append] at hj4 ⊢
 refine GC.joinK1 (ks := [1, 2]) (is := [0]) (js := (up 0 8)) (fun (u_ : Unit) => True) (fun (u_ : Unit) => [(3, .int .u8 (pbit (decide (¬ m.op = zop)) (decide (¬ m.res = rz)) (decide (¬ m.grp = zgr)) false))]) (fun (u_ : Unit) => []) (fun (u_ : Unit) => []) rfl rfl rfl ?_ ?_
 ·refine GC.rr 1 ?_;refine GL.ln_ 0 2 ?_;refine GL.cl Tryz.call31 [] [] rfl rfl rfl (by exact zgrp_ct m.grp _ _) ?_
  rintro _ _ _ ⟨rfl, rfl, rfl⟩
  refine GL.rz 1 ?_;refine GC.co ?_ ?_
  ·intro h3; try simp only [tst_] at h3
   refine GC.region ?_;refine GL.rn 1 ?_;refine GL.pure rfl (p_addR rfl rfl (add_b4 _ _)) ?_;refine GL.rn 1 ?_;refine GL.nil ?_
   exact fun a w h => ⟨(()), trivial, by rw [decide_eq_true (show ¬ m.grp = zgr by simp_all)]; exact h.ct [0] (up 0 8)⟩
  intro h3; try simp only [tst_] at h3
  refine GC.skip ?_
  exact fun a w h => ⟨(()), trivial, by rw [decide_eq_false (show ¬ ¬ m.grp = zgr by simp_all)]; exact h.ct [0] (up 0 8)⟩
 intro u_ hj6
 try dsimp only [List.cons_append, List.nil_append] at hj6 ⊢
 refine GC.joinK1 (ks := [2]) (is := [0]) (js := (up 0 8)) (fun (u_ : Unit) => True) (fun (u_ : Unit) => [(3, .int .u8 (partsN m))]) (fun (u_ : Unit) => []) (fun (u_ : Unit) => []) rfl rfl rfl ?_ ?_
 ·refine GC.rr 1 ?_;refine GL.ln_ 0 7 ?_;refine GL.cl Tryz.call33 [] [4, 5, 6] rfl rfl rfl (by exact rzero_ct m.stt _ _ _ _ _ _ hm.s) ?_
  rintro _ _ _ ⟨rfl, rfl, rfl⟩
  refine GL.rz 1 ?_;refine GC.co ?_ ?_
  ·intro h4; try simp only [tst_] at h4
   refine GC.region ?_;refine GL.rn 1 ?_;refine GL.pure rfl (p_addR rfl rfl (add_b8 _ _ _)) ?_;refine GL.rn 1 ?_;refine GL.nil ?_
   exact zq32_
  intro h4; try simp only [tst_] at h4
  refine GC.skip ?_
  exact zq33_
 intro u_ hj8
 try dsimp only [List.cons_append, List.nil_append] at hj8 ⊢
 refine GC.rg 2 ?_;refine GC.ret (Fin.b1 2 [] [] ?_)
 exact ⟨rfl, rfl, rfl⟩
theorem grpB_eq {g : Grp} (h : groupOk g.epoch g.members = true) : leN 8 g.epoch.toNat ++ [byI (g.members.length : Int)] ++ g.members.map byI = grpB g := by
  have r := grp_rng h
  rw [grpB, flZ_one, flZ1 [_] (by intro x hx; simp at hx; omega), flZ1 _ (fun x hx => by have := r.1 x hx; omega)]
  rfl
theorem r16grp_ct (A : Option Addr) (b : List UInt8) (cp : Nat) (g : Grp) (B : Option Addr) (cq : Nat) (hg : groupOk g.epoch g.members = true) (hb : b.length ≤ 1000000000000) : Ct Tryz.prog 88 [.slice A b.length cp, grpV g.epoch B g.members.length cq] [] [Pers.row Kd.u8 A b, Pers.row kI B g.members]
    (fun u G Q => ∃ A' cp', (b ++ grpB g).length ≤ cp' ∧ cp' ≤ 9223372036854775807 ∧ u = .slice A' (b ++ grpB g).length cp' ∧ G = [rowOf A' cp' (b ++ grpB g)] ∧ Q = []) := by
 obtain ⟨r1, r2, r3, r4, r5⟩ := grp_rng hg
 refine Ct.intro Tryz.func88 rfl rfl rfl (fun c hc => ?_)
 refine GC.sr_ ?_;refine GL.step rfl (t_box rfl rfl rfl) (GL.ex fun b_t3 => ?_);refine GL.rz 1 ?_;refine GC.rr 2 ?_;refine GL.ld_ 0 ?_;refine GL.pure rfl (p_convR (t := 3) (r := ((g.epoch.toNat : Nat) : Int)) (by rw [Tryz.underlying3]; simp) Tryz.underlying23 rfl (cvZ (by omega) (by omega))) ?_
 refine GL.cl Tryz.call55 [] [0] rfl rfl rfl (by exact r1put_ct _ b _ g.epoch.toNat 8 (by omega) (by omega) (by omega) (by rw [p256_8]; omega)) ?_
 rintro _ _ _ ⟨A11, cp11, l11, k11, rfl, rfl, rfl⟩
 refine GL.rz 4 ?_;refine GC.rr 2 ?_;refine GL.ld_ 1 ?_;refine GL.rn 1 ?_;refine GL.pure rfl (p_convR (t := 3) (r := (((byI (g.members.length : Int)).toNat : Nat) : Int)) (by rw [Tryz.underlying3]; simp) Tryz.underlying5 rfl (cv8 (by omega) (by omega))) ?_
 refine GL.step rfl (t_buildSlice rfl Tryz.underlying25 sz_5 ze_5 rfl rfl rfl rfl rfl rfl) (GL.ex fun b_t19 => ?_);refine GL.step rfl (t_append (i := 1) (k := 0) rfl el_25 rfl rfl rfl rfl rfl (allOne_mem rfl) (by (try simp only [List.length_append, List.length_cons, List.length_nil, List.length_map, List.length_take, flZ_length, flI_length, leN_length]); omega) (fun _ => rfl)) (GL.ex fun v20 => ?_)
 refine GL.rowIs (i := 1) (m' := ((b ++ leN 8 g.epoch.toNat ++ [byI (g.members.length : Int)])).length) (cs' := ((b ++ leN 8 g.epoch.toNat ++ [byI (g.members.length : Int)])).map u8v) rfl (by first | (simp only [List.length_append, List.length_cons, List.length_nil, List.append_assoc]; done) | (simp only [List.length_append, List.length_cons, List.length_nil, List.append_assoc]; omega) | (simp; done) | (simp; omega) | rfl) (by first | (simp only [List.map_append, List.map_cons, List.map_nil, List.append_assoc]; done) | (simp; done) | rfl) rfl ?_
 refine GL.shape (i := 1) rfl (fun A_rp11 c_rp11 e_rp11 l_rp11 k_rp11 => ?_)
 subst e_rp11
 refine GL.rz 1 ?_;refine GC.seq' ?_;refine GC.rg 1 ?_;refine GC.block ?_;refine GC.loopK3 (ks := [3]) (is := [0, 2]) (js := [0, 1]) (fun (k : Nat) (A1 : Option Addr) (c1 : Nat) => k ≤ g.members.length ∧ (b ++ leN 8 g.epoch.toNat ++ [byI (g.members.length : Int)] ++ (g.members.take k).map byI).length ≤ c1 ∧ c1 ≤ 9223372036854775807) (fun (k : Nat) (A1 : Option Addr) (c1 : Nat) => [(0, .slice A1 (b ++ leN 8 g.epoch.toNat ++ [byI (g.members.length : Int)] ++ (g.members.take k).map byI).length c1), (5, .int .i64 (k : Int))]) (fun (k : Nat) (A1 : Option Addr) (c1 : Nat) => [rowOf A1 c1 (b ++ leN 8 g.epoch.toNat ++ [byI (g.members.length : Int)] ++ (g.members.take k).map byI)]) (fun (k : Nat) (A1 : Option Addr) (c1 : Nat) => []) (fun (k : Nat) (A1 : Option Addr) (c1 : Nat) => g.members.length - k) (0) (_) (_) rfl rfl rfl (fun a w h => ⟨⟨by omega, by simp only [List.take_zero, List.map_nil, List.append_nil]; exact l_rp11, k_rp11⟩, by simp only [List.take_zero, List.map_nil, List.append_nil]; exact h.cutK (is := [1, 0, 0]) (js := [0, 1]) (ks := [3]) ⟨rfl, rfl, trivial⟩ rfl rfl rfl⟩) ?_
 intro k A1 c1 hk
 try dsimp only [List.cons_append, List.nil_append] at hk ⊢
 obtain ⟨hk, hc1, hc2⟩ := hk
 refine GC.seq' ?_;refine GC.rr 2 ?_;refine GL.ld_ 2 ?_;refine GL.rz 2 ?_;refine GC.co ?_ ?_
 ·intro h1; try simp only [tst_] at h1
  refine GC.skip (?_ : GC _ _ _ _)
  refine GC.seq' ?_;refine GC.block ?_
  have hx := r1 _ (gt_elem (l := g.members) (k := k) (by omega))
  refine GC.region ?_;refine GL.rn 2 ?_;refine GL.ld_ 2 ?_;refine GL.rn 1 ?_;refine GL.step rfl (t_index (i := 1) rfl rfl rfl rfl Tryz.underlying31 sz_3 (by omega) (gt_ok (by omega) (by omega))) (GL.ex fun p_x32 => GL.ex fun r_x32 => GL.and fun ok_x32 => ?_)
  rcases r_x32 with _
  refine GL.step rfl (t_mem rfl (m_loadP (i := 0) rfl rfl ag_3 rfl)) ?_;refine GL.pure rfl (p_convR (t := 3) (r := (((byI (gt g.members (k : Int))).toNat : Nat) : Int)) (by rw [Tryz.underlying3]; simp) Tryz.underlying5 rfl (cv8 (by omega) (by omega))) ?_
  refine GL.step rfl (t_buildSlice rfl Tryz.underlying25 sz_5 ze_5 rfl rfl rfl rfl rfl rfl) (GL.ex fun b_t35 => ?_);refine GL.step rfl (t_append (i := 1) (k := 0) rfl el_25 rfl rfl rfl rfl rfl (allOne_mem rfl) (by (try simp only [List.length_append, List.length_cons, List.length_nil, List.length_map, List.length_take, flZ_length, flI_length, leN_length]); omega) (fun _ => rfl)) (GL.ex fun v36 => ?_)
  refine GL.rowIs (i := 1) (m' := ((b ++ leN 8 g.epoch.toNat ++ [byI (g.members.length : Int)] ++ (g.members.take k).map byI ++ [byI (gt g.members (k : Int))])).length) (cs' := ((b ++ leN 8 g.epoch.toNat ++ [byI (g.members.length : Int)] ++ (g.members.take k).map byI ++ [byI (gt g.members (k : Int))])).map u8v) rfl (by first | (simp only [List.length_append, List.length_cons, List.length_nil, List.append_assoc]; done) | (simp only [List.length_append, List.length_cons, List.length_nil, List.append_assoc]; omega) | (simp; done) | (simp; omega) | rfl) (by first | (simp only [List.map_append, List.map_cons, List.map_nil, List.append_assoc]; done) | (simp; done) | rfl) rfl ?_
  refine GL.shape (i := 1) rfl (fun A_b c_b e_b l_b k_b => ?_)
  subst e_b
  refine GL.rn 1 ?_
  refine GL.nil (?_ : GC _ _ _ _)
  refine GC.region ?_;refine GL.rn 1 ?_;refine GL.pure rfl (p_add rfl rfl (w64 (by omega) (by omega))) ?_;refine GL.rn 1 ?_;refine GL.nil ?_
  exact fun a w h => ⟨(k + 1), (A_b), (c_b), (by omega), ⟨by omega, by rw [take_gt (by omega), List.map_append, ← List.append_assoc]; exact l_b, k_b⟩, by rw [take_gt (by omega), List.map_append, ← List.append_assoc]; exact h.ct [1, 1, 1] [1, 2]⟩
 intro h1; try simp only [tst_] at h1
 refine GC.exit (?_ : GC _ _ _ _)
 refine GC.rg 2 ?_;refine GC.ret (Fin.b1 4 [0] [] ?_)
 obtain rfl : k = g.members.length := by omega
 have e : b ++ leN 8 g.epoch.toNat ++ [byI (g.members.length : Int)] ++ g.members.map byI = b ++ grpB g := by rw [← grpB_eq hg]; simp only [List.append_assoc]
 rw [List.take_length, e] at hc1
 rw [List.take_length, e]
 exact ⟨_, _, hc1, hc2, rfl, rfl, rfl⟩
theorem zq96_ {X : Prop} (h : X := by (exact fun a w h => ⟨(A_ra49), (c_ra49), trivial, by rw [show pO m = opB m.op from if_neg (by assumption)]; exact h.ct [1, 0, 0] (up 1 10)⟩)) : X := h
theorem zq97_ {X : Prop} (h : X := by (exact fun a w h => ⟨(A_ra49), (c_ra49), trivial, by rw [show pO m = [] from if_pos (by simp_all), List.append_nil]; exact h.ct [1, 0, 0] (up 0 10)⟩)) : X := h
theorem zq98_ {X : Prop} (h : X := by (exact fun a w h => ⟨(_), (_), trivial, by rw [show pR m = [] from if_pos (by simp_all), List.append_nil]; exact h.cut (is := [0, 0, 0]) (js := (up 0 10)) ⟨rfl, rfl, rfl, trivial⟩ rfl rfl⟩)) : X := h
theorem zq99_ {X : Prop} (h : X := by (exact fun a w h => ⟨(_), (_), trivial, by rw [show pG m = grpB m.grp from if_neg (by assumption)]; exact h.cut (is := [0, 0, 0]) (js := (up 1 10)) ⟨rfl, rfl, rfl, trivial⟩ rfl rfl⟩)) : X := h
theorem zq100_ {X : Prop} (h : X := by (exact fun a w h => ⟨(_), (_), trivial, by rw [show pG m = [] from if_pos (by simp_all), List.append_nil]; exact h.cut (is := [0, 0, 0]) (js := (up 0 10)) ⟨rfl, rfl, rfl, trivial⟩ rfl rfl⟩)) : X := h
theorem zq101_ {X : Prop} (h : X := by (exact fun a w h => ⟨(_), (_), trivial, by rw [show pS m = [] from if_pos (by simp_all), List.append_nil]; exact h.cut (is := [0, 0, 0]) (js := (up 0 10)) ⟨rfl, rfl, trivial⟩ rfl rfl⟩)) : X := h
theorem zq102_ {X : Prop} (h : X := by (exact fun a w h => ⟨(k + 1), (A_b), (c_b), (by omega), ⟨by omega, by rw [fm_take (by omega), ← List.append_assoc]; exact l_b, k_b⟩, by rw [fm_take (by omega), ← List.append_assoc]; exact h.ct [0, 0, 0] (up 5 11)⟩)) : X := h
theorem rbody2_ct (m : Msg) (s : Lie) (hm : MsgLen m) (hok : msgOk m) (hn : 0 ≤ m.nonce ∧ m.nonce < 18446744073709551616) (hlog : m.log.length < 100000) : Ct Tryz.prog 47 [msgV m s] [] (msgQ m s)
    (fun u G Q => ∃ A bs cp, ((bodyB m).length ≤ 16777216 → bs = bodyB m) ∧ (16777216 < (bodyB m).length → 16777216 < bs.length) ∧ u = .slice A bs.length cp ∧ G = [] ∧ Q = [Pers.row Kd.u8 A bs]) := by
 have hr := msg_rng hok
 have hpn := partsN_rng m
 have hk := hr.kind
 have l0 := hdB_len m
 have l1 := pO_len hr
 have l2 := pR_len hr
 have l3 := pG_len hr
 have l4 := pS_len hr
 have l5 := preB_len hr
 have lS := pS_body m
 refine Ct.intro Tryz.func47 rfl rfl rfl (fun c hc => ?_)
 refine GC.sr_ ?_;refine GL.step rfl (t_box rfl rfl rfl) (GL.ex fun b_t1 => ?_);refine GL.rz 1 ?_;refine GC.rr 1 ?_;refine GL.ld_ 0 ?_;refine GL.reval 15 rfl (congrArg (Value.int .u8) (byI_eq (by omega) (by omega))) ?_
 refine GL.step rfl (t_buildSlice rfl Tryz.underlying25 sz_5 ze_5 rfl rfl rfl rfl rfl rfl) (GL.ex fun b_t16 => ?_);refine GL.rz 1 ?_;refine GC.rr 2 ?_;refine GL.ld_ 1 ?_;refine GL.pure rfl (p_convR (t := 3) (by rw [Tryz.underlying3]; simp) Tryz.underlying23 rfl (cvU64 m.src)) ?_
 refine GL.rn 1 ?_;refine GL.ld_ 1 ?_;refine GL.pure rfl (p_convR (t := 3) (by rw [Tryz.underlying3]; simp) Tryz.underlying23 rfl (cvU64 m.dst)) ?_
 refine GL.rn 1 ?_;refine GL.ld_ 1 ?_;refine GL.pure rfl (p_convR (t := 3) (by rw [Tryz.underlying3]; simp) Tryz.underlying23 rfl (cvU64 m.epoch)) ?_
 refine GL.rn 1 ?_;refine GL.ld_ 1 ?_;refine GL.pure rfl (p_convR (t := 3) (by rw [Tryz.underlying3]; simp) Tryz.underlying23 rfl (cvU64 m.view)) ?_
 refine GL.rn 1 ?_;refine GL.ld_ 1 ?_;refine GL.pure rfl (p_convR (t := 3) (by rw [Tryz.underlying3]; simp) Tryz.underlying23 rfl (cvU64 m.num)) ?_
 refine GL.rn 1 ?_;refine GL.ld_ 1 ?_;refine GL.pure rfl (p_convR (t := 3) (by rw [Tryz.underlying3]; simp) Tryz.underlying23 rfl (cvU64 m.commit)) ?_
 refine GL.rn 1 ?_;refine GL.ld_ 1 ?_;refine GL.pure rfl (p_convR (t := 3) (by rw [Tryz.underlying3]; simp) Tryz.underlying23 rfl (cvU64 m.normal)) ?_
 refine GL.rn 1 ?_;refine GL.ld_ 1 ?_;refine GL.reval 41 rfl (congrArg (Value.int .u64) (u64_eq hn.1 hn.2)) ?_;refine GL.rn 1 ?_;refine GL.ld_ 1 ?_;refine GL.pure rfl (p_convR (t := 3) (by rw [Tryz.underlying3]; simp) Tryz.underlying23 rfl (cvU64 m.client)) ?_
 refine GL.rn 1 ?_;refine GL.ld_ 1 ?_;refine GL.pure rfl (p_convR (t := 3) (by rw [Tryz.underlying3]; simp) Tryz.underlying23 rfl (cvU64 m.serial)) ?_
 refine GL.step rfl (t_buildSlice rfl Tryz.underlying126 sz_23 ze_23 rfl rfl rfl rfl rfl rfl) (GL.ex fun b_t48 => ?_);refine GL.freezeC (enc := u8v) (xs := [byI m.kind]) (h1 := fun _ => rfl) (i := 1) rfl ?_;refine GL.freezeC (enc := uv) (xs := [u64 m.src, u64 m.dst, u64 m.epoch, u64 m.view, u64 m.num, u64 m.commit, u64 m.normal, u64 m.nonce, u64 m.client, u64 m.serial]) (h1 := fun _ => rfl) (i := 0) rfl ?_
 refine GL.cl Tryz.call84 [] [1, 0] rfl rfl rfl (by exact rputall_ct _ [byI m.kind] _ 8 _ [u64 m.src, u64 m.dst, u64 m.epoch, u64 m.view, u64 m.num, u64 m.commit, u64 m.normal, u64 m.nonce, u64 m.client, u64 m.serial] _ (by omega) (by omega) (by simp) (by rw [p256_8]; intro x hx; simp only [List.mem_cons, List.not_mem_nil, or_false] at hx; rcases hx with rfl | rfl | rfl | rfl | rfl | rfl | rfl | rfl | rfl | rfl <;> exact u64_lt _)) ?_
 rintro _ _ _ ⟨A49, cp49, l49, k49, rfl, rfl, rfl⟩
 refine GL.rz 4 ?_;refine GC.sr_ ?_;refine GL.ln_ 1 28 ?_;refine GL.cl Tryz.call85 [] (up 2 8) rfl rfl rfl (by exact rparts_ct m s hm) ?_
 rintro _ _ _ ⟨rfl, rfl, rfl⟩
 refine GL.rz 1 ?_;refine GC.rr 2 ?_;refine GL.reval 55 rfl (congrArg (Value.int .u8) (byI_eq hpn.1 hpn.2)) ?_;refine GL.step rfl (t_buildSlice rfl Tryz.underlying25 sz_5 ze_5 rfl rfl rfl rfl rfl rfl) (GL.ex fun b_t56 => ?_)
 refine GL.step rfl (t_append (i := 1) (k := 0) rfl el_25 rfl rfl rfl rfl rfl (allOne_mem rfl) (by (try simp only [List.length_append, List.length_cons, List.length_nil, List.length_map, List.length_take, flZ_length, flI_length, leN_length]); first | omega | (have := opB_len (hr.op (by assumption)); omega) | (have := resB_len (hr.res (by assumption)); omega) | (have := grp_rng (hr.grp (by assumption)); omega) | (have := sttB_len (hr.stt (by assumption)); omega) | (have := log_len hr k; have := entB_len (hr.log _ (gt_elem (l := m.log) (k := k) (by omega))); have : k * 400000 ≤ 100000 * 400000 := Nat.mul_le_mul_right _ (by omega); omega)) (fun _ => rfl)) (GL.ex fun v57 => ?_)
 refine GL.rowIs (i := 1) (m' := ((hdB m)).length) (cs' := ((hdB m)).map u8v) rfl (by first | (simp only [List.length_append, List.length_cons, List.length_nil, List.append_assoc]; done) | (simp only [List.length_append, List.length_cons, List.length_nil, List.append_assoc]; omega) | (simp [leN_length, flI_length, hdB]; done) | (simp [leN_length, flI_length, hdB]; omega) | rfl) (by first | (simp only [List.map_append, List.map_cons, List.map_nil, List.append_assoc]; done) | (simp [leN_length, flI_length, hdB]; done) | rfl) rfl ?_
 refine GL.shape (i := 1) rfl (fun A_ra49 c_ra49 e_ra49 l_ra49 k_ra49 => ?_)
 subst e_ra49
 refine GL.rz 1 ?_;refine GC.joinK2 (ks := [1, 4]) (is := [0, 2]) (js := (up 0 10)) (fun (A1 : Option Addr) (c1 : Nat) => True) (fun (A1 : Option Addr) (c1 : Nat) => [(3, .slice A1 (hdB m ++ pO m).length c1)]) (fun (A1 : Option Addr) (c1 : Nat) => [rowOf A1 c1 (hdB m ++ pO m)]) (fun (A1 : Option Addr) (c1 : Nat) => []) rfl rfl rfl ?_ ?_
 ·refine GC.rr 1 ?_;refine GL.pure rfl (p_rem rfl rfl (by decide) (rem_b _ _ _ _)) ?_;refine GL.rz 1 ?_;refine GC.co ?_ ?_
  ·intro h1; try simp only [tst_, bi1t] at h1
   refine GC.rr 1 ?_;refine GL.ln_ 2 5 ?_;refine GL.cl Tryz.call86 [] [2, 3] rfl rfl rfl (by exact rencop_ct m.op _ _ _ _ (hr.op (by assumption))) ?_
   rintro _ _ _ ⟨A64, cp64, l64, k64, rfl, rfl, rfl⟩
   refine GL.rz 5 ?_;refine GC.region ?_;refine GL.rn 2 ?_;refine GL.freezeB (i := 0) rfl ?_;refine GL.step rfl (t_appendS (i := 1) (k := 0) rfl el_25 rfl rfl rfl rfl (by (try simp only [List.length_append, List.length_cons, List.length_nil, List.length_map, List.length_take, flZ_length, flI_length, leN_length]); first | omega | (have := opB_len (hr.op (by assumption)); omega) | (have := resB_len (hr.res (by assumption)); omega) | (have := grp_rng (hr.grp (by assumption)); omega) | (have := sttB_len (hr.stt (by assumption)); omega) | (have := log_len hr k; have := entB_len (hr.log _ (gt_elem (l := m.log) (k := k) (by omega))); have : k * 400000 ≤ 100000 * 400000 := Nat.mul_le_mul_right _ (by omega); omega)) (fun _ => rfl)) (GL.ex fun v69 => ?_)
   refine GL.rowIs (i := 1) (m' := ((hdB m ++ opB m.op)).length) (cs' := ((hdB m ++ opB m.op)).map u8v) rfl (by first | (simp only [List.length_append, List.length_cons, List.length_nil, List.append_assoc]; done) | (simp only [List.length_append, List.length_cons, List.length_nil, List.append_assoc]; omega) | (simp [leN_length, flI_length, hdB]; done) | (simp [leN_length, flI_length, hdB]; omega) | rfl) (by first | (simp only [List.map_append, List.map_cons, List.map_nil, List.append_assoc]; done) | (simp [leN_length, flI_length, hdB]; done) | rfl) rfl ?_
   refine GL.shape (i := 1) rfl (fun A_ra49 c_ra49 e_ra49 l_ra49 k_ra49 => ?_)
   subst e_ra49
   refine GL.rn 1 ?_;refine GL.nil ?_
   exact zq96_
  intro h1; try simp only [tst_, bi1t] at h1
  refine GC.skip ?_
  exact zq97_
 intro A1 c1 hj5
 try dsimp only [List.cons_append, List.nil_append] at hj5 ⊢
 refine GC.joinK2 (ks := [1, 4]) (is := [1, 2]) (js := (up 0 10)) (fun (A1 : Option Addr) (c1 : Nat) => True) (fun (A1 : Option Addr) (c1 : Nat) => [(3, .slice A1 (hdB m ++ pO m ++ pR m).length c1)]) (fun (A1 : Option Addr) (c1 : Nat) => [rowOf A1 c1 (hdB m ++ pO m ++ pR m)]) (fun (A1 : Option Addr) (c1 : Nat) => []) rfl rfl rfl ?_ ?_
 ·refine GC.rr 1 ?_;refine GL.pure rfl (p_quo rfl rfl (by decide) (quo_b2 _ _ _ _)) ?_;refine GL.pure rfl (p_rem rfl rfl (by decide) (rem_b _ _ _ _)) ?_;refine GL.rz 1 ?_;refine GC.co ?_ ?_
  ·intro h2; try simp only [tst_, bi1t] at h2
   refine GC.rr 1 ?_;refine GL.ln_ 2 2 ?_;refine GL.cl Tryz.call87 [] [4] rfl rfl rfl (by exact rencres_ct m.res _ _ (hr.res (by assumption))) ?_
   rintro _ _ _ ⟨A77, cp77, l77, k77, rfl, rfl, rfl⟩
   refine GL.rz 5 ?_;refine GC.region ?_;refine GL.rn 2 ?_;refine GL.freezeB (i := 0) rfl ?_;refine GL.step rfl (t_appendS (i := 0) (k := 0) rfl el_25 rfl rfl rfl rfl (by (try simp only [List.length_append, List.length_cons, List.length_nil, List.length_map, List.length_take, flZ_length, flI_length, leN_length]); first | omega | (have := opB_len (hr.op (by assumption)); omega) | (have := resB_len (hr.res (by assumption)); omega) | (have := grp_rng (hr.grp (by assumption)); omega) | (have := sttB_len (hr.stt (by assumption)); omega) | (have := log_len hr k; have := entB_len (hr.log _ (gt_elem (l := m.log) (k := k) (by omega))); have : k * 400000 ≤ 100000 * 400000 := Nat.mul_le_mul_right _ (by omega); omega)) (fun _ => rfl)) (GL.ex fun v82 => ?_)
   refine GL.rowIs (i := 0) (m' := ((hdB m ++ pO m ++ resB m.res)).length) (cs' := ((hdB m ++ pO m ++ resB m.res)).map u8v) rfl (by first | (simp only [List.length_append, List.length_cons, List.length_nil, List.append_assoc]; done) | (simp only [List.length_append, List.length_cons, List.length_nil, List.append_assoc]; omega) | (simp [leN_length, flI_length, hdB]; done) | (simp [leN_length, flI_length, hdB]; omega) | rfl) (by first | (simp only [List.map_append, List.map_cons, List.map_nil, List.append_assoc]; done) | (simp [leN_length, flI_length, hdB]; done) | rfl) rfl ?_
   refine GL.shape (i := 0) rfl (fun A_b c_b e_b l_b k_b => ?_)
   subst e_b
   refine GL.rn 1 ?_;refine GL.nil ?_
   exact zq55_
  intro h2; try simp only [tst_, bi1t] at h2
  refine GC.skip ?_
  exact zq98_
 intro A1 c1 hj8
 try dsimp only [List.cons_append, List.nil_append] at hj8 ⊢
 refine GC.joinK2 (ks := [1, 4]) (is := [1, 2]) (js := (up 0 10)) (fun (A1 : Option Addr) (c1 : Nat) => True) (fun (A1 : Option Addr) (c1 : Nat) => [(3, .slice A1 (hdB m ++ pO m ++ pR m ++ pG m).length c1)]) (fun (A1 : Option Addr) (c1 : Nat) => [rowOf A1 c1 (hdB m ++ pO m ++ pR m ++ pG m)]) (fun (A1 : Option Addr) (c1 : Nat) => []) rfl rfl rfl ?_ ?_
 ·refine GC.rr 1 ?_;refine GL.pure rfl (p_quo rfl rfl (by decide) (quo_b4 _ _ _ _)) ?_;refine GL.pure rfl (p_rem rfl rfl (by decide) (rem_b _ _ _ _)) ?_;refine GL.rz 1 ?_;refine GC.co ?_ ?_
  ·intro h3; try simp only [tst_, bi1t] at h3
   refine GC.region ?_;refine GL.rn 2 ?_;refine GL.ln_ 2 2 ?_;refine GL.freezeB (i := 0) rfl ?_;refine GL.cl Tryz.call88 [] [0, 6] rfl rfl rfl (by exact r16grp_ct _ (hdB m ++ pO m ++ pR m) _ m.grp _ _ (hr.grp (by assumption)) (by simp only [List.length_append]; omega)) ?_
   rintro _ _ _ ⟨A90, cp90, l90, k90, rfl, rfl, rfl⟩
   refine GL.rn 1 ?_;refine GL.nil ?_
   exact zq99_
  intro h3; try simp only [tst_, bi1t] at h3
  refine GC.skip ?_
  exact zq100_
 intro A1 c1 hj11
 try dsimp only [List.cons_append, List.nil_append] at hj11 ⊢
 refine GC.joinK2 (ks := [1]) (is := [1, 2]) (js := (up 0 10)) (fun (A1 : Option Addr) (c1 : Nat) => True) (fun (A1 : Option Addr) (c1 : Nat) => [(3, .slice A1 (hdB m ++ pO m ++ pR m ++ pG m ++ pS m).length c1)]) (fun (A1 : Option Addr) (c1 : Nat) => [rowOf A1 c1 (hdB m ++ pO m ++ pR m ++ pG m ++ pS m)]) (fun (A1 : Option Addr) (c1 : Nat) => []) rfl rfl rfl ?_ ?_
 ·refine GC.rr 1 ?_;refine GL.pure rfl (p_quo rfl rfl (by decide) (quo_b8 _ _ _ _)) ?_;refine GL.pure rfl (p_rem rfl rfl (by decide) (rem_b _ _ _ _)) ?_;refine GL.rz 1 ?_;refine GC.co ?_ ?_
  ·intro h4; try simp only [tst_, bi1t] at h4
   refine GC.seq' ?_
   by_cases hsl : (sttB m.stt).length ≤ 33554432
   ·skip
    refine GC.region ?_;refine GL.rn 1 ?_;refine GL.ln_ 2 7 ?_;refine GL.cl Tryz.call89 [] [6, 7, 8] rfl rfl rfl (by exact rencstt_ok m.stt _ _ _ _ _ _ hm.s (hr.stt (by assumption)) hsl) ?_
    rintro _ _ _ ⟨A98, cp98, l98, k98, rfl, rfl, rfl⟩
    refine GL.rn 5 ?_
    refine GL.nil (?_ : GC _ _ _ _)
    refine GC.seq' ?_;refine GC.rg 2 ?_;refine GC.cond_false rfl ?_
    refine GC.skip (?_ : GC _ _ _ _)
    refine GC.region ?_;refine GL.rn 2 ?_;refine GL.freezeB (i := 0) rfl ?_;refine GL.step rfl (t_appendS (i := 0) (k := 0) rfl el_25 rfl rfl rfl rfl (by (try simp only [List.length_append, List.length_cons, List.length_nil, List.length_map, List.length_take, flZ_length, flI_length, leN_length]); first | omega | (have := opB_len (hr.op (by assumption)); omega) | (have := resB_len (hr.res (by assumption)); omega) | (have := grp_rng (hr.grp (by assumption)); omega) | (have := sttB_len (hr.stt (by assumption)); omega) | (have := log_len hr k; have := entB_len (hr.log _ (gt_elem (l := m.log) (k := k) (by omega))); have : k * 400000 ≤ 100000 * 400000 := Nat.mul_le_mul_right _ (by omega); omega)) (fun _ => rfl)) (GL.ex fun v106 => ?_)
    refine GL.rowIs (i := 0) (m' := ((hdB m ++ pO m ++ pR m ++ pG m ++ sttB m.stt)).length) (cs' := ((hdB m ++ pO m ++ pR m ++ pG m ++ sttB m.stt)).map u8v) rfl (by first | (simp only [List.length_append, List.length_cons, List.length_nil, List.append_assoc]; done) | (simp only [List.length_append, List.length_cons, List.length_nil, List.append_assoc]; omega) | (simp [leN_length, flI_length, hdB]; done) | (simp [leN_length, flI_length, hdB]; omega) | rfl) (by first | (simp only [List.map_append, List.map_cons, List.map_nil, List.append_assoc]; done) | (simp [leN_length, flI_length, hdB]; done) | rfl) rfl ?_
    refine GL.shape (i := 0) rfl (fun A_b c_b e_b l_b k_b => ?_)
    subst e_b
    refine GL.rn 1 ?_;refine GL.nil ?_
    exact zq58_
   skip
   refine GC.region ?_;refine GL.rn 1 ?_;refine GL.ln_ 2 7 ?_;refine GL.cl Tryz.call89 [] [6, 7, 8] rfl rfl rfl (by exact rencstt_long m.stt _ _ _ _ _ _ hm.s (hr.stt (by assumption)) (by omega)) ?_
   rintro _ _ _ ⟨rfl, rfl, rfl⟩
   refine GL.rn 5 ?_
   refine GL.nil (?_ : GC _ _ _ _)
   refine GC.seq' ?_;refine GC.rg 2 ?_;refine GC.cond_true rfl ?_;refine GC.sr_ ?_;refine GL.step rfl (t_make rfl el_25 rfl rfl (by omega) (by omega)) (GL.ex fun b_t103 => ?_)
   rw [reps_u8]
   refine GL.rz 1 ?_;refine GC.freezeC (enc := u8v) (xs := List.replicate (Int.toNat 16777217) 0) (h1 := fun _ => rfl) (i := 0) rfl ?_;refine GC.ret (Fin.b1 2 [] [0] ?_)
   have e : pS m = sttB m.stt := if_neg (by assumption)
   rw [e] at lS
   exact ⟨_, List.replicate (Int.toNat 16777217) 0, _, fun h => by omega, fun _ => by rw [List.length_replicate]; omega, by rw [List.length_replicate]; rfl, rfl, rfl⟩
  intro h4; try simp only [tst_, bi1t] at h4
  refine GC.skip ?_
  exact zq101_
 intro A1 c1 hj13
 try dsimp only [List.cons_append, List.nil_append] at hj13 ⊢
 refine GC.rr 2 ?_;refine GL.ld_ 2 ?_;refine GL.rn 1 ?_;refine GL.pure rfl (p_convR (t := 3) (r := ((m.log.length : Nat) : Int)) (by rw [Tryz.underlying3]; simp) Tryz.underlying23 rfl (cvU (by omega) (by omega))) ?_
 refine GL.freezeB (i := 0) rfl ?_;refine GL.cl Tryz.call55 [] [0] rfl rfl rfl (by exact r1put_ct _ (hdB m ++ pO m ++ pR m ++ pG m ++ pS m) _ m.log.length 4 (by omega) (by omega) (by simp only [List.length_append]; omega) (by rw [p256_4]; omega)) ?_
 rintro _ _ _ ⟨A113, cp113, l113, k113, rfl, rfl, rfl⟩
 refine GL.rz 4 ?_;refine GC.seq' ?_;refine GC.rg 1 ?_;refine GC.block ?_;refine GC.loopK3 (ks := [1]) (is := [1, 2]) (js := (up 0 11)) (fun (k : Nat) (A1 : Option Addr) (c1 : Nat) => k ≤ m.log.length ∧ (preB m ++ (m.log.take k).flatMap entB).length ≤ c1 ∧ c1 ≤ 9223372036854775807) (fun (k : Nat) (A1 : Option Addr) (c1 : Nat) => [(3, .slice A1 (preB m ++ (m.log.take k).flatMap entB).length c1), (11, .int .i64 (k : Int))]) (fun (k : Nat) (A1 : Option Addr) (c1 : Nat) => [rowOf A1 c1 (preB m ++ (m.log.take k).flatMap entB)]) (fun (k : Nat) (A1 : Option Addr) (c1 : Nat) => []) (fun (k : Nat) (A1 : Option Addr) (c1 : Nat) => m.log.length - k) (0) (_) (_) rfl rfl rfl (fun a w h => ⟨⟨by omega, by simp only [List.take_zero, List.flatMap_nil, List.append_nil]; exact l113, k113⟩, by simp only [List.take_zero, List.flatMap_nil, List.append_nil]; exact h.cutK (is := [0, 0, 0]) (js := (up 0 11)) (ks := [1]) ⟨rfl, rfl, trivial⟩ rfl rfl rfl⟩) ?_
 intro k A1 c1 hk
 try dsimp only [List.cons_append, List.nil_append] at hk ⊢
 obtain ⟨hk, hc1, hc2⟩ := hk
 refine GC.seq' ?_;refine GC.rr 2 ?_;refine GL.ld_ 2 ?_;refine GL.rn 3 ?_;refine GL.sp 121 ?_ ?_
 ·intro h5; try simp only [tst_, bi1t] at h5
  refine GL.rz 4 ?_;refine GC.co ?_ ?_
  ·intro h6; try simp only [tst_, bi1t] at h6
   refine GC.skip (?_ : GC _ _ _ _)
   refine GC.seq' ?_;refine GC.block ?_;refine GC.seq' ?_
   have hel := hm.e _ (gt_elem (l := m.log) (k := k) (by omega))
   refine GC.region ?_;refine GL.rn 1 ?_;refine GL.ld_ 2 ?_;refine GL.rn 1 ?_;refine GL.step rfl (t_index (i := 10) rfl rfl rfl rfl Tryz.underlying40 sz_64 (by omega) (gt_ok (by omega) (by omega))) (GL.ex fun p_x132 => GL.ex fun r_x132 => GL.and fun ok_x132 => ?_)
   rcases r_x132 with ⟨_, ⟨_, ⟨_, ⟨_, ⟨_, ⟨⟨_, ⟨_, ⟨_, ⟨⟨Ax132_0, cpx132_0⟩, ⟨Ax132_1, cpx132_1⟩⟩⟩⟩⟩, ⟨_, ⟨Ax132_2, cpx132_2⟩⟩⟩⟩⟩⟩⟩⟩
   refine GL.step rfl (t_mem rfl (m_loadPN (i := 0) rfl rfl ag_64 (vs := [_, _, _, _, _, _, _, _, _, _, _, _]) sz_64 ⟨rfl, rfl, rfl, rfl, rfl, rfl, rfl, rfl, rfl, rfl, rfl, rfl, trivial⟩)) ?_;refine GL.cl Tryz.call90 [] [1, 2, 3] rfl rfl rfl (by exact rencent_ct (gt m.log (k : Int)) _ _ _ _ _ _ (hr.log _ (gt_elem (by omega))) hel) ?_
   rintro _ _ _ ⟨A134, cp134, l134, k134, rfl, rfl, rfl⟩
   refine GL.rn 5 ?_
   refine GL.nil (?_ : GC _ _ _ _)
   refine GC.region ?_;refine GL.rn 2 ?_;refine GL.freezeB (i := 0) rfl ?_;refine GL.step rfl (t_appendS (i := 0) (k := 0) rfl el_25 rfl rfl rfl rfl (by (try simp only [List.length_append, List.length_cons, List.length_nil, List.length_map, List.length_take, flZ_length, flI_length, leN_length]); first | omega | (have := opB_len (hr.op (by assumption)); omega) | (have := resB_len (hr.res (by assumption)); omega) | (have := grp_rng (hr.grp (by assumption)); omega) | (have := sttB_len (hr.stt (by assumption)); omega) | (have := log_len hr k; have := entB_len (hr.log _ (gt_elem (l := m.log) (k := k) (by omega))); have : k * 400000 ≤ 100000 * 400000 := Nat.mul_le_mul_right _ (by omega); omega)) (fun _ => rfl)) (GL.ex fun v139 => ?_)
   refine GL.rowIs (i := 0) (m' := ((preB m ++ (m.log.take k).flatMap entB ++ entB (gt m.log (k : Int)))).length) (cs' := ((preB m ++ (m.log.take k).flatMap entB ++ entB (gt m.log (k : Int)))).map u8v) rfl (by first | (simp only [List.length_append, List.length_cons, List.length_nil, List.append_assoc]; done) | (simp only [List.length_append, List.length_cons, List.length_nil, List.append_assoc]; omega) | (simp [leN_length, flI_length, hdB]; done) | (simp [leN_length, flI_length, hdB]; omega) | rfl) (by first | (simp only [List.map_append, List.map_cons, List.map_nil, List.append_assoc]; done) | (simp [leN_length, flI_length, hdB]; done) | rfl) rfl ?_
   refine GL.shape (i := 0) rfl (fun A_b c_b e_b l_b k_b => ?_)
   subst e_b
   refine GL.rn 1 ?_
   refine GL.nil (?_ : GC _ _ _ _)
   refine GC.region ?_;refine GL.rn 1 ?_;refine GL.pure rfl (p_add rfl rfl (w64 (by omega) (by omega))) ?_;refine GL.rn 1 ?_;refine GL.nil ?_
   exact zq102_
  intro h6; try simp only [tst_, bi1t] at h6
  refine GC.exit (?_ : GC _ _ _ _)
  refine GC.seq' ?_
  by_cases hfit : (bodyB m).length ≤ 16777216
  ·skip
   refine GC.region ?_;refine GL.rn 2 ?_
   refine GL.nil (?_ : GC _ _ _ _)
   refine GC.freezeB (i := 0) rfl ?_;refine GC.ret (Fin.b1 2 [] [0] ?_)
   have hge := body_ge (m := m) (k := k) hk
   have hpl : (preB m ++ (m.log.take k).flatMap entB).length = (preB m).length + ((m.log.take k).flatMap entB).length := List.length_append
   obtain rfl : k = m.log.length := by omega
   have hbe : preB m ++ m.log.flatMap entB = bodyB m := rfl
   rw [List.take_length, hbe] at hc1
   rw [List.take_length, hbe]
   exact ⟨_, _, _, fun _ => rfl, fun h => by omega, rfl, rfl, rfl⟩
  skip
  refine GC.region ?_;refine GL.rn 2 ?_
  refine GL.nil (?_ : GC _ _ _ _)
  refine GC.freezeB (i := 0) rfl ?_;refine GC.ret (Fin.b1 2 [] [0] ?_)
  refine ⟨A1, (preB m ++ (m.log.take k).flatMap entB), c1, fun h => by omega, fun _ => ?_, rfl, rfl, rfl⟩
  by_cases hkl : k = m.log.length
  ·subst hkl
   rw [List.take_length]
   exact Nat.lt_of_not_le hfit
  omega
 intro h5; try simp only [tst_, bi1t] at h5
 refine GL.rz 4 ?_;refine GC.cond_false rfl ?_
 refine GC.exit (?_ : GC _ _ _ _)
 refine GC.seq' ?_
 by_cases hfit : (bodyB m).length ≤ 16777216
 ·skip
  refine GC.region ?_;refine GL.rn 2 ?_
  refine GL.nil (?_ : GC _ _ _ _)
  refine GC.freezeB (i := 0) rfl ?_;refine GC.ret (Fin.b1 2 [] [0] ?_)
  have hge := body_ge (m := m) (k := k) hk
  have hpl : (preB m ++ (m.log.take k).flatMap entB).length = (preB m).length + ((m.log.take k).flatMap entB).length := List.length_append
  obtain rfl : k = m.log.length := by omega
  have hbe : preB m ++ m.log.flatMap entB = bodyB m := rfl
  rw [List.take_length, hbe] at hc1
  rw [List.take_length, hbe]
  exact ⟨_, _, _, fun _ => rfl, fun h => by omega, rfl, rfl, rfl⟩
 skip
 refine GC.region ?_;refine GL.rn 2 ?_
 refine GL.nil (?_ : GC _ _ _ _)
 refine GC.freezeB (i := 0) rfl ?_;refine GC.ret (Fin.b1 2 [] [0] ?_)
 refine ⟨A1, (preB m ++ (m.log.take k).flatMap entB), c1, fun h => by omega, fun _ => ?_, rfl, rfl, rfl⟩
 by_cases hkl : k = m.log.length
 ·subst hkl
  rw [List.take_length]
  exact Nat.lt_of_not_le hfit
 omega
theorem wmsg_tail {β : Type} (L : List UInt8) (f : OpD → Res → Grp → Stt → List Entry → β) : ((wprtF L).bind fun x => (wnumF 4 x.2).bind fun n => (manyF went n.2 n.1.toNat).map fun r => (f x.1.1 x.1.2.1 x.1.2.2.1 x.1.2.2.2 r.1, r.2)) = (wrstF L).map fun y => (f y.1.1 y.1.2.1 y.1.2.2.1 y.1.2.2.2.1 y.1.2.2.2.2, y.2) := by
  unfold wrstF
  cases wprtF L with
  | none => rfl
  | some x =>
    simp only [Option.bind_some]
    cases wnumF 4 x.2 with
    | none => rfl
    | some n =>
      simp only [Option.bind_some]
      cases manyF went n.2 n.1.toNat <;> rfl
theorem msg_rd {B L1 L2 L3 L4 L5 L6 L7 L8 L9 L10 L11 L12 : List UInt8} {k1 k2 k3 k4 k5 k6 k7 k8 k9 k10 k11 k12 v1 v2 v3 v4 v5 v6 v7 v8 v9 v10 v11 : Int} {o : OpD} {r : Res} {g : Grp} {s : Stt} {es : List Entry}
    (h1 : Rd 0 k1 (wnumF 1 B) (v1, L1)) (h2 : Rd k1 k2 (wnumF 8 L1) (v2, L2)) (h3 : Rd k2 k3 (wnumF 8 L2) (v3, L3)) (h4 : Rd k3 k4 (wsmF L3) (v4, L4)) (h5 : Rd k4 k5 (wsmF L4) (v5, L5)) (h6 : Rd k5 k6 (wsmF L5) (v6, L6)) (h7 : Rd k6 k7 (wsmF L6) (v7, L7)) (h8 : Rd k7 k8 (wsmF L7) (v8, L8)) (h9 : Rd k8 k9 (wnumF 8 L8) (v9, L9)) (h10 : Rd k9 k10 (wsmF L9) (v10, L10)) (h11 : Rd k10 k11 (wsmF L10) (v11, L11)) (h12 : Rd k11 k12 (wrstF L11) ((o, r, g, s, es), L12)) :
    Rd 0 k12 (wmsgF B) ((⟨v1, IntKind.i64.wrap v2, IntKind.i64.wrap v3, v4, v5, v6, v7, v8, v9, v10, v11, o, r, g, s, es⟩ : Msg), L12) := by
  unfold wmsgF
  refine Rd.bind h1 (Rd.bind h2 (Rd.bind h3 (Rd.bind h4 (Rd.bind h5 (Rd.bind h6 (Rd.bind h7 (Rd.bind h8 (Rd.bind h9 (Rd.bind h10 (Rd.bind h11 ?_))))))))))
  have := wmsg_tail L11 (fun o r g s es => (⟨v1, IntKind.i64.wrap v2, IntKind.i64.wrap v3, v4, v5, v6, v7, v8, v9, v10, v11, o, r, g, s, es⟩ : Msg))
  show Rd k11 k12 ((wprtF L11).bind fun x => (wnumF 4 x.2).bind fun n => (manyF went n.2 n.1.toNat).map fun r => ((⟨v1, IntKind.i64.wrap v2, IntKind.i64.wrap v3, v4, v5, v6, v7, v8, v9, v10, v11, x.1.1, x.1.2.1, x.1.2.2.1, x.1.2.2.2, r.1⟩ : Msg), r.2)) _
  rw [this]
  exact Rd.map (fun y : (OpD × Res × Grp × Stt × List Entry) × List UInt8 => ((⟨v1, IntKind.i64.wrap v2, IntKind.i64.wrap v3, v4, v5, v6, v7, v8, v9, v10, v11, y.1.1, y.1.2.1, y.1.2.2.1, y.1.2.2.2.1, y.1.2.2.2.2⟩ : Msg), y.2)) h12
theorem dec_none {B : List UInt8} {m : Msg} {L : List UInt8} {z : Bool} (hm : Rd 0 (bI z) (wmsgF B) (m, L)) (h : z = true ∨ 0 < (L.length : Int) ∨ ¬ msgE m = 0 ∨ ¬ bodyB m = B) : wdecF B = none := by
  cases z with
  | true => rw [wdecF, (hm.2 (by decide)).resolve_left (fun h => h rfl)]; rfl
  | false =>
    rw [wdecF, (hm.1 rfl).2, Option.bind_some]
    refine if_neg fun hh => ?_
    rcases h with h | h | h | h
    · cases h
    · have h0 := congrArg List.length hh.1
      simp only [List.length_nil] at h0
      omega
    · exact h (msgE_yes hh.2.1)
    · exact h hh.2.2
theorem dec_some {B : List UInt8} {m : Msg} {L : List UInt8} (hm : wmsgF B = some (m, L)) (h1 : (L.length : Int) ≤ 0) (h2 : msgE m = 0) (h3 : bodyB m = B) : wdecF B = some m := by
  rw [wdecF, hm, Option.bind_some]
  exact if_pos ⟨List.eq_nil_of_length_eq_zero (by dsimp only; omega), by rw [← msgE_iff]; exact h2, h3⟩
theorem ba_eq {a b : List UInt8} : ((⟨a.toArray⟩ : ByteArray) = ⟨b.toArray⟩) ↔ a = b := by simp
theorem body_eq {B bs : List UInt8} {m : Msg} (hB : B.length ≤ 16777216) (hi : (bodyB m).length ≤ 16777216 → bs = bodyB m) (hj : 16777216 < (bodyB m).length → 16777216 < bs.length) : bs = B ↔ bodyB m = B := by
  by_cases h : (bodyB m).length ≤ 16777216
  · rw [hi h]
  · refine ⟨fun e => ?_, fun e => ?_⟩
    · have := hj (by omega); rw [e] at this; omega
    · rw [e] at h; omega
theorem rdec_ct (A : Option Addr) (B F : List UInt8) (cp : Nat) (hF : F = frameB B) (hB : B.length ≤ 16777216) (hlog : ∀ m M, wmsgF B = some (m, M) → m.log.length < 100000) (hcp : F.length ≤ cp) (hcp' : cp ≤ 9223372036854775807) : Ct Tryz.prog 19 [.slice A F.length cp] [] [Pers.row Kd.u8 A F] (DecM (wdecF B)) := by
 have hfl : F.length = B.length + 20 := by rw [hF, frameB_len]
 have hp1 : (256 : Nat) ^ 1 = 256 := p256_1
 refine Ct.intro Tryz.func19 rfl rfl rfl (fun c hc => ?_)
 refine GC.sr_ ?_;refine GL.step rfl (t_alloc rfl ze_42) (GL.ex fun b_t2 => ?_);refine GL.rz 1 ?_;refine GC.sr_ ?_;refine GL.know (q := Pers.row Kd.u8 none []) (fun _ _ _ => .inl rfl) ?_;refine GL.know (q := Pers.row kI none []) (fun _ _ _ => .inl rfl) ?_
 refine GL.know (q := Pers.row kPage none []) (fun _ _ _ => .inl rfl) ?_;refine GL.know (q := Pers.row kRow none []) (fun _ _ _ => .inl rfl) ?_;refine GL.know (q := Pers.row kEntry none []) (fun _ _ _ => .inl rfl) ?_;refine GL.rn 1 ?_
 refine GL.cl Tryz.call51 [] [5] rfl rfl rfl (by exact r3read_ct _ F _ (by omega) hcp hcp') ?_
 rintro _ _ _ ⟨k11, s11, A11, bd11, cp11, n11, l11, c11, hr11, rfl, rfl, rfl⟩
 obtain ⟨rfl, rfl, rfl, rfl⟩ := rd_fr hF hB hr11
 rw [(rd_fr0 hF hB).2.1]
 refine GL.rn 4 ?_;refine GL.step rfl (t_alloc rfl ze_55) (GL.ex fun b_t4 => ?_);refine GL.sn_ 0 ?_;refine GL.rz 2 ?_;refine GC.seq' ?_;refine GC.rg 2 ?_;refine GC.cond_false rfl ?_
 refine GC.skip (?_ : GC _ _ _ _)
 refine GC.seq' ?_;refine GC.rr 5 ?_;refine GL.sp 23 ?_ ?_
 ·intro h1; try simp only [tst_] at h1
  first
  | (exfalso; first | exact h1 trivial | omega | (simp at h1; done))
  |(skip
    refine GL.rz 9 ?_;refine GC.cond_true rfl ?_;refine GC.sr_ ?_;refine GL.pure rfl (p_build ze_42 of_42 rfl rfl) ?_;refine GL.sn_ 1 ?_;refine GL.rz 1 ?_;refine GC.ret (Fin.c1 2 42 3 1 28 [] [] ?_)
    exact ⟨rfl, rfl, rfl⟩)
 intro h1; try simp only [tst_] at h1
 first
 | (exfalso; first | exact h1 trivial | omega | (simp at h1; done))
 |(skip
   refine GL.rn 1 ?_;refine GL.dg_ 0 ?_;refine GL.rn 3 ?_;refine GL.sp 28 ?_ ?_
   ·intro h2; try simp only [tst_] at h2
    first
    | (exfalso; first | exact h2 trivial | omega | (simp at h2; done))
    |(skip
      refine GL.rz 4 ?_;refine GC.cond_true rfl ?_;refine GC.sr_ ?_;refine GL.pure rfl (p_build ze_42 of_42 rfl rfl) ?_;refine GL.sn_ 1 ?_;refine GL.rz 1 ?_;refine GC.ret (Fin.c1 2 42 3 1 28 [] [] ?_)
      exact ⟨rfl, rfl, rfl⟩)
   intro h2; try simp only [tst_] at h2
   first
   | (exfalso; first | exact h2 trivial | omega | (simp at h2; done))
   |(skip
     refine GL.rn 1 ?_;refine GL.dg_ 0 ?_;refine GL.rz 2 ?_;refine GC.co ?_ ?_
     ·intro h3; try simp only [tst_] at h3
      first
      | (exfalso; first | exact h3 trivial | omega | (simp at h3; done))
      |(skip
        refine GC.sr_ ?_;refine GL.pure rfl (p_build ze_42 of_42 rfl rfl) ?_;refine GL.sn_ 1 ?_;refine GL.rz 1 ?_;refine GC.ret (Fin.c1 2 42 3 1 28 [] [] ?_)
        exact ⟨rfl, rfl, rfl⟩)
     intro h3; try simp only [tst_] at h3
     first
     | (exfalso; first | exact h3 trivial | omega | (simp at h3; done))
     |(skip
       refine GC.skip (?_ : GC _ _ _ _)
       refine GC.rr 1 ?_;refine GL.ld_ 0 ?_;refine GL.pure rfl (p_build ze_100 of_100 rfl rfl) ?_;refine GL.step rfl (t_box rfl rfl rfl) (GL.ex fun b_t37 => ?_);refine GL.rz 1 ?_;refine GC.rr 1 ?_;refine GL.cl Tryz.call52 [0] [0] rfl rfl rfl (by exact rnb_ct _ _ _ B _ 1 false (by omega) (by omega) l11 c11 (by omega)) ?_
       rintro _ _ _ ⟨v39, L39, z39, A39, c39, hs39, ⟨hv39, hw39, hx39⟩, l39, k39, rfl, rfl, rfl⟩
       refine GL.pure rfl (p_convR (t := 23) (r := v39) (by rw [Tryz.underlying23]; simp) Tryz.underlying22 rfl (wrap8 (by omega) (by omega))) ?_;refine GL.pure rfl (p_build ze_42 of_42 rfl rfl) ?_;refine GL.step rfl (t_alloc rfl ze_42) (GL.ex fun b_t8 => ?_)
       refine GL.sn_ 0 ?_;refine GL.nr 1 ?_;refine GL.cl Tryz.call52 [1] [0] rfl rfl rfl (by exact rnb_ct _ _ _ L39 _ 8 z39 (by omega) (by omega) l39 k39 (by omega)) ?_
       rintro _ _ _ ⟨v43, L43, z43, A43, c43, hs43, ⟨hv43, hw43, hx43⟩, l43, k43, rfl, rfl, rfl⟩
       refine GL.pure rfl (p_conv (t := 23) (by rw [Tryz.underlying23]; simp) Tryz.underlying2 rfl) ?_;refine GL.rn 1 ?_;refine GL.so_ 1 ?_;refine GL.nr 1 ?_;refine GL.cl Tryz.call52 [0] [0] rfl rfl rfl (by exact rnb_ct _ _ _ L43 _ 8 z43 (by omega) (by omega) l43 k43 (by omega)) ?_
       rintro _ _ _ ⟨v47, L47, z47, A47, c47, hs47, ⟨hv47, hw47, hx47⟩, l47, k47, rfl, rfl, rfl⟩
       refine GL.pure rfl (p_conv (t := 23) (by rw [Tryz.underlying23]; simp) Tryz.underlying2 rfl) ?_;refine GL.rn 1 ?_;refine GL.so_ 1 ?_;refine GL.nr 1 ?_;refine GL.cl Tryz.call53 [0] [0] rfl rfl rfl (by exact rsm_ct _ _ _ L47 _ z47 l47 k47 (by omega)) ?_
       rintro _ _ _ ⟨v51, L51, z51, A51, c51, hs51, ⟨hv51, hw51, hx51⟩, l51, k51, rfl, rfl, rfl⟩
       refine GL.rn 1 ?_;refine GL.so_ 1 ?_;refine GL.nr 1 ?_;refine GL.cl Tryz.call53 [0] [0] rfl rfl rfl (by exact rsm_ct _ _ _ L51 _ z51 l51 k51 (by omega)) ?_
       rintro _ _ _ ⟨v54, L54, z54, A54, c54, hs54, ⟨hv54, hw54, hx54⟩, l54, k54, rfl, rfl, rfl⟩
       refine GL.rn 1 ?_;refine GL.so_ 1 ?_;refine GL.nr 1 ?_;refine GL.cl Tryz.call53 [0] [0] rfl rfl rfl (by exact rsm_ct _ _ _ L54 _ z54 l54 k54 (by omega)) ?_
       rintro _ _ _ ⟨v57, L57, z57, A57, c57, hs57, ⟨hv57, hw57, hx57⟩, l57, k57, rfl, rfl, rfl⟩
       refine GL.rn 1 ?_;refine GL.so_ 1 ?_;refine GL.nr 1 ?_;refine GL.cl Tryz.call53 [0] [0] rfl rfl rfl (by exact rsm_ct _ _ _ L57 _ z57 l57 k57 (by omega)) ?_
       rintro _ _ _ ⟨v60, L60, z60, A60, c60, hs60, ⟨hv60, hw60, hx60⟩, l60, k60, rfl, rfl, rfl⟩
       refine GL.rn 1 ?_;refine GL.so_ 1 ?_;refine GL.nr 1 ?_;refine GL.cl Tryz.call53 [0] [0] rfl rfl rfl (by exact rsm_ct _ _ _ L60 _ z60 l60 k60 (by omega)) ?_
       rintro _ _ _ ⟨v63, L63, z63, A63, c63, hs63, ⟨hv63, hw63, hx63⟩, l63, k63, rfl, rfl, rfl⟩
       refine GL.rn 1 ?_;refine GL.so_ 1 ?_;refine GL.nr 1 ?_;refine GL.cl Tryz.call52 [0] [0] rfl rfl rfl (by exact rnb_ct _ _ _ L63 _ 8 z63 (by omega) (by omega) l63 k63 (by omega)) ?_
       rintro _ _ _ ⟨v66, L66, z66, A66, c66, hs66, ⟨hv66, hw66, hx66⟩, l66, k66, rfl, rfl, rfl⟩
       refine GL.rn 1 ?_;refine GL.so_ 1 ?_;refine GL.nr 1 ?_;refine GL.cl Tryz.call53 [0] [0] rfl rfl rfl (by exact rsm_ct _ _ _ L66 _ z66 l66 k66 (by omega)) ?_
       rintro _ _ _ ⟨v69, L69, z69, A69, c69, hs69, ⟨hv69, hw69, hx69⟩, l69, k69, rfl, rfl, rfl⟩
       refine GL.rn 1 ?_;refine GL.so_ 1 ?_;refine GL.nr 1 ?_;refine GL.cl Tryz.call53 [0] [0] rfl rfl rfl (by exact rsm_ct _ _ _ L69 _ z69 l69 k69 (by omega)) ?_
       rintro _ _ _ ⟨v72, L72, z72, A72, c72, hs72, ⟨hv72, hw72, hx72⟩, l72, k72, rfl, rfl, rfl⟩
       refine GL.rn 1 ?_;refine GL.so_ 1 ?_;refine GL.nr 1 ?_;refine GL.ln_ 1 28 ?_;refine GL.cl Tryz.call54 [0] [0] rfl rfl rfl (by exact rrst_ct _ _ v39 (IntKind.i64.wrap v43) (IntKind.i64.wrap v47) v51 v54 v57 v60 v63 v66 v69 v72 _ L72 _ z72 l72 k72 (by omega)) ?_
       rintro _ _ _ ⟨o76, r76, g76, s76, es76, L76, z76, x76, A76, c76, hs76, l76, k76, rfl, rfl, rfl⟩
       refine GL.sn_ 1 ?_;refine GL.nl_ ?_
       iterate 2 refine GC.seq' ?_
       have hmsg := msg_rd hs39 hs43 hs47 hs51 hs54 hs57 hs60 hs63 hs66 hs69 hs72 hs76
       have hM2 : z76 = false → wmsgF B = some ((⟨v39, IntKind.i64.wrap v43, IntKind.i64.wrap v47, v51, v54, v57, v60, v63, v66, v69, v72, o76, r76, g76, s76, es76⟩ : Msg), L76) := fun h => (hmsg.1 (by rw [bI0]; exact h)).2
       have hM : z76 = false → MsgF B (⟨v39, IntKind.i64.wrap v43, IntKind.i64.wrap v47, v51, v54, v57, v60, v63, v66, v69, v72, o76, r76, g76, s76, es76⟩ : Msg) L76 := fun h => wmsgF_all (hM2 h)
       refine GC.regionC (m := 26) (is := [0, 0, 0, 0]) (js := (up 0 27)) wide_ rfl rfl rfl ?_;refine GA.tk 0 [0, 0, 0, 0] (up 0 27) ?_;refine GA.tk 1 [0, 0, 0, 0] (up 0 27) ?_;refine GA.tk 2 [0, 0, 0, 0] (up 0 27) ?_
       refine GA.tp 3 rfl [0, 0, 0, 0] (up 0 27) (i_mem (m_load (i := 0) rfl rfl ag_4 rfl)) ?_;refine GA.tk 4 [0, 0, 0, 0] (up 0 27) ?_;refine GA.split (i := 81) rfl (fun h4 => ?_) (fun h4 => ?_)
       ·try simp only [tst_] at h4
        first
        | (exfalso; first | exact h4 trivial | omega | (simp at h4; done))
        |(skip
          refine GA.tx 5 [0, 0, 0, 0] (up 0 27) ?_;refine GA.tx 6 [0, 0, 0, 0] (up 0 27) ?_;refine GA.tx 7 [0, 0, 0, 0] (up 0 27) ?_;refine GA.tx 8 [0, 0, 0, 0] (up 0 27) ?_;refine GA.tx 9 [0, 0, 0, 0] (up 0 27) ?_;refine GA.tx 10 [0, 0, 0, 0] (up 0 27) ?_
          refine GA.tk 11 [0, 0, 0, 0] (up 0 27) ?_;refine GA.tk 12 [0, 0, 0, 0] (up 0 27) ?_;refine GA.tx 13 [0, 0, 0, 0] (up 0 27) ?_;refine GA.tx 14 [0, 0, 0, 0] (up 0 27) ?_;refine GA.tx 15 [0, 0, 0, 0] (up 0 27) ?_
          refine GA.tk 16 [0, 0, 0, 0] (up 0 27) ?_;refine GA.tk 17 [0, 0, 0, 0] (up 0 27) ?_;refine GA.tx 18 [0, 0, 0, 0] (up 0 27) ?_;refine GA.tx 19 [0, 0, 0, 0] (up 0 27) ?_;refine GA.tx 20 [0, 0, 0, 0] (up 0 27) ?_
          refine GA.tx 21 [0, 0, 0, 0] (up 0 27) ?_;refine GA.tx 22 [0, 0, 0, 0] (up 0 27) ?_;refine GA.tx 23 [0, 0, 0, 0] (up 0 27) ?_;refine GA.tx 24 [0, 0, 0, 0] (up 0 27) ?_;refine GA.tk 25 [0, 0, 0, 0] (up 0 27) ?_
          refine GA.done (by kernel_rfl) (?_ : GC _ _ _ _)
          refine GC.cond_true rfl ?_;refine GC.sr_ ?_;refine GL.pure rfl (p_build ze_42 of_42 rfl rfl) ?_;refine GL.sn_ 3 ?_;refine GL.rz 1 ?_;refine GC.ret (Fin.c1 2 42 3 3 28 [] [25, 25, 25, 24, 23, 22, 24, 21] ?_)
          exact ⟨zms, lie0, 160, ⟨fun h => absurd h (by decide), fun _ => ⟨dec_none hmsg (by first | (exact .inl (by assumption)) | (exact .inr (.inl (by assumption))) | (exact .inr (.inr (.inl (by assumption)))) | exact .inr (.inr (.inr (fun h => absurd (ba_eq.2 ((body_eq hB hi96 hj96).2 h)) (by assumption))))), rfl, rfl⟩⟩, rfl, rfl, rfl⟩)
       try simp only [tst_] at h4
       first
       | (exfalso; first | exact h4 trivial | omega | (simp at h4; done))
       |(skip
         refine GA.takeG (s := 81) 5 rfl rfl rfl (by kernel_rfl) (by kernel_rfl) (by kernel_rfl) rfl (fun a w h => h.me [0, 0, 0, 0] (up 0 27)) (i_pure (p_move rfl)) ?_;refine GA.takeG (s := 81) 6 rfl rfl rfl (by kernel_rfl) (by kernel_rfl) (by kernel_rfl) rfl (fun a w h => h.me [0, 0, 0, 0] (up 0 27)) (i_pure (p_nilCheck rfl)) ?_
         refine GA.takeG (s := 81) 7 rfl rfl rfl (by kernel_rfl) (by kernel_rfl) (by kernel_rfl) rfl (fun a w h => h.me [0, 0, 0, 0] (up 0 27)) (i_pure (p_fieldAddr fo_100_0 rfl)) ?_;refine GA.takeG (s := 81) 8 rfl rfl rfl (by kernel_rfl) (by kernel_rfl) (by kernel_rfl) rfl (fun a w h => h.me [0, 0, 0, 0] (up 0 27)) (i_mem (m_load (i := 0) rfl rfl ag_25 rfl)) ?_
         refine GA.takeG (s := 81) 9 rfl rfl rfl (by kernel_rfl) (by kernel_rfl) (by kernel_rfl) rfl (fun a w h => h.me [0, 0, 0, 0] (up 0 27)) (i_pure (p_len Tryz.underlying25 rfl)) ?_;refine GA.takeG (s := 81) 10 rfl rfl rfl (by kernel_rfl) (by kernel_rfl) (by kernel_rfl) rfl (fun a w h => h.me [0, 0, 0, 0] (up 0 27)) (i_pure (p_gtr rfl rfl)) ?_
         refine GA.tk 11 [0, 0, 0, 0] (up 0 27) ?_;refine GA.tk 12 [0, 0, 0, 0] (up 0 27) ?_;refine GA.split (i := 89) rfl (fun h5 => ?_) (fun h5 => ?_)
         ·try simp only [tst_] at h5
          first
          | (exfalso; first | exact h5 trivial | omega | (simp at h5; done))
          |(skip
            refine GA.tx 13 [0, 0, 0, 0] (up 0 27) ?_;refine GA.tx 14 [0, 0, 0, 0] (up 0 27) ?_;refine GA.tx 15 [0, 0, 0, 0] (up 0 27) ?_;refine GA.tk 16 [0, 0, 0, 0] (up 0 27) ?_;refine GA.tk 17 [0, 0, 0, 0] (up 0 27) ?_
            refine GA.tx 18 [0, 0, 0, 0] (up 0 27) ?_;refine GA.tx 19 [0, 0, 0, 0] (up 0 27) ?_;refine GA.tx 20 [0, 0, 0, 0] (up 0 27) ?_;refine GA.tx 21 [0, 0, 0, 0] (up 0 27) ?_;refine GA.tx 22 [0, 0, 0, 0] (up 0 27) ?_
            refine GA.tx 23 [0, 0, 0, 0] (up 0 27) ?_;refine GA.tx 24 [0, 0, 0, 0] (up 0 27) ?_;refine GA.tk 25 [0, 0, 0, 0] (up 0 27) ?_
            refine GA.done (by kernel_rfl) (?_ : GC _ _ _ _)
            refine GC.cond_true rfl ?_;refine GC.sr_ ?_;refine GL.pure rfl (p_build ze_42 of_42 rfl rfl) ?_;refine GL.sn_ 3 ?_;refine GL.rz 1 ?_;refine GC.ret (Fin.c1 2 42 3 3 28 [] [25, 25, 25, 24, 23, 22, 24, 21] ?_)
            exact ⟨zms, lie0, 160, ⟨fun h => absurd h (by decide), fun _ => ⟨dec_none hmsg (by first | (exact .inl (by assumption)) | (exact .inr (.inl (by assumption))) | (exact .inr (.inr (.inl (by assumption)))) | exact .inr (.inr (.inr (fun h => absurd (ba_eq.2 ((body_eq hB hi96 hj96).2 h)) (by assumption))))), rfl, rfl⟩⟩, rfl, rfl, rfl⟩)
         try simp only [tst_] at h5
         first
         | (exfalso; first | exact h5 trivial | omega | (simp at h5; done))
         |(skip
           refine GA.takeG (s := 89) 13 rfl rfl rfl (by kernel_rfl) (by kernel_rfl) (by kernel_rfl) rfl (fun a w h => h.me [0, 0, 0, 0] (up 0 27)) (i_mem (m_loadN (i := 1) rfl rfl ag_42 (vs := [_, _, _, _, _, _, _, _, _, _, _, _, _, _, _, _, _, _, _, _, _, _, _, _, _, _, _, _]) sz_42 ⟨rfl, rfl, rfl, rfl, rfl, rfl, rfl, rfl, rfl, rfl, rfl, rfl, rfl, rfl, rfl, rfl, rfl, rfl, rfl, rfl, rfl, rfl, rfl, rfl, rfl, rfl, rfl, rfl, trivial⟩)) ?_
           refine GA.al [14] ?_
           refine GAs.consG (i := 14) (s := 89) rfl rfl rfl rfl (t_call rfl Tryz.call13 rfl (is := []) (js := (up 0 8)) rfl rfl (by exact rchk_ct (⟨v39, IntKind.i64.wrap v43, IntKind.i64.wrap v47, v51, v54, v57, v60, v63, v66, v69, v72, o76, r76, g76, s76, es76⟩ : Msg) x76 (hM (by assumption)).len)) (by rintro a w ⟨_, _, _, ⟨rfl, rfl, rfl⟩, h⟩; exact h.me [0, 0, 0, 0] (up 0 27)) (GA.ret ?_) ?_
           ·rintro _ _ _ ⟨rfl, rfl, rfl⟩
            refine GA.takeG (s := 89) 15 rfl rfl rfl (by kernel_rfl) (by kernel_rfl) (by kernel_rfl) rfl (fun a w h => h.me [0, 0, 0, 0] (up 0 27)) (i_pure (p_neq rfl rfl)) ?_;refine GA.tk 16 [0, 0, 0, 0] (up 0 27) ?_;refine GA.tk 17 [0, 0, 0, 0] (up 0 27) ?_
            refine GA.split (i := 94) rfl (fun h6 => ?_) (fun h6 => ?_)
            ·try simp only [tst_] at h6
             first
             | (exfalso; first | exact h6 trivial | omega | (simp at h6; done))
             |(skip
               refine GA.tx 18 [0, 0, 0, 0] (up 0 27) ?_;refine GA.tx 19 [0, 0, 0, 0] (up 0 27) ?_;refine GA.tx 20 [0, 0, 0, 0] (up 0 27) ?_;refine GA.tx 21 [0, 0, 0, 0] (up 0 27) ?_;refine GA.tx 22 [0, 0, 0, 0] (up 0 27) ?_
               refine GA.tx 23 [0, 0, 0, 0] (up 0 27) ?_;refine GA.tx 24 [0, 0, 0, 0] (up 0 27) ?_;refine GA.tk 25 [0, 0, 0, 0] (up 0 27) ?_
               refine GA.done (by kernel_rfl) (?_ : GC _ _ _ _)
               refine GC.cond_true rfl ?_;refine GC.sr_ ?_;refine GL.pure rfl (p_build ze_42 of_42 rfl rfl) ?_;refine GL.sn_ 3 ?_;refine GL.rz 1 ?_;refine GC.ret (Fin.c1 2 42 3 3 28 [] [25, 25, 25, 24, 23, 22, 24, 21] ?_)
               exact ⟨zms, lie0, 160, ⟨fun h => absurd h (by decide), fun _ => ⟨dec_none hmsg (by first | (exact .inl (by assumption)) | (exact .inr (.inl (by assumption))) | (exact .inr (.inr (.inl (by assumption)))) | exact .inr (.inr (.inr (fun h => absurd (ba_eq.2 ((body_eq hB hi96 hj96).2 h)) (by assumption))))), rfl, rfl⟩⟩, rfl, rfl, rfl⟩)
            try simp only [tst_] at h6
            first
            | (exfalso; first | exact h6 trivial | omega | (simp at h6; done))
            |(skip
              refine GA.takeG (s := 94) 18 rfl rfl rfl (by kernel_rfl) (by kernel_rfl) (by kernel_rfl) rfl (fun a w h => h.me [0, 0, 0, 0] (up 0 27)) (i_mem (m_loadN (i := 1) rfl rfl ag_42 (vs := [_, _, _, _, _, _, _, _, _, _, _, _, _, _, _, _, _, _, _, _, _, _, _, _, _, _, _, _]) sz_42 ⟨rfl, rfl, rfl, rfl, rfl, rfl, rfl, rfl, rfl, rfl, rfl, rfl, rfl, rfl, rfl, rfl, rfl, rfl, rfl, rfl, rfl, rfl, rfl, rfl, rfl, rfl, rfl, rfl, trivial⟩)) ?_
              refine GA.takeG (s := 94) 21 rfl rfl rfl (by kernel_rfl) (by kernel_rfl) (by kernel_rfl) rfl (fun a w h => h.me [0, 0, 0, 0] (up 0 27)) (i_pure (p_fieldAddr fo_55_2 rfl)) ?_;refine GA.takeG (s := 94) 22 rfl rfl rfl (by kernel_rfl) (by kernel_rfl) (by kernel_rfl) rfl (fun a w h => h.me [0, 0, 0, 0] (up 0 27)) (i_mem (m_load (i := 2) rfl rfl ag_25 rfl)) ?_
              refine GA.takeG (s := 94) 23 rfl rfl rfl (by kernel_rfl) (by kernel_rfl) (by kernel_rfl) rfl (fun a w h => h.me [0, 0, 0, 0] (up 0 27)) (i_mem (m_str (i := 20) rfl rfl Tryz.underlying25 Tryz.underlying5 Tryz.underlying9)) ?_
              refine GA.al [19] ?_
              refine GAs.consG (i := 19) (s := 94) rfl rfl rfl rfl (t_call rfl Tryz.call47 rfl (is := []) (js := (up 0 8)) rfl rfl (by exact rbody2_ct (⟨v39, IntKind.i64.wrap v43, IntKind.i64.wrap v47, v51, v54, v57, v60, v63, v66, v69, v72, o76, r76, g76, s76, es76⟩ : Msg) x76 (hM (by assumption)).len (by rw [← msgE_iff]; assumption) (hM (by assumption)).nonce (hlog _ _ (hM2 (by assumption))))) (by rintro a w ⟨_, _, _, ⟨A96, bs96, cp96, hi96, hj96, rfl, rfl, rfl⟩, h⟩; exact h.me [0, 0, 0, 0] (up 1 27)) (GA.ret ?_) ?_
              ·rintro _ _ _ ⟨A96, bs96, cp96, hi96, hj96, rfl, rfl, rfl⟩
               refine GA.al [20] ?_
               refine GAs.consG (i := 20) (s := 94) rfl rfl rfl rfl (t_mem rfl (m_str (i := 0) rfl rfl Tryz.underlying25 Tryz.underlying5 Tryz.underlying9)) (by rintro a w h; exact h.me [0, 0, 0, 0] (up 1 27)) ?_ GAs.nil
               refine GA.takeG (s := 94) 24 rfl rfl rfl (by kernel_rfl) (by kernel_rfl) (by kernel_rfl) rfl (fun a w h => h.me [0, 0, 0, 0] (up 1 27)) (i_pure (p_sneq rfl rfl)) ?_;refine GA.tk 25 [0, 0, 0, 0] (up 1 27) ?_
               refine GA.done (by kernel_rfl) (?_ : GC _ _ _ _)
               refine GC.co ?_ ?_
               ·intro h7; try simp only [tst_] at h7
                first
                | (exfalso; first | exact h7 trivial | omega | (simp at h7; done))
                |(skip
                  refine GC.sr_ ?_;refine GL.pure rfl (p_build ze_42 of_42 rfl rfl) ?_;refine GL.sn_ 3 ?_;refine GL.rz 1 ?_;refine GC.ret (Fin.c1 2 42 3 3 28 [] [26, 26, 26, 25, 24, 23, 25, 22] ?_)
                  exact ⟨zms, lie0, 160, ⟨fun h => absurd h (by decide), fun _ => ⟨dec_none hmsg (by first | (exact .inl (by assumption)) | (exact .inr (.inl (by assumption))) | (exact .inr (.inr (.inl (by assumption)))) | exact .inr (.inr (.inr (fun h => absurd (ba_eq.2 ((body_eq hB hi96 hj96).2 h)) (by assumption))))), rfl, rfl⟩⟩, rfl, rfl, rfl⟩)
               intro h7; try simp only [tst_] at h7
               first
               | (exfalso; first | exact h7 trivial | omega | (simp at h7; done))
               |(skip
                 refine GC.skip (?_ : GC _ _ _ _)
                 refine GC.sr_ ?_;refine GL.ln_ 1 28 ?_;refine GL.sn_ 3 ?_;refine GL.rz 1 ?_;refine GC.ret (Fin.c1 2 42 3 3 28 [] (up 1 8) ?_)
                 exact ⟨(⟨v39, IntKind.i64.wrap v43, IntKind.i64.wrap v47, v51, v54, v57, v60, v63, v66, v69, v72, o76, r76, g76, s76, es76⟩ : Msg), x76, 0, ⟨fun _ => dec_some (hM2 (by assumption)) (by omega) (by assumption) ((body_eq hB hi96 hj96).1 (ba_eq.1 (by assumption))), fun h => absurd rfl h⟩, rfl, rfl, rfl⟩)
              exact GAs.nil)
           exact GAs.nil)))))
theorem zms_len : MsgLen zms := ⟨by simp [zms, zop], by simp [zms, zop], by simp [zms, rz], by simp [zms, zgr], zstLen, by simp [zms], by simp [zms]⟩
theorem wdecF_len {B : List UInt8} {m : Msg} (h : wdecF B = some m) : MsgLen m := by
  simp only [wdecF, Option.bind_eq_some_iff] at h
  obtain ⟨⟨m', M⟩, h1, h2⟩ := h
  split at h2
  · obtain rfl := Option.some.inj h2
    exact (wmsgF_all h1).len
  · cases h2
theorem decM_two {x : Option Msg} {m n : Msg} {k j : Int} (h1 : (k = 0 → x = some m) ∧ (k ≠ 0 → x = none ∧ m = zms ∧ k = 160)) (h2 : (j = 0 → x = some n) ∧ (j ≠ 0 → x = none ∧ n = zms ∧ j = 160)) : k = j ∧ m = n := by
  by_cases hk : k = 0
  · have e1 := h1.1 hk
    by_cases hj : j = 0
    · have e2 := h2.1 hj
      rw [e1] at e2
      exact ⟨by omega, Option.some.inj e2⟩
    · have e2 := (h2.2 hj).1
      rw [e1] at e2; cases e2
  · obtain ⟨e1, rfl, rfl⟩ := h1.2 hk
    by_cases hj : j = 0
    · have e2 := h2.1 hj
      rw [e1] at e2; cases e2
    · obtain ⟨_, rfl, rfl⟩ := h2.2 hj
      exact ⟨rfl, rfl⟩
theorem decM_len {B : List UInt8} {m : Msg} {k : Int} (h1 : (k = 0 → wdecF B = some m) ∧ (k ≠ 0 → wdecF B = none ∧ m = zms ∧ k = 160)) : MsgLen m := by
  by_cases hk : k = 0
  · exact wdecF_len (h1.1 hk)
  · rw [(h1.2 hk).2.1]; exact zms_len
def good (b : List UInt8) : Prop := rdE b = 0 ∧ rdN b + 20 = b.length ∧ (gt b 2).toNat = 4 ∧ valN (seg b 4 12) = 0
def rawE (b : List UInt8) : Int := if rdE b = 0 then 160 else rdE b
theorem seg_split {b : List UInt8} {l m h : Nat} (h1 : l ≤ m) (h2 : m ≤ h) : seg b l h = seg b l m ++ seg b m h := by
  apply List.ext_getElem?
  intro i
  simp only [seg, List.getElem?_drop, List.getElem?_take, List.getElem?_append, List.length_drop, List.length_take]
  by_cases hi : i < min m b.length - l
  · rw [if_pos hi, if_pos (by omega), if_pos (by omega)]
  · rw [if_neg hi]
    by_cases hb : l + i < h
    · rw [if_pos hb]
      by_cases hm : m ≤ b.length
      · rw [if_pos (by omega)]; congr 1; omega
      · rw [List.getElem?_eq_none (by omega)]
        split
        · rw [List.getElem?_eq_none (by omega)]
        · rfl
    · rw [if_neg hb, if_neg (by omega)]
theorem byt_of {x : UInt8} {n : Nat} (h : x.toNat = n) : x = UInt8.ofNat n := by rw [← h]; simp
theorem good_frame {b : List UInt8} (h : good b) : ∃ B : List UInt8, B.length ≤ 16777216 ∧ b = frameB B := by
  obtain ⟨h1, h2, h3, h4⟩ := h
  obtain ⟨g1, g2, g3⟩ := rd_zero h1
  have h5 : (gt b 0).toNat = 80 ∧ (gt b 1).toNat = 76 ∧ (gt b 3).toNat = 0 ∧ rdN b ≤ 16777216 := by
    refine Classical.byContradiction fun hh => ?_
    rw [rd2 (by omega) hh] at h1; omega
  obtain ⟨k0, k1, k3, kn⟩ := h5
  have hl : (seg b 16 (rdN b + 16)).length = rdN b := by rw [seg_length (by omega)]; omega
  refine ⟨seg b 16 (rdN b + 16), by omega, ?_⟩
  have e0 : seg b 0 (rdN b + 20) = b := by rw [h2]; exact seg_all b
  rw [frameB]
  have e1 : headB (seg b 16 (rdN b + 16)) = seg b 0 (rdN b + 16) := by
    rw [seg_split (l := 0) (m := 16) (h := rdN b + 16) (by omega) (by omega), seg_split (l := 0) (m := 12) (h := 16) (by omega) (by omega), seg_split (l := 0) (m := 4) (h := 12) (by omega) (by omega)]
    have a1 : seg b 0 4 = [80, 76, 4, 0] := by
      rw [seg_cons (by omega) (by omega), seg_cons (by omega) (by omega), seg_cons (by omega) (by omega), seg_cons (by omega) (by omega), show seg b (0 + 1 + 1 + 1 + 1) 4 = [] by simp [seg]]
      have q0 := byt_of k0
      have q1 := byt_of k1
      have q2 := byt_of h3
      have q3 := byt_of k3
      show [gt b 0, gt b 1, gt b 2, gt b 3] = _
      rw [q0, q1, q2, q3]; rfl
    have a2 : seg b 4 12 = leN 8 0 := by
      have := leN_valN (seg b 4 12)
      rw [h4, seg_length (by omega)] at this
      exact this.symm
    have a3 : seg b 12 16 = leN 4 (seg b 16 (rdN b + 16)).length := by
      have := leN_valN (seg b 12 16)
      rw [seg_length (by omega)] at this
      rw [hl]; exact this.symm
    rw [headB, a1, a2, a3]
  rw [e1, g3, e0]
theorem wdec_no (A : Option Addr) (b : List UInt8) (cp : Nat) (hb : b.length ≤ 100000000) (hcp : b.length ≤ cp) (hcp' : cp ≤ 9223372036854775807) (hbad : ¬ good b) : Ct Tryz.prog 18 [.slice A b.length cp] [] [Pers.row Kd.u8 A b] (fun u G Q => u = .tuple #[msgZ, .int .i64 (rawE b)] ∧ G = [] ∧ Q = []) := by
 refine Ct.introD Tryz.func18 rfl rfl rfl (fun c hc hcD => ?_)
 refine GC.sr_ ?_;refine GL.step rfl (t_alloc rfl ze_42) (GL.ex fun b_t2 => ?_);refine GL.step rfl (t_alloc rfl ze_45) (GL.ex fun b_t3 => ?_);refine GL.nr 1 ?_;refine GL.cl Tryz.call48 [] [0] rfl rfl rfl (by exact fread_ct _ b _ (by omega) hcp hcp') ?_
 rintro _ _ _ ⟨k13, s13, A13, bd13, cp13, n13, l13, c13, hr13, rfl, rfl, rfl⟩
 refine GL.rn 4 ?_;refine GL.step rfl (t_alloc rfl ze_55) (GL.ex fun b_t4 => ?_);refine GL.sn_ 0 ?_;refine GL.rz 2 ?_;refine GC.seq' ?_;refine GC.rg 2 ?_;refine GC.co ?_ ?_
 ·intro h1; try simp only [tst_] at h1
  refine GC.sr_ ?_;refine GL.pure rfl (p_build ze_42 of_42 rfl rfl) ?_;refine GL.rn 1 ?_;refine GL.sn_ 2 ?_;refine GL.so_ 1 ?_;refine GL.nl_ ?_;refine GC.ret ?_
  refine fun a w h => FinD.back hcD (rs := [.cell 2 42, .cell 3 45]) (vs := [_, _]) (is := []) (js := []) rfl ⟨⟨2, _, _, _, _, rfl, rfl, .inr ⟨[_, _, _, _, _, _, _, _, _, _, _, _, _, _, _, _, _, _, _, _, _, _, _, _, _, _, _, _], rfl, ag_42, sz_42, ⟨rfl, rfl, rfl, rfl, rfl, rfl, rfl, rfl, rfl, rfl, rfl, rfl, rfl, rfl, rfl, rfl, rfl, rfl, rfl, rfl, rfl, rfl, rfl, rfl, rfl, rfl, rfl, rfl, trivial⟩⟩⟩, ⟨1, _, _, _, _, rfl, rfl, .inl ⟨ag_45, rfl⟩⟩, trivial⟩ rfl rfl ?_ h
  clear h
  rw [rawE, if_neg (by assumption)]
  exact ⟨rfl, rfl, rfl⟩
 intro h1; try simp only [tst_] at h1
 refine GC.skip (?_ : GC _ _ _ _)
 refine GC.seq' ?_;refine GC.rr 5 ?_;refine GL.sp 25 ?_ ?_
 ·intro h2; try simp only [tst_] at h2
  refine GL.rz 9 ?_;refine GC.cond_true rfl ?_;refine GC.sr_ ?_;refine GL.pure rfl (p_build ze_42 of_42 rfl rfl) ?_;refine GL.sn_ 2 ?_;refine GL.so_ 1 ?_;refine GL.nl_ ?_;refine GC.ret ?_
  refine fun a w h => FinD.back hcD (rs := [.cell 2 42, .cell 3 45]) (vs := [_, _]) (is := []) (js := []) rfl ⟨⟨2, _, _, _, _, rfl, rfl, .inr ⟨[_, _, _, _, _, _, _, _, _, _, _, _, _, _, _, _, _, _, _, _, _, _, _, _, _, _, _, _], rfl, ag_42, sz_42, ⟨rfl, rfl, rfl, rfl, rfl, rfl, rfl, rfl, rfl, rfl, rfl, rfl, rfl, rfl, rfl, rfl, rfl, rfl, rfl, rfl, rfl, rfl, rfl, rfl, rfl, rfl, rfl, rfl, trivial⟩⟩⟩, ⟨1, _, _, _, _, rfl, rfl, .inl ⟨ag_45, rfl⟩⟩, trivial⟩ rfl rfl ?_ h
  clear h
  rw [rawE, if_pos (by assumption)]
  exact ⟨rfl, rfl, rfl⟩
 intro h2; try simp only [tst_] at h2
 refine GL.rn 1 ?_;refine GL.dg_ 0 ?_;refine GL.rn 3 ?_;refine GL.sp 30 ?_ ?_
 ·intro h3; try simp only [tst_] at h3
  refine GL.rz 4 ?_;refine GC.cond_true rfl ?_;refine GC.sr_ ?_;refine GL.pure rfl (p_build ze_42 of_42 rfl rfl) ?_;refine GL.sn_ 2 ?_;refine GL.so_ 1 ?_;refine GL.nl_ ?_;refine GC.ret ?_
  refine fun a w h => FinD.back hcD (rs := [.cell 2 42, .cell 3 45]) (vs := [_, _]) (is := []) (js := []) rfl ⟨⟨2, _, _, _, _, rfl, rfl, .inr ⟨[_, _, _, _, _, _, _, _, _, _, _, _, _, _, _, _, _, _, _, _, _, _, _, _, _, _, _, _], rfl, ag_42, sz_42, ⟨rfl, rfl, rfl, rfl, rfl, rfl, rfl, rfl, rfl, rfl, rfl, rfl, rfl, rfl, rfl, rfl, rfl, rfl, rfl, rfl, rfl, rfl, rfl, rfl, rfl, rfl, rfl, rfl, trivial⟩⟩⟩, ⟨1, _, _, _, _, rfl, rfl, .inl ⟨ag_45, rfl⟩⟩, trivial⟩ rfl rfl ?_ h
  clear h
  rw [rawE, if_pos (by assumption)]
  exact ⟨rfl, rfl, rfl⟩
 intro h3; try simp only [tst_] at h3
 refine GL.rn 1 ?_;refine GL.dg_ 0 ?_;refine GL.rz 2 ?_;refine GC.co ?_ ?_
 ·intro h4; try simp only [tst_] at h4
  refine GC.sr_ ?_;refine GL.pure rfl (p_build ze_42 of_42 rfl rfl) ?_;refine GL.sn_ 2 ?_;refine GL.so_ 1 ?_;refine GL.nl_ ?_;refine GC.ret ?_
  refine fun a w h => FinD.back hcD (rs := [.cell 2 42, .cell 3 45]) (vs := [_, _]) (is := []) (js := []) rfl ⟨⟨2, _, _, _, _, rfl, rfl, .inr ⟨[_, _, _, _, _, _, _, _, _, _, _, _, _, _, _, _, _, _, _, _, _, _, _, _, _, _, _, _], rfl, ag_42, sz_42, ⟨rfl, rfl, rfl, rfl, rfl, rfl, rfl, rfl, rfl, rfl, rfl, rfl, rfl, rfl, rfl, rfl, rfl, rfl, rfl, rfl, rfl, rfl, rfl, rfl, rfl, rfl, rfl, rfl, trivial⟩⟩⟩, ⟨1, _, _, _, _, rfl, rfl, .inl ⟨ag_45, rfl⟩⟩, trivial⟩ rfl rfl ?_ h
  clear h
  rw [rawE, if_pos (by assumption)]
  exact ⟨rfl, rfl, rfl⟩
 intro h4; try simp only [tst_] at h4
 exfalso; obtain ⟨f1, f2, f3, f4, _⟩ := hr13 (by omega); exact hbad ⟨by omega, by omega, by omega, by omega⟩
theorem rdec_no (A : Option Addr) (b : List UInt8) (cp : Nat) (hb : b.length ≤ 100000000) (hcp : b.length ≤ cp) (hcp' : cp ≤ 9223372036854775807) (hbad : ¬ good b) : Ct Tryz.prog 19 [.slice A b.length cp] [] [Pers.row Kd.u8 A b] (fun u G Q => u = .tuple #[msgZ, .int .i64 (rawE b)] ∧ G = [] ∧ Q = []) := by
 refine Ct.intro Tryz.func19 rfl rfl rfl (fun c hc => ?_)
 refine GC.sr_ ?_;refine GL.step rfl (t_alloc rfl ze_42) (GL.ex fun b_t2 => ?_);refine GL.rz 1 ?_;refine GC.rr 1 ?_;refine GL.cl Tryz.call51 [] [0] rfl rfl rfl (by exact r3read_ct _ b _ (by omega) hcp hcp') ?_
 rintro _ _ _ ⟨k11, s11, A11, bd11, cp11, n11, l11, c11, hr11, rfl, rfl, rfl⟩
 refine GL.rn 4 ?_;refine GL.step rfl (t_alloc rfl ze_55) (GL.ex fun b_t4 => ?_);refine GL.sn_ 0 ?_;refine GL.rz 2 ?_;refine GC.seq' ?_;refine GC.rg 2 ?_;refine GC.co ?_ ?_
 ·intro h1; try simp only [tst_] at h1
  refine GC.sr_ ?_;refine GL.pure rfl (p_build ze_42 of_42 rfl rfl) ?_;refine GL.rn 1 ?_;refine GL.sn_ 1 ?_;refine GL.rz 1 ?_;refine GC.ret (Fin.c1 2 42 3 1 28 [] [] ?_)
  rw [rawE, if_neg (by assumption)]
  exact ⟨rfl, rfl, rfl⟩
 intro h1; try simp only [tst_] at h1
 refine GC.skip (?_ : GC _ _ _ _)
 refine GC.seq' ?_;refine GC.rr 5 ?_;refine GL.sp 23 ?_ ?_
 ·intro h2; try simp only [tst_] at h2
  refine GL.rz 9 ?_;refine GC.cond_true rfl ?_;refine GC.sr_ ?_;refine GL.pure rfl (p_build ze_42 of_42 rfl rfl) ?_;refine GL.sn_ 1 ?_;refine GL.rz 1 ?_;refine GC.ret (Fin.c1 2 42 3 1 28 [] [] ?_)
  rw [rawE, if_pos (by assumption)]
  exact ⟨rfl, rfl, rfl⟩
 intro h2; try simp only [tst_] at h2
 refine GL.rn 1 ?_;refine GL.dg_ 0 ?_;refine GL.rn 3 ?_;refine GL.sp 28 ?_ ?_
 ·intro h3; try simp only [tst_] at h3
  refine GL.rz 4 ?_;refine GC.cond_true rfl ?_;refine GC.sr_ ?_;refine GL.pure rfl (p_build ze_42 of_42 rfl rfl) ?_;refine GL.sn_ 1 ?_;refine GL.rz 1 ?_;refine GC.ret (Fin.c1 2 42 3 1 28 [] [] ?_)
  rw [rawE, if_pos (by assumption)]
  exact ⟨rfl, rfl, rfl⟩
 intro h3; try simp only [tst_] at h3
 refine GL.rn 1 ?_;refine GL.dg_ 0 ?_;refine GL.rz 2 ?_;refine GC.co ?_ ?_
 ·intro h4; try simp only [tst_] at h4
  refine GC.sr_ ?_;refine GL.pure rfl (p_build ze_42 of_42 rfl rfl) ?_;refine GL.sn_ 1 ?_;refine GL.rz 1 ?_;refine GC.ret (Fin.c1 2 42 3 1 28 [] [] ?_)
  rw [rawE, if_pos (by assumption)]
  exact ⟨rfl, rfl, rfl⟩
 intro h4; try simp only [tst_] at h4
 exfalso; obtain ⟨f1, f2, f3, f4, _⟩ := hr11 (by omega); exact hbad ⟨by omega, by omega, by omega, by omega⟩
theorem rms_nil : Ct Tryz.prog 15 [msgV zms lie0, msgV zms lie0] [] [] (fun u G Q => u = .bool true ∧ G = [] ∧ Q = []) := by
  have h := Ct.qperm (rmsame_ct zms zms lie0 lie0 zms_len) (Q' := []) (fun q hq => by
    refine .inr fun w S => ?_
    rcases List.mem_append.1 hq with h | h
    all_goals
      simp only [List.mem_cons, List.not_mem_nil, or_false] at h
      rcases h with rfl | rfl | rfl | rfl | rfl | rfl | rfl | rfl <;> exact .inl rfl)
  simpa using h
theorem wireReads_ct (A : Option Addr) (b : List UInt8) (cp : Nat) (hcp : b.length ≤ cp) (hcp' : cp ≤ 9223372036854775807) : Ct Tryz.prog 5 [.slice A b.length cp] [] [Pers.row Kd.u8 A b] (fun u G Q => u = .bool true ∧ G = [] ∧ Q = []) := by
 refine Ct.intro Tryz.func5 rfl rfl rfl (fun c hc => ?_)
 refine GC.rg 1 ?_;refine GC.joinK3 (ks := [2]) (is := []) (js := [0]) (fun (F : List UInt8) (A1 : Option Addr) (c1 : Nat) => F.length ≤ 65536 ∧ F.length ≤ c1 ∧ c1 ≤ 9223372036854775807) (fun (F : List UInt8) (A1 : Option Addr) (c1 : Nat) => [(0, .slice A1 F.length c1)]) (fun (F : List UInt8) (A1 : Option Addr) (c1 : Nat) => []) (fun (F : List UInt8) (A1 : Option Addr) (c1 : Nat) => [Pers.row Kd.u8 A1 F]) rfl rfl rfl ?_ ?_
 ·refine GC.rg 3 ?_;refine GC.co ?_ ?_
  ·intro h1; try simp only [tst_] at h1
   first
   | (exfalso; first | exact h1 rfl | exact h1 trivial | omega | (simp at h1; done))
   |(skip
     refine GC.region ?_;refine GL.rn 1 ?_;refine GL.step rfl (t_cut_h (j := 0) rfl rfl rfl rfl Tryz.underlying25 sz_5 (by omega) (by omega) (by omega)) ?_;refine GL.rn 1 ?_;refine GL.nil ?_
     exact fun a w h => ⟨(seg b 0 65536), (_), (_), ⟨by rw [seg_length (by omega)]; omega, by rw [seg_length (by omega)]; omega, by omega⟩, h.cut (is := []) (js := [0, 1]) ⟨rfl, rfl, trivial⟩ rfl rfl⟩)
  intro h1; try simp only [tst_] at h1
  first
  | (exfalso; first | exact h1 rfl | exact h1 trivial | omega | (simp at h1; done))
  |(skip
    refine GC.skip ?_
    exact fun a w h => ⟨(b), (_), (_), ⟨by omega, hcp, hcp'⟩, h.cut (is := []) (js := [0, 0]) ⟨rfl, rfl, trivial⟩ rfl rfl⟩)
 intro F A1 c1 hB
 try dsimp only [List.cons_append, List.nil_append] at hB ⊢
 obtain ⟨hB, hB1, hB2⟩ := hB
 refine GC.seq' ?_
 by_cases hg : good F
 ·skip
  refine GC.region ?_
  obtain ⟨B, hBl, hF⟩ := good_frame hg
  have hfl : F.length = B.length + 20 := by rw [hF, frameB_len]
  have hlog : ∀ m M, wmsgF B = some (m, M) → m.log.length < 100000 := fun m M h => by have := (wmsgF_all h).log; omega
  refine GL.rn 1 ?_;refine GL.cl Tryz.call18 [] [0] rfl rfl rfl (by exact wdec_ct _ B F _ hF hBl hlog hB1 hB2) ?_
  rintro _ _ _ ⟨m14, s14, k14, hd14, rfl, rfl, rfl⟩
  refine GL.rn 3 ?_;refine GL.step rfl (t_alloc rfl ze_42) (GL.ex fun b_t3 => ?_);refine GL.sn_ 0 ?_;refine GL.rn 1 ?_
  refine GL.nil (?_ : GC _ _ _ _)
  refine GC.rr 1 ?_;refine GL.cl Tryz.call19 [] [8] rfl rfl rfl (by exact rdec_ct _ B F _ hF hBl hlog hB1 hB2) ?_
  rintro _ _ _ ⟨m19, s19, k19, hd19, rfl, rfl, rfl⟩
  obtain ⟨rfl, rfl⟩ := decM_two hd14 hd19
  refine GL.rn 3 ?_;refine GL.step rfl (t_alloc rfl ze_42) (GL.ex fun b_t5 => ?_);refine GL.sn_ 0 ?_;refine GL.rz 1 ?_;refine GC.sr_ ?_;refine GL.ln_ 1 28 ?_;refine GL.ln_ 0 28 ?_;refine GL.cl Tryz.call15 [] [8, 9, 10, 11, 12, 13, 14, 15, 0, 1, 2, 3, 4, 5, 6, 7] rfl rfl rfl (by exact rmsame_ct m14 m14 s14 s19 (decM_len hd14)) ?_
  rintro _ _ _ ⟨rfl, rfl, rfl⟩
  refine GL.rn 1 ?_;refine GL.sp 25 ?_ ?_
  ·intro h2; try simp only [tst_] at h2
   first
   | (exfalso; first | exact h2 rfl | exact h2 trivial | omega | (simp at h2; done))
   |(skip
     refine GL.rn 5 ?_;refine GL.sp 30 ?_ ?_
     ·intro h3; try simp only [tst_] at h3
      first
      | (exfalso; first | exact h3 rfl | exact h3 trivial | omega | (simp at h3; done))
      |(skip
        refine GL.stepG rfl (s := 30) rfl rfl (t_call rfl Tryz.call11 rfl (is := []) (js := []) rfl rfl (by exact awk_ct)) (GL.ret ?_)
        rintro _ _ _ ⟨rfl, rfl, rfl⟩
        refine GL.rz 2 ?_;refine GC.ret (Fin.b1 2 [] [] ?_)
        exact ⟨by first | rfl | exact congrArg Value.bool (by simp), rfl, rfl⟩)
     intro h3; try simp only [tst_] at h3
     first
     | (exfalso; first | exact h3 rfl | exact h3 trivial | omega | (simp at h3; done))
     |(skip
       refine GL.rz 3 ?_;refine GC.ret (Fin.b1 2 [] [] ?_)
       exact ⟨by first | rfl | exact congrArg Value.bool (by simp), rfl, rfl⟩))
  intro h2; try simp only [tst_] at h2
  first
  | (exfalso; first | exact h2 rfl | exact h2 trivial | omega | (simp at h2; done))
  |(skip
    refine GL.rz 8 ?_;refine GC.ret (Fin.b1 2 [] [] ?_)
    exact ⟨by first | rfl | exact congrArg Value.bool (by simp), rfl, rfl⟩)
 skip
 refine GC.region ?_;refine GL.rn 1 ?_;refine GL.cl Tryz.call18 [] [0] rfl rfl rfl (by exact wdec_no _ F _ (by omega) hB1 hB2 hg) ?_
 rintro _ _ _ ⟨rfl, rfl, rfl⟩
 refine GL.rn 3 ?_;refine GL.step rfl (t_alloc rfl ze_42) (GL.ex fun b_t3 => ?_);refine GL.sn_ 0 ?_;refine GL.rn 1 ?_
 refine GL.nil (?_ : GC _ _ _ _)
 refine GC.rr 1 ?_;refine GL.cl Tryz.call19 [] [0] rfl rfl rfl (by exact rdec_no _ F _ (by omega) hB1 hB2 hg) ?_
 rintro _ _ _ ⟨rfl, rfl, rfl⟩
 skip
 refine GL.rn 3 ?_;refine GL.step rfl (t_alloc rfl ze_42) (GL.ex fun b_t5 => ?_);refine GL.sn_ 0 ?_;refine GL.rz 1 ?_;refine GC.sr_ ?_;refine GL.ln_ 1 28 ?_;refine GL.ln_ 0 28 ?_;refine GL.cl Tryz.call15 [] [] rfl rfl rfl (by exact rms_nil) ?_
 rintro _ _ _ ⟨rfl, rfl, rfl⟩
 refine GL.rn 6 ?_;refine GL.sp 30 ?_ ?_
 ·intro h4; try simp only [tst_] at h4
  first
  | (exfalso; first | exact h4 rfl | exact h4 trivial | omega | (simp at h4; done))
  |(skip
    refine GL.stepG rfl (s := 30) rfl rfl (t_call rfl Tryz.call11 rfl (is := []) (js := []) rfl rfl (by exact awk_ct)) (GL.ret ?_)
    rintro _ _ _ ⟨rfl, rfl, rfl⟩
    refine GL.rz 2 ?_;refine GC.ret (Fin.b1 2 [] [] ?_)
    exact ⟨by first | rfl | exact congrArg Value.bool (by simp), rfl, rfl⟩)
 intro h4; try simp only [tst_] at h4
 first
 | (exfalso; first | exact h4 rfl | exact h4 trivial | omega | (simp at h4; done))
 |(skip
   refine GL.rz 3 ?_;refine GC.ret (Fin.b1 2 [] [] ?_)
   exact ⟨by first | rfl | exact congrArg Value.bool (by simp), rfl, rfl⟩)
end Go.Proofs.YtdhdmbmknpjhbaaGreat
