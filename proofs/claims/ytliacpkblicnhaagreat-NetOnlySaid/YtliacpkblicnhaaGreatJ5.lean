/- Texts of this claim, in one: what the law leans on (part 5). -/
import Derived.Test.YtliacpkblicnhaaGreatJ4
set_option linter.unusedVariables false
set_option linter.unusedSimpArgs false
set_option maxRecDepth 100000
namespace Go.Proofs.YtliacpkblicnhaaGreat
open Go Go.Sx Go.Proofs
theorem wprt_ct (p e_ q_ f_ : Nat) (y0 y1 y2 y3 y4 y5 y6 y7 y8 y9 y10 : Value) (A : Option Addr) (b : List UInt8) (cp : Nat) (hcp : b.length ≤ cp) (hcp' : cp ≤ 9223372036854775807) (hb : b.length ≤ 10000000000000) : CtP Tryz.prog 76 [.pointer (some ⟨p,0,none⟩),.pointer (some ⟨q_,0,none⟩)] (leftG p e_ A b cp ++ [.cells q_ [y0,y1,y2,y3,y4,y5,y6,y7,y8,y9,y10,.int .u8 0,.int .i64 0,.int .i64 0,.slice none 0 0,.slice none 0 0,.int .u8 0,.slice none 0 0,.int .i64 0,.slice none 0 0,.int .i64 0,.int .i64 0,.int .i64 0,.slice none 0 0,.slice none 0 0,.int .i64 0,.slice none 0 0,.slice none 0 0] f_]) [Pers.row Kd.u8 A b]
    (fun u G Q => ∃ (o : OpD) (r : Res) (g : Grp) (s : Stt) (L' : List UInt8) (x : Lie),wprtF b = some ((o,r,g,s),L') ∧ L'.length ≤ b.length ∧ L'.length ≤ x.c8 ∧ x.c8 ≤ 9223372036854775807 ∧ u = .tuple #[] ∧ G = leftG p e_ x.a8 L' x.c8 ++ [.cells q_ ([y0,y1,y2,y3,y4,y5,y6,y7,y8,y9,y10] ++ msgT o r g s x) f_] ∧ Q = msgU o r g s x ++ [Pers.row Kd.u8 x.a8 L']) (fun v => v = wFt ∧ wprtF b = none) := by
 have hp1 : (256 : Nat) ^ 1 = 256 := p256_1
 refine CtP.intro Tryz.func76 rfl rfl rfl (fun c hc => ?_)
 refine GC.rr 3 ?_;refine GL.callP rfl Tryz.call74 rfl (is := [0]) (js := [0]) rfl rfl (by exact (wnum_ct _ _ _ b _ 1 (by omega) (by omega) hcp hcp' hb).mono (fun _ _ _ h => h) (fun _ h => ⟨h.1,by rw [wprtF,h.2]; rfl⟩)) (fun v a w he h => FinP.panic he h) (GL.ret ?_)
 rintro _ _ _ ⟨v17,L17,A17,c17,hs17,l17,k17,rfl,rfl,rfl⟩
 obtain ⟨hv17,hw17,hx17⟩ := wnumF_rng hs17
 refine GL.pure rfl (p_convR (t := 45) (r := v17) (by rw [Tryz.underlying45]; simp) Tryz.underlying5 rfl (by simp [IntKind.wrap,IntKind.bits,IntKind.signed]; omega)) ?_;refine GL.know (q := Pers.row Kd.u8 none []) (fun _ _ _ => .inl rfl) ?_
 refine GL.know (q := Pers.row kI none []) (fun _ _ _ => .inl rfl) ?_;refine GL.know (q := Pers.row kPage none []) (fun _ _ _ => .inl rfl) ?_;refine GL.know (q := Pers.row kRow none []) (fun _ _ _ => .inl rfl) ?_;refine GL.rz 1 ?_
 refine GC.joinK3 (ks := [0,1,4]) (is := []) (js := [0,1,2,3,5]) (fun (o : OpD) (L1 : List UInt8) (x : Lie) => wpO v17 L17 = some (o,L1) ∧ L1.length ≤ b.length ∧ L1.length ≤ x.c8 ∧ x.c8 ≤ 9223372036854775807) (fun (o : OpD) (L1 : List UInt8) (x : Lie) => []) (fun (o : OpD) (L1 : List UInt8) (x : Lie) => [.cells p [.slice x.a8 L1.length x.c8] e_,.cells q_ [y0,y1,y2,y3,y4,y5,y6,y7,y8,y9,y10,.int .u8 o.kind,.int .i64 o.at_,.int .i64 o.n,.slice x.a1 o.data.length x.c1,.slice x.a2 o.old.length x.c2,.int .u8 0,.slice none 0 0,.int .i64 0,.slice none 0 0,.int .i64 0,.int .i64 0,.int .i64 0,.slice none 0 0,.slice none 0 0,.int .i64 0,.slice none 0 0,.slice none 0 0] f_]) (fun (o : OpD) (L1 : List UInt8) (x : Lie) => [Pers.row Kd.u8 x.a1 o.data,Pers.row Kd.u8 x.a2 o.old,Pers.row Kd.u8 x.a8 L1]) rfl rfl rfl ?_ ?_
 ·refine GC.rr 1 ?_;refine GL.pure rfl (p_andR (r := bitN v17 1) rfl rfl rfl) ?_;refine GL.rz 1 ?_;refine GC.co ?_ ?_
  ·intro h1; try simp only [tst_] at h1
   refine GC.rr 4 ?_;refine GL.ld_ 0 ?_;refine GL.cl Tryz.call109 [] [4] rfl rfl rfl (by exact decop_ct _ L17 _ l17 k17 (by omega)) ?_
   rintro _ _ _ ⟨o28,n28,e28,A28,c28,B28,d28,hs28,hn28,l28,k28,m28,p28,rfl,rfl,rfl⟩
   refine GL.rn 4 ?_;refine GL.step rfl (t_alloc rfl ze_49) (GL.ex fun b_t5 => ?_);refine GL.sn_ 0 ?_;refine GL.rz 2 ?_;refine GC.rr 5 ?_;refine GL.callP rfl Tryz.call78 rfl (is := [1]) (js := [6]) rfl rfl (by exact (wtake_ct _ _ _ L17 _ n28 e28 (fun _ => hn28.1) l17 k17).mono (fun _ _ _ h => h) (fun _ h => ⟨h.2,by simp only [wprtF,hs17,Option.bind_some]; rw [wpO,if_neg (by assumption),hn28.2 h.1]; rfl⟩)) (fun v a w he h => FinP.panic he h) (GL.ret ?_)
   rintro _ _ _ ⟨he37,A37,c37,l37,k37,rfl,rfl,rfl⟩
   refine GL.nl_ ?_;refine GC.region ?_;refine GL.rn 1 ?_;refine GL.ln_ 1 5 ?_;refine GL.rn 2 ?_;refine GL.sn_ 2 ?_;refine GL.nil ?_
   exact fun a w h => ⟨(o28),(L17.drop n28),(⟨A28,c28,B28,d28,none,0,none,0,none,0,none,0,none,0,A37,c37⟩),⟨by rw [wpO,if_neg (by assumption),hs28 he37]; rfl,by have := @drop_len L17 n28; omega,l37,k37⟩,h.ct [0,1] [1,2,0,3,4,5,6,8]⟩
  intro h1; try simp only [tst_] at h1
  refine GC.skip ?_
  exact fun a w h => ⟨(zop),(L17),(⟨none,0,none,0,none,0,none,0,none,0,none,0,none,0,A17,c17⟩),⟨by rw [wpO,if_pos (by assumption)],by omega,l17,k17⟩,h.ct [0,0] [3,3,4,0,1,2,3,5]⟩
 intro o L1 x hO
 try dsimp only [List.cons_append,List.nil_append] at hO ⊢
 obtain ⟨hO,hO1,hO2,hO3⟩ := hO
 refine GC.joinK3 (ks := [0,1,4]) (is := []) (js := [0,1,3,4,5,6,7]) (fun (r : Res) (L2 : List UInt8) (y : Lie) => wpR v17 L1 = some (r,L2) ∧ L2.length ≤ b.length ∧ L2.length ≤ y.c8 ∧ y.c8 ≤ 9223372036854775807) (fun (r : Res) (L2 : List UInt8) (y : Lie) => []) (fun (r : Res) (L2 : List UInt8) (y : Lie) => [.cells p [.slice y.a8 L2.length y.c8] e_,.cells q_ [y0,y1,y2,y3,y4,y5,y6,y7,y8,y9,y10,.int .u8 o.kind,.int .i64 o.at_,.int .i64 o.n,.slice x.a1 o.data.length x.c1,.slice x.a2 o.old.length x.c2,.int .u8 r.code,.slice y.a3 r.data.length y.c3,.int .i64 0,.slice none 0 0,.int .i64 0,.int .i64 0,.int .i64 0,.slice none 0 0,.slice none 0 0,.int .i64 0,.slice none 0 0,.slice none 0 0] f_]) (fun (r : Res) (L2 : List UInt8) (y : Lie) => [Pers.row Kd.u8 y.a3 r.data,Pers.row Kd.u8 y.a8 L2]) rfl rfl rfl ?_ ?_
 ·refine GC.rr 1 ?_;refine GL.pure rfl (p_andR (r := bitN v17 2) rfl rfl rfl) ?_;refine GL.rz 1 ?_;refine GC.co ?_ ?_
  ·intro h2; try simp only [tst_] at h2
   refine GC.rr 4 ?_;refine GL.ld_ 0 ?_;refine GL.cl Tryz.call110 [] [2] rfl rfl rfl (by exact decres_ct _ L1 _ hO2 hO3 (by omega)) ?_
   rintro _ _ _ ⟨o51,n51,e51,A51,c51,hs51,hn51,l51,k51,rfl,rfl,rfl⟩
   refine GL.rn 4 ?_;refine GL.step rfl (t_alloc rfl ze_52) (GL.ex fun b_t8 => ?_);refine GL.sn_ 0 ?_;refine GL.rz 2 ?_;refine GC.rr 5 ?_;refine GL.callP rfl Tryz.call78 rfl (is := [1]) (js := [3]) rfl rfl (by exact (wtake_ct _ _ _ L1 _ n51 e51 (fun _ => hn51.1) hO2 hO3).mono (fun _ _ _ h => h) (fun _ h => ⟨h.2,by simp only [wprtF,hs17,hO,Option.bind_some]; rw [wpR,if_neg (by assumption),hn51.2 h.1]; rfl⟩)) (fun v a w he h => FinP.panic he h) (GL.ret ?_)
   rintro _ _ _ ⟨he60,A60,c60,l60,k60,rfl,rfl,rfl⟩
   refine GL.nl_ ?_;refine GC.region ?_;refine GL.rn 1 ?_;refine GL.ln_ 1 2 ?_;refine GL.rn 2 ?_;refine GL.sn_ 2 ?_;refine GL.nil ?_
   exact fun a w h => ⟨(o51),(L1.drop n51),(⟨none,0,none,0,A51,c51,none,0,none,0,none,0,none,0,A60,c60⟩),⟨by rw [wpR,if_neg (by assumption),hs51 he60]; rfl,by have := @drop_len L1 n51; omega,l60,k60⟩,h.ct [0,1] [1,0,2,3,5,6,7,8,9]⟩
  intro h2; try simp only [tst_] at h2
  refine GC.skip ?_
  exact fun a w h => ⟨(rz),(L1),(⟨none,0,none,0,none,0,none,0,none,0,none,0,none,0,x.a8,x.c8⟩),⟨by rw [wpR,if_pos (by assumption)],by omega,hO2,hO3⟩,h.ct [0,0] [6,2,0,1,3,4,5,6,7]⟩
 intro r L2 y hR
 try dsimp only [List.cons_append,List.nil_append] at hR ⊢
 obtain ⟨hR,hR1,hR2,hR3⟩ := hR
 refine GC.joinK3 (ks := [0,1,4]) (is := []) (js := [0,2,3,4,5,6,7,8]) (fun (g : Grp) (L3 : List UInt8) (z : Lie) => wpG v17 L2 = some (g,L3) ∧ L3.length ≤ b.length ∧ L3.length ≤ z.c8 ∧ z.c8 ≤ 9223372036854775807) (fun (g : Grp) (L3 : List UInt8) (z : Lie) => []) (fun (g : Grp) (L3 : List UInt8) (z : Lie) => [.cells p [.slice z.a8 L3.length z.c8] e_,.cells q_ [y0,y1,y2,y3,y4,y5,y6,y7,y8,y9,y10,.int .u8 o.kind,.int .i64 o.at_,.int .i64 o.n,.slice x.a1 o.data.length x.c1,.slice x.a2 o.old.length x.c2,.int .u8 r.code,.slice y.a3 r.data.length y.c3,.int .i64 g.epoch,.slice z.a4 g.members.length z.c4,.int .i64 0,.int .i64 0,.int .i64 0,.slice none 0 0,.slice none 0 0,.int .i64 0,.slice none 0 0,.slice none 0 0] f_]) (fun (g : Grp) (L3 : List UInt8) (z : Lie) => [Pers.row kI z.a4 g.members,Pers.row Kd.u8 z.a8 L3]) rfl rfl rfl ?_ ?_
 ·refine GC.rr 1 ?_;refine GL.pure rfl (p_andR (r := bitN v17 4) rfl rfl rfl) ?_;refine GL.rz 1 ?_;refine GC.co ?_ ?_
  ·intro h3; try simp only [tst_] at h3
   refine GC.region ?_;refine GL.rn 2 ?_;refine GL.callP rfl Tryz.call111 rfl (is := [0]) (js := [1]) rfl rfl (by exact (wgrp_ct _ _ _ L2 _ hR2 hR3 (by omega)).mono (fun _ _ _ h => h) (fun _ h => ⟨h.1,by simp only [wprtF,hs17,hO,hR,Option.bind_some]; rw [wpG,if_neg (by assumption),h.2]; rfl⟩)) (fun v a w he h => FinP.panic he h) (GL.ret ?_)
   rintro _ _ _ ⟨g70,L70,A70,c70,B70,d70,hs70,ht70,l70,k70,m70,n70,rfl,rfl,rfl⟩
   refine GL.rn 2 ?_;refine GL.sn_ 1 ?_;refine GL.nil ?_
   exact fun a w h => ⟨(g70),(L70),(⟨none,0,none,0,none,0,B70,d70,none,0,none,0,none,0,A70,c70⟩),⟨by rw [wpG,if_neg (by assumption),hs70],by omega,l70,k70⟩,h.ct [0,0] [0,1,2,4,5,6,7,8,9,10]⟩
  intro h3; try simp only [tst_] at h3
  refine GC.skip ?_
  exact fun a w h => ⟨(zgr),(L2),(⟨none,0,none,0,none,0,none,0,none,0,none,0,none,0,y.a8,y.c8⟩),⟨by rw [wpG,if_pos (by assumption)],by omega,hR2,hR3⟩,h.ct [0,0] [6,1,0,2,3,4,5,6,7,8]⟩
 intro g L3 z hG
 try dsimp only [List.cons_append,List.nil_append] at hG ⊢
 obtain ⟨hG,hG1,hG2,hG3⟩ := hG
 refine GC.rr 1 ?_;refine GL.pure rfl (p_andR (r := bitN v17 8) rfl rfl rfl) ?_;refine GL.rz 1 ?_;refine GC.co ?_ ?_
 ·intro h4; try simp only [tst_] at h4
  refine GC.rr 4 ?_;refine GL.ld_ 0 ?_;refine GL.cl Tryz.call112 [] [1] rfl rfl rfl (by exact decstt_ct _ L3 _ hG2 hG3 (by omega)) ?_
  rintro _ _ _ ⟨g82,t82,f82,A82,cp82,B82,cq82,C82,cr82,hs82,ht82,hl82,j82,k82,l82,m82,n82,o82,rfl,rfl,rfl⟩
  refine GL.rn 4 ?_;refine GL.step rfl (t_alloc rfl ze_61) (GL.ex fun b_t11 => ?_);refine GL.sn_ 0 ?_;refine GL.rz 2 ?_;refine GC.rr 5 ?_;refine GL.callP rfl Tryz.call78 rfl (is := [1]) (js := [4]) rfl rfl (by exact (wtake_ct _ _ _ L3 _ t82 f82 (fun _ => ht82) hG2 hG3).mono (fun _ _ _ h => h) (fun _ h => ⟨h.2,by simp only [wprtF,hs17,hO,hR,hG,Option.bind_some]; rw [wpS,if_neg (by assumption),hs82.2 h.1]; rfl⟩)) (fun v a w he h => FinP.panic he h) (GL.ret ?_)
  rintro _ _ _ ⟨he91,A91,c91,l91,k91,rfl,rfl,rfl⟩
  refine GL.nl_ ?_;refine GC.region ?_;refine GL.rn 1 ?_;refine GL.ln_ 1 7 ?_;refine GL.rn 2 ?_;refine GL.sn_ 2 ?_;refine GL.nil ?_
  refine fun a w h => FinP.back0 rfl (is := [0,1]) (js := [7,8,6,4,1,2,3,0]) rfl rfl ?_ h
  clear h
  exact ⟨o,r,g,g82,_,⟨x.a1,x.c1,x.a2,x.c2,y.a3,y.c3,z.a4,z.c4,A82,cp82,B82,cq82,C82,cr82,A91,c91⟩,by simp only [wprtF,hs17,hO,hR,hG,Option.bind_some]; rw [wpS,if_neg (by assumption),hs82.1 he91]; rfl,by have := @drop_len L3 t82; omega,l91,k91,rfl,rfl,rfl⟩
 intro h4; try simp only [tst_] at h4
 refine GC.skip ?_
 refine fun a w h => FinP.back0 rfl (is := [0,0]) (js := [3,4,2,0,6,5,7,1]) rfl rfl ?_ h
 clear h
 exact ⟨o,r,g,zst,L3,⟨x.a1,x.c1,x.a2,x.c2,y.a3,y.c3,z.a4,z.c4,none,0,none,0,none,0,z.a8,z.c8⟩,by simp only [wprtF,hs17,hO,hR,hG,Option.bind_some]; rw [wpS,if_pos (by assumption)]; rfl,by omega,hG2,hG3,rfl,rfl,rfl⟩
def went (L : List UInt8) : Option (Entry × List UInt8) := (mentF L 0).map fun e => (e.1,L.drop e.2)
def wmsgF (b : List UInt8) : Option (Msg × List UInt8) :=
  (wnumF 1 b).bind fun k => (wnumF 8 k.2).bind fun s => (wnumF 8 s.2).bind fun d => (wsmF d.2).bind fun a1 => (wsmF a1.2).bind fun a2 => (wsmF a2.2).bind fun a3 => (wsmF a3.2).bind fun a4 => (wsmF a4.2).bind fun a5 => (wnumF 8 a5.2).bind fun nn => (wsmF nn.2).bind fun cl => (wsmF cl.2).bind fun sr => (wprtF sr.2).bind fun x => (wnumF 4 x.2).bind fun n => (manyF went n.2 n.1.toNat).map fun r =>
    (⟨k.1,IntKind.i64.wrap s.1,IntKind.i64.wrap d.1,a1.1,a2.1,a3.1,a4.1,a5.1,nn.1,cl.1,sr.1,x.1.1,x.1.2.1,x.1.2.2.1,x.1.2.2.2,r.1⟩,r.2)
theorem zq59_ {X : Prop} (h : X := by (exact GX.done (by kernel_rfl) (fun a w h => ⟨_,_,_,_,_,_,_,_,_,⟨hs10,hs15,hs20,l20,k20⟩,h.cut (is := [0,0,0]) (js := [0]) ⟨rfl,rfl,rfl,trivial⟩ rfl rfl⟩))) : X := h
theorem wmsg_ct (p e_ : Nat) (A : Option Addr) (b : List UInt8) (cp : Nat) (hcp : b.length ≤ cp) (hcp' : cp ≤ 9223372036854775807) (hb : b.length ≤ 10000000000000) : CtP Tryz.prog 49 [.pointer (some ⟨p,0,none⟩)] (leftG p e_ A b cp) [Pers.row Kd.u8 A b]
    (fun u G Q => ∃ (m : Msg) (s : Lie) (L' : List UInt8) (A' : Option Addr) (c' : Nat),wmsgF b = some (m,L') ∧ L'.length ≤ c' ∧ c' ≤ 9223372036854775807 ∧ u = msgV m s ∧ G = leftG p e_ A' L' c' ∧ Q = msgQ m s ++ [Pers.row Kd.u8 A' L']) (fun v => v = wFt ∧ wmsgF b = none) := by
 have hp1 : (256 : Nat) ^ 1 = 256 := p256_1
 have hp4 : (256 : Nat) ^ 4 = 4294967296 := p256_4
 refine CtP.intro Tryz.func49 rfl rfl rfl (fun c hc => ?_)
 refine GC.sr_ ?_;refine GL.step rfl (t_alloc rfl ze_64) (GL.ex fun b_t2 => ?_);refine GL.nl_ ?_;refine GC.seq' ?_;refine GC.regionXM (m := 18) (M := fun a w => ∃ v10 : Int,∃ L10 : List UInt8,∃ v15 : Int,∃ L15 : List UInt8,∃ v20 : Int,∃ L20 : List UInt8,∃ A20 : Option Addr,∃ c20 : Nat,∃ b_t3 : Nat,(wnumF 1 b = some (v10,L10) ∧ wnumF 8 L10 = some (v15,L15) ∧ wnumF 8 L15 = some (v20,L20) ∧ L20.length ≤ c20 ∧ c20 ≤ 9223372036854775807) ∧ St c 95 [(0,.pointer (some ⟨p,0,none⟩)),(2,.pointer (some ⟨b_t2,0,none⟩)),(3,.pointer (some ⟨b_t3,0,none⟩))] [.cells p [.slice A20 L20.length c20] e_,.cells b_t3 [.int .u8 v10,.int .i64 (IntKind.i64.wrap v15),.int .i64 (IntKind.i64.wrap v20),.int .i64 0,.int .i64 0,.int .i64 0,.int .i64 0,.int .i64 0,.int .u64 0,.int .i64 0,.int .i64 0,.int .u8 0,.int .i64 0,.int .i64 0,.slice none 0 0,.slice none 0 0,.int .u8 0,.slice none 0 0,.int .i64 0,.slice none 0 0,.int .i64 0,.int .i64 0,.int .i64 0,.slice none 0 0,.slice none 0 0,.int .i64 0,.slice none 0 0,.slice none 0 0] 64,.cells b_t2 [.int .u8 0,.int .i64 0,.int .i64 0,.int .i64 0,.int .i64 0,.int .i64 0,.int .i64 0,.int .i64 0,.int .u64 0,.int .i64 0,.int .i64 0,.int .u8 0,.int .i64 0,.int .i64 0,.slice none 0 0,.slice none 0 0,.int .u8 0,.slice none 0 0,.int .i64 0,.slice none 0 0,.int .i64 0,.int .i64 0,.int .i64 0,.slice none 0 0,.slice none 0 0,.int .i64 0,.slice none 0 0,.slice none 0 0] 64] [Pers.row Kd.u8 A20 L20] a w) (is := [0]) (js := [0]) wide_ rfl rfl rfl (fun _ _ _ hd hp hD => ⟨hd.trans hD,.inr hp⟩) ?_ ?_
 ·refine GX.tk 0 [0] [0] ?_
  refine GX.tk 1 [0] [0] ?_
  refine GX.tk 2 [0] [0] ?_
  refine GX.tk 5 [0] [0] ?_
  refine GX.tk 6 [0] [0] ?_
  refine GX.tk 7 [0] [0] ?_
  refine GX.tk 10 [0] [0] ?_
  refine GX.tk 11 [0] [0] ?_
  refine GX.tk 12 [0] [0] ?_
  refine GX.al [3,16] ?_
  refine GXs.consP (i := 3) rfl rfl Tryz.call74 rfl (is := [1]) (js := [0]) rfl rfl (by exact (wnum_ct _ _ _ b _ 1 (by omega) (by omega) hcp hcp' (by omega)).mono (fun _ _ _ h => h) (fun _ h => ⟨h.1,by simp only [wmsgF,h.2,Option.bind_none]⟩)) (by rintro a w ⟨_,_,_,⟨v10,L10,A10,c10,hs10,l10,k10,rfl,rfl,rfl⟩,h⟩; exact h.me [1] [1]) (GX.ret ?_) ?_
  ·rintro _ _ _ ⟨v10,L10,A10,c10,hs10,l10,k10,rfl,rfl,rfl⟩
   obtain ⟨hv10,hw10,hx10⟩ := wnumF_rng hs10
   refine GX.tp 4 rfl [1] [1] (i_pure (p_convR (t := 45) (r := v10) (by rw [Tryz.underlying45]; simp) Tryz.underlying44 rfl (by simp [IntKind.wrap,IntKind.bits,IntKind.signed]; omega))) ?_
   refine GX.al [8,16] ?_
   refine GXs.consP (i := 8) rfl rfl Tryz.call74 rfl (is := [0]) (js := [0]) rfl rfl (by exact (wnum_ct _ _ _ L10 _ 8 (by omega) (by omega) l10 k10 (by omega)).mono (fun _ _ _ h => h) (fun _ h => ⟨h.1,by simp only [wmsgF,hs10,Option.bind_some,h.2,Option.bind_none]⟩)) (by rintro a w ⟨_,_,_,⟨v15,L15,A15,c15,hs15,l15,k15,rfl,rfl,rfl⟩,h⟩; exact h.me [1] [2]) (GX.ret ?_) ?_
   ·rintro _ _ _ ⟨v15,L15,A15,c15,hs15,l15,k15,rfl,rfl,rfl⟩
    obtain ⟨hv15,hw15,hx15⟩ := wnumF_rng hs15
    refine GX.tp 9 rfl [1] [2] (i_pure (p_conv (t := 45) (by rw [Tryz.underlying45]; simp) Tryz.underlying2 rfl)) ?_
    refine GX.al [13,16] ?_
    refine GXs.consP (i := 13) rfl rfl Tryz.call74 rfl (is := [0]) (js := [0]) rfl rfl (by exact (wnum_ct _ _ _ L15 _ 8 (by omega) (by omega) l15 k15 (by omega)).mono (fun _ _ _ h => h) (fun _ h => ⟨h.1,by simp only [wmsgF,hs10,hs15,Option.bind_some,h.2,Option.bind_none]⟩)) (by rintro a w ⟨_,_,_,⟨v20,L20,A20,c20,hs20,l20,k20,rfl,rfl,rfl⟩,h⟩; exact h.me [1] [3]) (GX.ret ?_) ?_
    ·rintro _ _ _ ⟨v20,L20,A20,c20,hs20,l20,k20,rfl,rfl,rfl⟩
     obtain ⟨hv20,hw20,hx20⟩ := wnumF_rng hs20
     refine GX.tp 14 rfl [1] [3] (i_pure (p_conv (t := 45) (by rw [Tryz.underlying45]; simp) Tryz.underlying2 rfl)) ?_
     refine GX.tp 15 rfl [1] [3] (i_pure (p_build ze_64 of_64 rfl rfl)) ?_
     refine GX.al [16] ?_
     refine GXs.cons (i := 16) rfl rfl (t_alloc rfl ze_64) (by rintro a w ⟨_,h⟩; exact h.me [2] [3]) (GX.ex fun b_t3 => ?_) GXs.nil
     refine GX.al [17] ?_
     refine GXs.cons (i := 17) rfl rfl (t_storeN (i := 0) rfl rfl rfl sz_64 rfl rfl rfl) (by rintro a w h; exact h.me [2] [3]) ?_ GXs.nil
     exact GX.done (by kernel_rfl) (fun a w h => ⟨_,_,_,_,_,_,_,_,_,⟨hs10,hs15,hs20,l20,k20⟩,h.cut (is := [1,0,0]) (js := [0]) ⟨rfl,rfl,rfl,trivial⟩ rfl rfl⟩)
    refine GXs.cons (i := 16) rfl rfl (t_alloc rfl ze_64) (by rintro a w ⟨_,h⟩; exact h.me [2] [2]) (GX.ex fun b_t3 => ?_) GXs.nil
    refine GX.al [13] ?_
    refine GXs.consP (i := 13) rfl rfl Tryz.call74 rfl (is := [1]) (js := [0]) rfl rfl (by exact (wnum_ct _ _ _ L15 _ 8 (by omega) (by omega) l15 k15 (by omega)).mono (fun _ _ _ h => h) (fun _ h => ⟨h.1,by simp only [wmsgF,hs10,hs15,Option.bind_some,h.2,Option.bind_none]⟩)) (by rintro a w ⟨_,_,_,⟨v20,L20,A20,c20,hs20,l20,k20,rfl,rfl,rfl⟩,h⟩; exact h.me [2] [3]) (GX.ret ?_) GXs.nil
    rintro _ _ _ ⟨v20,L20,A20,c20,hs20,l20,k20,rfl,rfl,rfl⟩
    obtain ⟨hv20,hw20,hx20⟩ := wnumF_rng hs20
    refine GX.tp 14 rfl [2] [3] (i_pure (p_conv (t := 45) (by rw [Tryz.underlying45]; simp) Tryz.underlying2 rfl)) ?_
    refine GX.tp 15 rfl [2] [3] (i_pure (p_build ze_64 of_64 rfl rfl)) ?_
    refine GX.al [17] ?_
    refine GXs.cons (i := 17) rfl rfl (t_storeN (i := 1) rfl rfl rfl sz_64 rfl rfl rfl) (by rintro a w h; exact h.me [2] [3]) ?_ GXs.nil
    exact zq59_
   refine GXs.cons (i := 16) rfl rfl (t_alloc rfl ze_64) (by rintro a w ⟨_,h⟩; exact h.me [2] [1]) (GX.ex fun b_t3 => ?_) GXs.nil
   refine GX.al [8] ?_
   refine GXs.consP (i := 8) rfl rfl Tryz.call74 rfl (is := [1]) (js := [0]) rfl rfl (by exact (wnum_ct _ _ _ L10 _ 8 (by omega) (by omega) l10 k10 (by omega)).mono (fun _ _ _ h => h) (fun _ h => ⟨h.1,by simp only [wmsgF,hs10,Option.bind_some,h.2,Option.bind_none]⟩)) (by rintro a w ⟨_,_,_,⟨v15,L15,A15,c15,hs15,l15,k15,rfl,rfl,rfl⟩,h⟩; exact h.me [2] [2]) (GX.ret ?_) GXs.nil
   rintro _ _ _ ⟨v15,L15,A15,c15,hs15,l15,k15,rfl,rfl,rfl⟩
   obtain ⟨hv15,hw15,hx15⟩ := wnumF_rng hs15
   refine GX.tp 9 rfl [2] [2] (i_pure (p_conv (t := 45) (by rw [Tryz.underlying45]; simp) Tryz.underlying2 rfl)) ?_
   refine GX.al [13] ?_
   refine GXs.consP (i := 13) rfl rfl Tryz.call74 rfl (is := [0]) (js := [0]) rfl rfl (by exact (wnum_ct _ _ _ L15 _ 8 (by omega) (by omega) l15 k15 (by omega)).mono (fun _ _ _ h => h) (fun _ h => ⟨h.1,by simp only [wmsgF,hs10,hs15,Option.bind_some,h.2,Option.bind_none]⟩)) (by rintro a w ⟨_,_,_,⟨v20,L20,A20,c20,hs20,l20,k20,rfl,rfl,rfl⟩,h⟩; exact h.me [2] [3]) (GX.ret ?_) GXs.nil
   rintro _ _ _ ⟨v20,L20,A20,c20,hs20,l20,k20,rfl,rfl,rfl⟩
   obtain ⟨hv20,hw20,hx20⟩ := wnumF_rng hs20
   refine GX.tp 14 rfl [2] [3] (i_pure (p_conv (t := 45) (by rw [Tryz.underlying45]; simp) Tryz.underlying2 rfl)) ?_
   refine GX.tp 15 rfl [2] [3] (i_pure (p_build ze_64 of_64 rfl rfl)) ?_
   refine GX.al [17] ?_
   refine GXs.cons (i := 17) rfl rfl (t_storeN (i := 1) rfl rfl rfl sz_64 rfl rfl rfl) (by rintro a w h; exact h.me [2] [3]) ?_ GXs.nil
   exact zq59_
  refine GXs.cons (i := 16) rfl rfl (t_alloc rfl ze_64) (by rintro a w ⟨_,h⟩; exact h.me [1] [0]) (GX.ex fun b_t3 => ?_) GXs.nil
  refine GX.al [3] ?_
  refine GXs.consP (i := 3) rfl rfl Tryz.call74 rfl (is := [2]) (js := [0]) rfl rfl (by exact (wnum_ct _ _ _ b _ 1 (by omega) (by omega) hcp hcp' (by omega)).mono (fun _ _ _ h => h) (fun _ h => ⟨h.1,by simp only [wmsgF,h.2,Option.bind_none]⟩)) (by rintro a w ⟨_,_,_,⟨v10,L10,A10,c10,hs10,l10,k10,rfl,rfl,rfl⟩,h⟩; exact h.me [2] [1]) (GX.ret ?_) GXs.nil
  rintro _ _ _ ⟨v10,L10,A10,c10,hs10,l10,k10,rfl,rfl,rfl⟩
  obtain ⟨hv10,hw10,hx10⟩ := wnumF_rng hs10
  refine GX.tp 4 rfl [2] [1] (i_pure (p_convR (t := 45) (r := v10) (by rw [Tryz.underlying45]; simp) Tryz.underlying44 rfl (by simp [IntKind.wrap,IntKind.bits,IntKind.signed]; omega))) ?_
  refine GX.al [8] ?_
  refine GXs.consP (i := 8) rfl rfl Tryz.call74 rfl (is := [0]) (js := [0]) rfl rfl (by exact (wnum_ct _ _ _ L10 _ 8 (by omega) (by omega) l10 k10 (by omega)).mono (fun _ _ _ h => h) (fun _ h => ⟨h.1,by simp only [wmsgF,hs10,Option.bind_some,h.2,Option.bind_none]⟩)) (by rintro a w ⟨_,_,_,⟨v15,L15,A15,c15,hs15,l15,k15,rfl,rfl,rfl⟩,h⟩; exact h.me [2] [2]) (GX.ret ?_) GXs.nil
  rintro _ _ _ ⟨v15,L15,A15,c15,hs15,l15,k15,rfl,rfl,rfl⟩
  obtain ⟨hv15,hw15,hx15⟩ := wnumF_rng hs15
  refine GX.tp 9 rfl [2] [2] (i_pure (p_conv (t := 45) (by rw [Tryz.underlying45]; simp) Tryz.underlying2 rfl)) ?_
  refine GX.al [13] ?_
  refine GXs.consP (i := 13) rfl rfl Tryz.call74 rfl (is := [0]) (js := [0]) rfl rfl (by exact (wnum_ct _ _ _ L15 _ 8 (by omega) (by omega) l15 k15 (by omega)).mono (fun _ _ _ h => h) (fun _ h => ⟨h.1,by simp only [wmsgF,hs10,hs15,Option.bind_some,h.2,Option.bind_none]⟩)) (by rintro a w ⟨_,_,_,⟨v20,L20,A20,c20,hs20,l20,k20,rfl,rfl,rfl⟩,h⟩; exact h.me [2] [3]) (GX.ret ?_) GXs.nil
  rintro _ _ _ ⟨v20,L20,A20,c20,hs20,l20,k20,rfl,rfl,rfl⟩
  obtain ⟨hv20,hw20,hx20⟩ := wnumF_rng hs20
  refine GX.tp 14 rfl [2] [3] (i_pure (p_conv (t := 45) (by rw [Tryz.underlying45]; simp) Tryz.underlying2 rfl)) ?_
  refine GX.tp 15 rfl [2] [3] (i_pure (p_build ze_64 of_64 rfl rfl)) ?_
  refine GX.al [17] ?_
  refine GXs.cons (i := 17) rfl rfl (t_storeN (i := 1) rfl rfl rfl sz_64 rfl rfl rfl) (by rintro a w h; exact h.me [2] [3]) ?_ GXs.nil
  exact zq59_
 refine (?_ : GC _ _ _ _)
 refine GC.ex fun v10 => GC.ex fun L10 => GC.ex fun v15 => GC.ex fun L15 => GC.ex fun v20 => GC.ex fun L20 => GC.ex fun A20 => GC.ex fun c20 => GC.ex fun b_t3 => GC.and fun ⟨hs10,hs15,hs20,l20,k20⟩ => ?_;refine GC.seq' ?_
 obtain ⟨hv10,hw10,hx10⟩ := wnumF_rng hs10
 obtain ⟨hv15,hw15,hx15⟩ := wnumF_rng hs15
 obtain ⟨hv20,hw20,hx20⟩ := wnumF_rng hs20
 refine GC.regionXM (m := 30) (M := fun a w => ∃ v26 : Int,∃ L26 : List UInt8,∃ v30 : Int,∃ L30 : List UInt8,∃ v34 : Int,∃ L34 : List UInt8,∃ v38 : Int,∃ L38 : List UInt8,∃ v42 : Int,∃ L42 : List UInt8,∃ A42 : Option Addr,∃ c42 : Nat,(wsmF L20 = some (v26,L26) ∧ wsmF L26 = some (v30,L30) ∧ wsmF L30 = some (v34,L34) ∧ wsmF L34 = some (v38,L38) ∧ wsmF L38 = some (v42,L42) ∧ L42.length ≤ c42 ∧ c42 ≤ 9223372036854775807) ∧ St c 95 [(0,.pointer (some ⟨p,0,none⟩)),(2,.pointer (some ⟨b_t2,0,none⟩)),(3,.pointer (some ⟨b_t3,0,none⟩))] [.cells p [.slice A42 L42.length c42] e_,.cells b_t3 [.int .u8 v10,.int .i64 (IntKind.i64.wrap v15),.int .i64 (IntKind.i64.wrap v20),.int .i64 v26,.int .i64 v30,.int .i64 v34,.int .i64 v38,.int .i64 v42,.int .u64 0,.int .i64 0,.int .i64 0,.int .u8 0,.int .i64 0,.int .i64 0,.slice none 0 0,.slice none 0 0,.int .u8 0,.slice none 0 0,.int .i64 0,.slice none 0 0,.int .i64 0,.int .i64 0,.int .i64 0,.slice none 0 0,.slice none 0 0,.int .i64 0,.slice none 0 0,.slice none 0 0] 64,.cells b_t2 [.int .u8 0,.int .i64 0,.int .i64 0,.int .i64 0,.int .i64 0,.int .i64 0,.int .i64 0,.int .i64 0,.int .u64 0,.int .i64 0,.int .i64 0,.int .u8 0,.int .i64 0,.int .i64 0,.slice none 0 0,.slice none 0 0,.int .u8 0,.slice none 0 0,.int .i64 0,.slice none 0 0,.int .i64 0,.int .i64 0,.int .i64 0,.slice none 0 0,.slice none 0 0,.int .i64 0,.slice none 0 0,.slice none 0 0] 64] [Pers.row Kd.u8 A42 L42] a w) (is := [2]) (js := [0]) wide_ rfl rfl rfl (fun _ _ _ hd hp hD => ⟨hd.trans hD,.inr hp⟩) ?_ ?_
 ·refine GX.tk 0 [2] [0] ?_
  refine GX.tk 1 [2] [0] ?_
  refine GX.tk 2 [2] [0] ?_
  refine GX.tk 4 [2] [0] ?_
  refine GX.tk 5 [2] [0] ?_
  refine GX.tk 6 [2] [0] ?_
  refine GX.tk 8 [2] [0] ?_
  refine GX.tk 9 [2] [0] ?_
  refine GX.tk 10 [2] [0] ?_
  refine GX.tk 12 [2] [0] ?_
  refine GX.tk 13 [2] [0] ?_
  refine GX.tk 14 [2] [0] ?_
  refine GX.tk 16 [2] [0] ?_
  refine GX.tk 17 [2] [0] ?_
  refine GX.tk 18 [2] [0] ?_
  refine GX.al [3] ?_
  refine GXs.consP (i := 3) rfl rfl Tryz.call75 rfl (is := [0]) (js := [0]) rfl rfl (by exact (wsm_ct _ _ _ L20 _ l20 k20 (by omega)).mono (fun _ _ _ h => h) (fun _ h => ⟨h.1,by simp only [wmsgF,hs10,hs15,hs20,Option.bind_some,h.2,Option.bind_none]⟩)) (by rintro a w ⟨_,_,_,⟨v26,L26,A26,c26,hs26,l26,k26,rfl,rfl,rfl⟩,h⟩; exact h.me [2] [1]) (GX.ret ?_) GXs.nil
  rintro _ _ _ ⟨v26,L26,A26,c26,hs26,l26,k26,rfl,rfl,rfl⟩
  obtain ⟨hv26,hw26,hx26⟩ := wsmF_rng hs26
  refine GX.al [7] ?_
  refine GXs.consP (i := 7) rfl rfl Tryz.call75 rfl (is := [0]) (js := [0]) rfl rfl (by exact (wsm_ct _ _ _ L26 _ l26 k26 (by omega)).mono (fun _ _ _ h => h) (fun _ h => ⟨h.1,by simp only [wmsgF,hs10,hs15,hs20,hs26,Option.bind_some,h.2,Option.bind_none]⟩)) (by rintro a w ⟨_,_,_,⟨v30,L30,A30,c30,hs30,l30,k30,rfl,rfl,rfl⟩,h⟩; exact h.me [2] [2]) (GX.ret ?_) GXs.nil
  rintro _ _ _ ⟨v30,L30,A30,c30,hs30,l30,k30,rfl,rfl,rfl⟩
  obtain ⟨hv30,hw30,hx30⟩ := wsmF_rng hs30
  refine GX.al [11] ?_
  refine GXs.consP (i := 11) rfl rfl Tryz.call75 rfl (is := [0]) (js := [0]) rfl rfl (by exact (wsm_ct _ _ _ L30 _ l30 k30 (by omega)).mono (fun _ _ _ h => h) (fun _ h => ⟨h.1,by simp only [wmsgF,hs10,hs15,hs20,hs26,hs30,Option.bind_some,h.2,Option.bind_none]⟩)) (by rintro a w ⟨_,_,_,⟨v34,L34,A34,c34,hs34,l34,k34,rfl,rfl,rfl⟩,h⟩; exact h.me [2] [3]) (GX.ret ?_) GXs.nil
  rintro _ _ _ ⟨v34,L34,A34,c34,hs34,l34,k34,rfl,rfl,rfl⟩
  obtain ⟨hv34,hw34,hx34⟩ := wsmF_rng hs34
  refine GX.al [15] ?_
  refine GXs.consP (i := 15) rfl rfl Tryz.call75 rfl (is := [0]) (js := [0]) rfl rfl (by exact (wsm_ct _ _ _ L34 _ l34 k34 (by omega)).mono (fun _ _ _ h => h) (fun _ h => ⟨h.1,by simp only [wmsgF,hs10,hs15,hs20,hs26,hs30,hs34,Option.bind_some,h.2,Option.bind_none]⟩)) (by rintro a w ⟨_,_,_,⟨v38,L38,A38,c38,hs38,l38,k38,rfl,rfl,rfl⟩,h⟩; exact h.me [2] [4]) (GX.ret ?_) GXs.nil
  rintro _ _ _ ⟨v38,L38,A38,c38,hs38,l38,k38,rfl,rfl,rfl⟩
  obtain ⟨hv38,hw38,hx38⟩ := wsmF_rng hs38
  refine GX.al [19] ?_
  refine GXs.consP (i := 19) rfl rfl Tryz.call75 rfl (is := [0]) (js := [0]) rfl rfl (by exact (wsm_ct _ _ _ L38 _ l38 k38 (by omega)).mono (fun _ _ _ h => h) (fun _ h => ⟨h.1,by simp only [wmsgF,hs10,hs15,hs20,hs26,hs30,hs34,hs38,Option.bind_some,h.2,Option.bind_none]⟩)) (by rintro a w ⟨_,_,_,⟨v42,L42,A42,c42,hs42,l42,k42,rfl,rfl,rfl⟩,h⟩; exact h.me [2] [5]) (GX.ret ?_) GXs.nil
  rintro _ _ _ ⟨v42,L42,A42,c42,hs42,l42,k42,rfl,rfl,rfl⟩
  obtain ⟨hv42,hw42,hx42⟩ := wsmF_rng hs42
  refine GX.tk 20 [2] [5] ?_
  refine GX.al [21] ?_
  refine GXs.cons (i := 21) rfl rfl (t_store (i := 1) rfl rfl rfl rfl sz_3 rfl rfl rfl) (by rintro a w h; exact h.me [2] [5]) ?_ GXs.nil
  refine GX.tk 22 [2] [5] ?_
  refine GX.al [23] ?_
  refine GXs.cons (i := 23) rfl rfl (t_store (i := 1) rfl rfl rfl rfl sz_3 rfl rfl rfl) (by rintro a w h; exact h.me [2] [5]) ?_ GXs.nil
  refine GX.tk 24 [2] [5] ?_
  refine GX.al [25] ?_
  refine GXs.cons (i := 25) rfl rfl (t_store (i := 1) rfl rfl rfl rfl sz_3 rfl rfl rfl) (by rintro a w h; exact h.me [2] [5]) ?_ GXs.nil
  refine GX.tk 26 [2] [5] ?_
  refine GX.al [27] ?_
  refine GXs.cons (i := 27) rfl rfl (t_store (i := 1) rfl rfl rfl rfl sz_3 rfl rfl rfl) (by rintro a w h; exact h.me [2] [5]) ?_ GXs.nil
  refine GX.tk 28 [2] [5] ?_
  refine GX.al [29] ?_
  refine GXs.cons (i := 29) rfl rfl (t_store (i := 1) rfl rfl rfl rfl sz_3 rfl rfl rfl) (by rintro a w h; exact h.me [2] [5]) ?_ GXs.nil
  exact GX.done (by kernel_rfl) (fun a w h => ⟨_,_,_,_,_,_,_,_,_,_,_,_,⟨hs26,hs30,hs34,hs38,hs42,l42,k42⟩,h.cut (is := [0,0,0]) (js := [0]) ⟨rfl,rfl,rfl,trivial⟩ rfl rfl⟩)
 refine (?_ : GC _ _ _ _)
 refine GC.ex fun v26 => GC.ex fun L26 => GC.ex fun v30 => GC.ex fun L30 => GC.ex fun v34 => GC.ex fun L34 => GC.ex fun v38 => GC.ex fun L38 => GC.ex fun v42 => GC.ex fun L42 => GC.ex fun A42 => GC.ex fun c42 => GC.and fun ⟨hs26,hs30,hs34,hs38,hs42,l42,k42⟩ => ?_
 refine GC.sr_ ?_
 obtain ⟨hv26,hw26,hx26⟩ := wsmF_rng hs26
 obtain ⟨hv30,hw30,hx30⟩ := wsmF_rng hs30
 obtain ⟨hv34,hw34,hx34⟩ := wsmF_rng hs34
 obtain ⟨hv38,hw38,hx38⟩ := wsmF_rng hs38
 obtain ⟨hv42,hw42,hx42⟩ := wsmF_rng hs42
 refine GL.rn 3 ?_;refine GL.callP rfl Tryz.call74 rfl (is := [0]) (js := [0]) rfl rfl (by exact (wnum_ct _ _ _ L42 _ 8 (by omega) (by omega) l42 k42 (by omega)).mono (fun _ _ _ h => h) (fun _ h => ⟨h.1,by simp only [wmsgF,hs10,hs15,hs20,hs26,hs30,hs34,hs38,hs42,Option.bind_some,h.2,Option.bind_none]⟩)) (fun v a w he h => FinP.panic he h) (GL.ret ?_)
 rintro _ _ _ ⟨v51,L51,A51,c51,hs51,l51,k51,rfl,rfl,rfl⟩
 obtain ⟨hv51,hw51,hx51⟩ := wnumF_rng hs51
 refine GL.rn 1 ?_;refine GL.so_ 1 ?_;refine GL.nl_ ?_;refine GC.seq' ?_;refine GC.regionXM (m := 12) (M := fun a w => ∃ v56 : Int,∃ L56 : List UInt8,∃ v60 : Int,∃ L60 : List UInt8,∃ A60 : Option Addr,∃ c60 : Nat,(wsmF L51 = some (v56,L56) ∧ wsmF L56 = some (v60,L60) ∧ L60.length ≤ c60 ∧ c60 ≤ 9223372036854775807) ∧ St c 95 [(0,.pointer (some ⟨p,0,none⟩)),(2,.pointer (some ⟨b_t2,0,none⟩)),(3,.pointer (some ⟨b_t3,0,none⟩))] [.cells p [.slice A60 L60.length c60] e_,.cells b_t3 [.int .u8 v10,.int .i64 (IntKind.i64.wrap v15),.int .i64 (IntKind.i64.wrap v20),.int .i64 v26,.int .i64 v30,.int .i64 v34,.int .i64 v38,.int .i64 v42,.int .u64 v51,.int .i64 v56,.int .i64 v60,.int .u8 0,.int .i64 0,.int .i64 0,.slice none 0 0,.slice none 0 0,.int .u8 0,.slice none 0 0,.int .i64 0,.slice none 0 0,.int .i64 0,.int .i64 0,.int .i64 0,.slice none 0 0,.slice none 0 0,.int .i64 0,.slice none 0 0,.slice none 0 0] 64,.cells b_t2 [.int .u8 0,.int .i64 0,.int .i64 0,.int .i64 0,.int .i64 0,.int .i64 0,.int .i64 0,.int .i64 0,.int .u64 0,.int .i64 0,.int .i64 0,.int .u8 0,.int .i64 0,.int .i64 0,.slice none 0 0,.slice none 0 0,.int .u8 0,.slice none 0 0,.int .i64 0,.slice none 0 0,.int .i64 0,.int .i64 0,.int .i64 0,.slice none 0 0,.slice none 0 0,.int .i64 0,.slice none 0 0,.slice none 0 0] 64] [Pers.row Kd.u8 A60 L60] a w) (is := [2]) (js := [0,1]) wide_ rfl rfl rfl (fun _ _ _ hd hp hD => ⟨hd.trans hD,.inr hp⟩) ?_ ?_
 ·refine GX.tk 0 [2] [0,1] ?_
  refine GX.tk 1 [2] [0,1] ?_
  refine GX.tk 2 [2] [0,1] ?_
  refine GX.tk 4 [2] [0,1] ?_
  refine GX.tk 5 [2] [0,1] ?_
  refine GX.tk 6 [2] [0,1] ?_
  refine GX.al [3] ?_
  refine GXs.consP (i := 3) rfl rfl Tryz.call75 rfl (is := [0]) (js := [0]) rfl rfl (by exact (wsm_ct _ _ _ L51 _ l51 k51 (by omega)).mono (fun _ _ _ h => h) (fun _ h => ⟨h.1,by simp only [wmsgF,hs10,hs15,hs20,hs26,hs30,hs34,hs38,hs42,hs51,Option.bind_some,h.2,Option.bind_none]⟩)) (by rintro a w ⟨_,_,_,⟨v56,L56,A56,c56,hs56,l56,k56,rfl,rfl,rfl⟩,h⟩; exact h.me [2] [1,2]) (GX.ret ?_) GXs.nil
  rintro _ _ _ ⟨v56,L56,A56,c56,hs56,l56,k56,rfl,rfl,rfl⟩
  obtain ⟨hv56,hw56,hx56⟩ := wsmF_rng hs56
  refine GX.al [7] ?_
  refine GXs.consP (i := 7) rfl rfl Tryz.call75 rfl (is := [0]) (js := [0]) rfl rfl (by exact (wsm_ct _ _ _ L56 _ l56 k56 (by omega)).mono (fun _ _ _ h => h) (fun _ h => ⟨h.1,by simp only [wmsgF,hs10,hs15,hs20,hs26,hs30,hs34,hs38,hs42,hs51,hs56,Option.bind_some,h.2,Option.bind_none]⟩)) (by rintro a w ⟨_,_,_,⟨v60,L60,A60,c60,hs60,l60,k60,rfl,rfl,rfl⟩,h⟩; exact h.me [2] [2,3]) (GX.ret ?_) GXs.nil
  rintro _ _ _ ⟨v60,L60,A60,c60,hs60,l60,k60,rfl,rfl,rfl⟩
  obtain ⟨hv60,hw60,hx60⟩ := wsmF_rng hs60
  refine GX.tk 8 [2] [2,3] ?_
  refine GX.al [9] ?_
  refine GXs.cons (i := 9) rfl rfl (t_store (i := 1) rfl rfl rfl rfl sz_3 rfl rfl rfl) (by rintro a w h; exact h.me [2] [2,3]) ?_ GXs.nil
  refine GX.tk 10 [2] [2,3] ?_
  refine GX.al [11] ?_
  refine GXs.cons (i := 11) rfl rfl (t_store (i := 1) rfl rfl rfl rfl sz_3 rfl rfl rfl) (by rintro a w h; exact h.me [2] [2,3]) ?_ GXs.nil
  exact GX.done (by kernel_rfl) (fun a w h => ⟨_,_,_,_,_,_,⟨hs56,hs60,l60,k60⟩,h.cut (is := [0,0,0]) (js := [0]) ⟨rfl,rfl,rfl,trivial⟩ rfl rfl⟩)
 refine (?_ : GC _ _ _ _)
 refine GC.ex fun v56 => GC.ex fun L56 => GC.ex fun v60 => GC.ex fun L60 => GC.ex fun A60 => GC.ex fun c60 => GC.and fun ⟨hs56,hs60,l60,k60⟩ => ?_;refine GC.sr_ ?_
 obtain ⟨hv56,hw56,hx56⟩ := wsmF_rng hs56
 obtain ⟨hv60,hw60,hx60⟩ := wsmF_rng hs60
 refine GL.rn 1 ?_;refine GL.callP rfl Tryz.call76 rfl (is := [0,0]) (js := [0]) rfl rfl (by exact (wprt_ct _ _ _ _ _ _ _ _ _ _ _ _ _ _ _ _ L60 _ l60 k60 (by omega)).mono (fun _ _ _ h => h) (fun _ h => ⟨h.1,by simp only [wmsgF,hs10,hs15,hs20,hs26,hs30,hs34,hs38,hs42,hs51,hs56,hs60,Option.bind_some,h.2,Option.bind_none]⟩)) (fun v a w he h => FinP.panic he h) (GL.ret ?_)
 rintro _ _ _ ⟨o64,r64,g64,s64,L64,x64,hs64,hx64,l64,k64,rfl,rfl,rfl⟩
 refine GL.nl_ ?_;refine GC.seq' ?_;refine GC.rr 3 ?_;refine GL.callP rfl Tryz.call74 rfl (is := [0]) (js := [7]) rfl rfl (by exact (wnum_ct _ _ _ L64 _ 4 (by omega) (by omega) l64 k64 (by omega)).mono (fun _ _ _ h => h) (fun _ h => ⟨h.1,by simp only [wmsgF,hs10,hs15,hs20,hs26,hs30,hs34,hs38,hs42,hs51,hs56,hs60,Option.bind_some,hs64,h.2,Option.bind_none]⟩)) (fun v a w he h => FinP.panic he h) (GL.ret ?_)
 rintro _ _ _ ⟨v68,L68,A68,c68,hs68,l68,k68,rfl,rfl,rfl⟩
 obtain ⟨hv68,hw68,hx68⟩ := wnumF_rng hs68
 refine GL.nilrow 97 12 ?_;refine GL.know (q := Pers.reps kEntry [] []) (fun _ _ _ => rfl) ?_;refine GL.rz 1 ?_;refine GC.block ?_;refine GC.loopK7 (ks := [0,2,3,68]) (is := [3]) (js := (up 1 10)) (fun (k : Nat) (es : List Entry) (V : Value) (cs : List Value) (L : List UInt8) (Al : Option Addr) (cl : Nat) => (es.length = k ∧ L.length ≤ b.length ∧ L.length ≤ cl ∧ cl ≤ 9223372036854775807) ∧ (k : Int) ≤ v68 ∧ manyF went L68 k = some (es,L)) (fun (k : Nat) (es : List Entry) (V : Value) (cs : List Value) (L : List UInt8) (Al : Option Addr) (cl : Nat) => [(69,.int .u64 (k : Int))]) (fun (k : Nat) (es : List Entry) (V : Value) (cs : List Value) (L : List UInt8) (Al : Option Addr) (cl : Nat) => [.cells p [.slice Al L.length cl] e_,.cells b_t3 [.int .u8 v10,.int .i64 (IntKind.i64.wrap v15),.int .i64 (IntKind.i64.wrap v20),.int .i64 v26,.int .i64 v30,.int .i64 v34,.int .i64 v38,.int .i64 v42,.int .u64 v51,.int .i64 v56,.int .i64 v60,.int .u8 o64.kind,.int .i64 o64.at_,.int .i64 o64.n,.slice x64.a1 o64.data.length x64.c1,.slice x64.a2 o64.old.length x64.c2,.int .u8 r64.code,.slice x64.a3 r64.data.length x64.c3,.int .i64 g64.epoch,.slice x64.a4 g64.members.length x64.c4,.int .i64 s64.num,.int .i64 s64.shp.bl,.int .i64 s64.shp.sz,.slice x64.a5 s64.pages.length x64.c5,.slice x64.a6 s64.rows.length x64.c6,.int .i64 s64.grp.epoch,.slice x64.a7 s64.grp.members.length x64.c7,V] 64,.row V 97 12 es.length cs]) (fun (k : Nat) (es : List Entry) (V : Value) (cs : List Value) (L : List UInt8) (Al : Option Addr) (cl : Nat) => [Pers.reps kEntry es cs,Pers.row Kd.u8 Al L]) (fun (k : Nat) (es : List Entry) (V : Value) (cs : List Value) (L : List UInt8) (Al : Option Addr) (cl : Nat) => v68.toNat - k) (0) ([]) (_) ([]) (L68) (_) (_) rfl rfl rfl (fun a w h => ⟨⟨⟨rfl,by omega,l68,k68⟩,by omega,rfl⟩,h.cutK (is := [1,1,0,0]) (js := [0,1,1,2,3,4,5,6,7,8,9,10]) (ks := [0,2,3,68]) ⟨rfl,trivial⟩ rfl rfl rfl⟩) ?_
 intro k es V cs L Al cl hk
 try dsimp only [List.cons_append,List.nil_append] at hk ⊢
 refine GC.rg 1 ?_;refine GC.seq' ?_;refine GC.co ?_ ?_
 ·intro h1; try simp only [tst_] at h1
  refine GC.skip (?_ : GC _ _ _ _)
  refine GC.seq' ?_;refine GC.block ?_;refine GC.rr 4 ?_;refine GL.ld_ 0 ?_;refine GL.cl Tryz.call77 [] [1] rfl rfl rfl (by exact decent_ct _ L _ hk.1.2.2.1 hk.1.2.2.2 (by omega)) ?_
  rintro _ _ _ ⟨g77,t77,f77,A77,cp77,B77,cq77,C77,cr77,hs77,ht77,j77,k77,l77,m77,n77,o77,rfl,rfl,rfl⟩
  refine GL.rn 4 ?_;refine GL.step rfl (t_alloc rfl ze_97) (GL.ex fun b_t4 => ?_);refine GL.sn_ 0 ?_;refine GL.rz 2 ?_;refine GC.rr 5 ?_;refine GL.callP rfl Tryz.call78 rfl (is := [1]) (js := [4]) rfl rfl (by exact (wtake_ct _ _ _ L _ t77 f77 (fun _ => ht77) hk.1.2.2.1 hk.1.2.2.2).mono (fun _ _ _ h => h) (fun _ h => ⟨h.2,by simp only [wmsgF,hs10,hs15,hs20,hs26,hs30,hs34,hs38,hs42,hs51,hs56,hs60,hs64,hs68,Option.bind_some]; rw [manyF_fail hk.2.2 (show went L = none from by rw [went,hs77.2 h.1]; rfl) (by omega)]; rfl⟩)) (fun v a w he h => FinP.panic he h) (GL.ret ?_)
  rintro _ _ _ ⟨he86,A86,c86,l86,k86,rfl,rfl,rfl⟩
  refine GL.nl_ ?_;refine GC.region ?_;refine GL.rn 1 ?_;refine GL.ld_ 2 ?_;refine GL.ln_ 1 12 ?_;refine GL.snoc (j := 4) (js := [1,2,3]) g77 ((),((),((),((),((),(((),((),((),((A77,cp77),(B77,cq77))))),((),(C77,cr77)))))))) rfl rfl ⟨trivial,trivial,trivial,trivial,trivial,⟨trivial,trivial,trivial,⟨j77,k77⟩,⟨l77,m77⟩⟩,trivial,n77,o77⟩ ?_
  refine GL.step rfl (t_buildSlice rfl Tryz.underlying62 sz_97 ze_97 rfl rfl rfl rfl rfl rfl) (GL.ex fun b_t90 => ?_);refine GL.step rfl (t_append (i := 4) (k := 0) rfl el_62 rfl rfl rfl rfl rfl (allOne_mem rfl) (by have := hk.1.1; omega) (fun _ => rfl)) (GL.ex fun v91 => ?_)
  refine GL.shape (i := 4) rfl (fun A_v91 c_v91 e_v91 l_v91 k_v91 => ?_)
  subst e_v91
  refine GL.rn 1 ?_;refine GL.so_ 3 ?_
  refine GL.nil (?_ : GC _ _ _ _)
  refine GC.region ?_;refine GL.pure rfl (p_add rfl rfl (cvU (by omega) (by omega))) ?_;refine GL.rn 1 ?_;refine GL.nil ?_
  exact fun a w h => ⟨(k + 1),(es ++ [g77]),(_),(_),(L.drop t77),(_),(_),(by omega),⟨⟨by simp; omega,by have := @drop_len L t77; omega,l86,k86⟩,by omega,manyF_next hk.2.2 (show went L = some _ from by rw [went,hs77.1 he86]; rfl)⟩,by rw [List.length_append]; exact h.cut (is := [1,2,2,2]) (js := [0,1,7,8,9,10,11,12,13,14,15,16]) ⟨rfl,rfl,rfl,rfl,rfl,trivial⟩ rfl rfl⟩
 intro h1; try simp only [tst_] at h1
 refine GC.exit (?_ : GC _ _ _ _)
 refine GC.sr_ ?_;refine GL.shape (i := 2) rfl (fun A_EN c_EN e_EN l_EN k_EN => ?_)
 subst e_EN
 refine GL.freezeR (i := 2) (j := 0) rfl rfl (by decide) ?_;refine GL.ln_ 1 28 ?_;refine GL.sn_ 2 ?_;refine GL.nl_ ?_;refine GC.ret (FinP.c0 2 64 2 28 [0] [4,5,6,7,8,9,10,0,2] ?_)
 exact ⟨⟨v10,IntKind.i64.wrap v15,IntKind.i64.wrap v20,v26,v30,v34,v38,v42,v51,v56,v60,o64,r64,g64,s64,es⟩,⟨x64.a1,x64.c1,x64.a2,x64.c2,x64.a3,x64.c3,x64.a4,x64.c4,x64.a5,x64.c5,x64.a6,x64.c6,x64.a7,x64.c7,A_EN,c_EN⟩,L,_,_,by simp only [wmsgF,hs10,hs15,hs20,hs26,hs30,hs34,hs38,hs42,hs51,hs56,hs60,hs64,hs68,Option.bind_some]; rw [show v68.toNat = k by omega,hk.2.2]; rfl,hk.1.2.2.1,hk.1.2.2.2,rfl,rfl,rfl⟩
theorem manyF_len {α σ : Type} {f : σ → Option (α × σ)} {t : σ} : ∀ {k : Nat} {xs : List α} {u : σ},manyF f t k = some (xs,u) → xs.length = k
  | 0,xs,u,h => by
    obtain ⟨rfl,_⟩ := Prod.mk.inj (Option.some.inj h)
    rfl
  | k + 1,xs,u,h => by
    simp only [manyF,Option.bind_eq_some_iff,Option.map_eq_some_iff] at h
    obtain ⟨⟨ys,v⟩,h1,⟨x,w⟩,h2,h3⟩ := h
    obtain ⟨rfl,_⟩ := Prod.mk.inj h3
    have := manyF_len h1
    simp [this]
theorem manyF_all {α σ : Type} {P : α → Prop} {f : σ → Option (α × σ)} {t : σ} (hf : ∀ t x v,f t = some (x,v) → P x) : ∀ {k : Nat} {xs : List α} {u : σ},manyF f t k = some (xs,u) → ∀ x ∈ xs,P x
  | 0,xs,u,h => by
    obtain ⟨rfl,_⟩ := Prod.mk.inj (Option.some.inj h)
    intro x hx; cases hx
  | k + 1,xs,u,h => by
    simp only [manyF,Option.bind_eq_some_iff,Option.map_eq_some_iff] at h
    obtain ⟨⟨ys,v⟩,h1,⟨x,w⟩,h2,h3⟩ := h
    obtain ⟨rfl,_⟩ := Prod.mk.inj h3
    intro y hy
    rcases List.mem_append.1 hy with hy | hy
    · exact manyF_all hf h1 y hy
    · rw [List.mem_singleton.1 hy]; exact hf _ _ _ h2
theorem manyF_dec {α : Type} {f : List UInt8 → Option (α × List UInt8)} {t : List UInt8} (hf : ∀ t x v,f t = some (x,v) → v.length + 1 ≤ t.length) : ∀ {k : Nat} {xs : List α} {u : List UInt8},manyF f t k = some (xs,u) → u.length + k ≤ t.length
  | 0,xs,u,h => by
    obtain ⟨_,rfl⟩ := Prod.mk.inj (Option.some.inj h)
    exact Nat.le_refl _
  | k + 1,xs,u,h => by
    simp only [manyF,Option.bind_eq_some_iff,Option.map_eq_some_iff] at h
    obtain ⟨⟨ys,v⟩,h1,⟨x,w⟩,h2,h3⟩ := h
    obtain ⟨_,rfl⟩ := Prod.mk.inj h3
    have := manyF_dec hf h1
    have := hf _ _ _ h2
    dsimp only at *
    omega
theorem ent_len {e : Entry} (h : entOk e) : EntLen e := by
  obtain ⟨_,_,_,_,h5⟩ := h
  rcases h5 with ⟨_,h,_,h2⟩ | ⟨_,h,h2,_⟩
  · have := form_rng h
    exact ⟨by unfold lenOk; omega,by unfold lenOk; omega,by omega⟩
  · have := grp_rng h2
    exact ⟨by rw [h]; simp [zop],by rw [h]; simp [zop],by omega⟩
theorem held_len {s : Stt} (h : heldOk s) : SttLen s := by
  have r := held_rng h
  have h1 := r.pl
  have h2 := r.rl
  have h3 := grp_rng r.gr
  refine ⟨by omega,by omega,by omega,fun p hp => ?_,fun p hp => ?_⟩
  · have := (r.pg p hp).2.2.2.2; unfold lenOk; omega
  · have := (res_rng (r.rw_ p hp).2.2).2.2; unfold lenOk; omega
theorem mentF_ok {b : List UInt8} {t : Nat} {e : Entry} {u : Nat} (h : mentF b t = some (e,u)) : entOk e := by
  simp only [mentF,Option.bind_eq_some_iff,mentC] at h
  obtain ⟨_,_,_,_,_,_,_,_,_,_,_,_,h⟩ := h
  split at h
  · rename_i h0
    rw [Option.some.inj h] at h0
    rwa [entE_iff] at h0
  · cases h
theorem mstF_ok {b : List UInt8} {t : Nat} {e : Stt} {u : Nat} (h : mstF b t = some (e,u)) : heldOk e := by
  simp only [mstF,Option.bind_eq_some_iff,mstC] at h
  obtain ⟨_,_,_,_,_,_,_,_,_,_,_,_,_,_,_,_,h⟩ := h
  split at h
  · rename_i h0
    rw [← (Prod.mk.inj (Option.some.inj h)).1]
    exact h0.1
  · cases h
theorem decOp_ok {b : List UInt8} {o : OpD} {n : Nat} (h : decOp b = some (o,n)) : formD o := by
  unfold decOp at h
  split at h
  · rename_i hh
    rw [← (Prod.mk.inj (Option.some.inj h)).1]
    exact (formE_iff ..).1 hh.2
  · cases h
theorem wnum_lt {n : Nat} {L M : List UInt8} {v : Int} (h : wnumF n L = some (v,M)) : M.length + n = L.length := (wnumF_rng h).2.2
theorem went_ok {L M : List UInt8} {e : Entry} (h : went L = some (e,M)) : entOk e := by
  simp only [went,Option.map_eq_some_iff] at h
  obtain ⟨⟨e',u⟩,h1,h2⟩ := h
  obtain ⟨rfl,_⟩ := Prod.mk.inj h2
  exact mentF_ok h1
theorem mnumF_step {b : List UInt8} {t n u : Nat} {v : Int} (h : mnumF b t n = some (v,u)) : u = t + n ∧ u ≤ b.length := ⟨(mnumF_rng h).2.1,(mnumF_rng h).1⟩
theorem mentF_step {b : List UInt8} {e : Entry} {u : Nat} (h : mentF b 0 = some (e,u)) : 1 ≤ u ∧ 1 ≤ b.length := by
  simp only [mentF,Option.bind_eq_some_iff] at h
  obtain ⟨⟨k,t1⟩,h1,⟨n,t2⟩,h2,⟨v,t3⟩,h3,⟨cc,t4⟩,h4,⟨s,t5⟩,h5,⟨x,t6⟩,h6,h7⟩ := h
  have e1 := mnumF_step h1
  have e2 := mnumF_step h2
  have e3 := mnumF_step h3
  have e4 := mnumF_step h4
  have e5 := mnumF_step h5
  dsimp only at *
  simp only [mentC] at h7
  split at h7
  · obtain ⟨_,rfl⟩ := Prod.mk.inj (Option.some.inj h7)
    refine ⟨?_,by omega⟩
    unfold mentB at h6
    split at h6
    · simp only [Option.map_eq_some_iff] at h6
      obtain ⟨⟨o,m⟩,_,h8⟩ := h6
      have := (Prod.mk.inj h8).2
      dsimp only at this
      omega
    · split at h6
      · simp only [Option.map_eq_some_iff,mgrpF,Option.bind_eq_some_iff] at h6
        obtain ⟨⟨o,m⟩,⟨⟨g1,u1⟩,h8,⟨g2,u2⟩,h9,⟨g3,u3⟩,h10,h11⟩,h12⟩ := h6
        have f1 := mnumF_step h8
        have f2 := mnumF_step h9
        have := (Prod.mk.inj h12).2
        have := (Prod.mk.inj h11).2
        dsimp only at *
        have hge : ∀ (k : Nat) (xs : List Int) (u : Nat),manyF (fun t => mnumF b t 1) u2 k = some (xs,u) → u2 ≤ u := by
          intro k
          induction k with
          | zero => intro xs u h; obtain ⟨_,rfl⟩ := Prod.mk.inj (Option.some.inj h); exact Nat.le_refl _
          | succ k ih =>
            intro xs u h
            simp only [manyF,Option.bind_eq_some_iff,Option.map_eq_some_iff] at h
            obtain ⟨⟨ys,v⟩,j1,⟨x,w⟩,j2,j3⟩ := h
            obtain ⟨_,rfl⟩ := Prod.mk.inj j3
            have := ih _ _ j1
            have := mnumF_step j2
            dsimp only at *
            omega
        have := hge _ _ _ h10
        omega
      · have := (Prod.mk.inj (Option.some.inj h6)).2
        omega
  · cases h7
theorem went_dec (t : List UInt8) (x : Entry) (v : List UInt8) (h : went t = some (x,v)) : v.length + 1 ≤ t.length := by
  simp only [went,Option.map_eq_some_iff] at h
  obtain ⟨⟨e',u⟩,h1,h2⟩ := h
  obtain ⟨_,rfl⟩ := Prod.mk.inj h2
  have := mentF_step h1
  rw [List.length_drop]
  dsimp only
  omega
structure MsgF (b : List UInt8) (m : Msg) (M : List UInt8) : Prop where
  len : MsgLen m
  nonce : 0 ≤ m.nonce ∧ m.nonce < 18446744073709551616
  log : m.log.length ≤ b.length
theorem wmsgF_all {b : List UInt8} {m : Msg} {M : List UInt8} (h : wmsgF b = some (m,M)) : MsgF b m M := by
  simp only [wmsgF,Option.bind_eq_some_iff,Option.map_eq_some_iff] at h
  obtain ⟨⟨k,b1⟩,h1,⟨sv,b2⟩,h2,⟨d,b3⟩,h3,⟨a1,b4⟩,h4,⟨a2,b5⟩,h5,⟨a3,b6⟩,h6,⟨a4,b7⟩,h7,⟨a5,b8⟩,h8,⟨nn,b9⟩,h9,⟨cl,b10⟩,h10,⟨sr,b11⟩,h11,⟨⟨o,r,g,s⟩,b12⟩,h12,⟨n,b13⟩,h13,⟨es,b14⟩,h14,h15⟩ := h
  dsimp only at *
  obtain ⟨rfl,rfl⟩ := Prod.mk.inj h15
  have q9 := wnumF_rng h9
  have e8 : (256 : Nat) ^ 8 = 18446744073709551616 := p256_8
  simp only [wprtF,Option.bind_eq_some_iff,Option.map_eq_some_iff] at h12
  obtain ⟨⟨pn,c1⟩,g1,⟨o',c2⟩,g2,⟨r',c3⟩,g3,⟨g',c4⟩,g4,⟨s',c5⟩,g5,g6⟩ := h12
  dsimp only at *
  cases g6
  have lo : lenOk o.data.length ∧ lenOk o.old.length ∧ c2.length ≤ c1.length := by
    unfold wpO at g2
    split at g2
    · obtain ⟨rfl,rfl⟩ := Prod.mk.inj (Option.some.inj g2); simp [zop]
    · simp only [Option.map_eq_some_iff] at g2
      obtain ⟨⟨o2,n2⟩,j1,j2⟩ := g2
      obtain ⟨rfl,rfl⟩ := Prod.mk.inj j2
      have := form_rng (decOp_ok j1)
      exact ⟨by unfold lenOk; dsimp only; omega,by unfold lenOk; dsimp only; omega,drop_len⟩
  have lr : lenOk r.data.length ∧ c3.length ≤ c2.length := by
    unfold wpR at g3
    split at g3
    · obtain ⟨rfl,rfl⟩ := Prod.mk.inj (Option.some.inj g3); simp [rz]
    · simp only [Option.map_eq_some_iff] at g3
      obtain ⟨⟨o2,n2⟩,j1,j2⟩ := g3
      obtain ⟨rfl,rfl⟩ := Prod.mk.inj j2
      have := decRes_len j1
      exact ⟨by unfold lenOk; dsimp only; omega,drop_len⟩
  have lg : g.members.length ≤ 17592186043904 ∧ c4.length ≤ c3.length := by
    unfold wpG at g4
    split at g4
    · obtain ⟨rfl,rfl⟩ := Prod.mk.inj (Option.some.inj g4); simp [zgr]
    · simp only [wgrpF,Option.bind_eq_some_iff,Option.map_eq_some_iff] at g4
      obtain ⟨⟨e1,d1⟩,j1,⟨e2,d2⟩,j2,⟨e3,d3⟩,j3,j4⟩ := g4
      obtain ⟨rfl,rfl⟩ := Prod.mk.inj j4
      have f1 := wsmF_rng j1
      have f2 := wnumF_rng j2
      have f3 := manyF_len j3
      have f4 := manyF_dec (fun t x v h => by have := wnum_lt h; omega) j3
      have e1 : (256 : Nat) ^ 1 = 256 := p256_1
      dsimp only at *
      omega
  have ls : SttLen s ∧ b12.length ≤ c4.length := by
    unfold wpS at g5
    split at g5
    · obtain ⟨rfl,rfl⟩ := Prod.mk.inj (Option.some.inj g5); exact ⟨zstLen,Nat.le_refl _⟩
    · simp only [Option.map_eq_some_iff] at g5
      obtain ⟨⟨o2,n2⟩,j1,j2⟩ := g5
      obtain ⟨rfl,rfl⟩ := Prod.mk.inj j2
      exact ⟨held_len (mstF_ok j1),drop_len⟩
  have f1 := wnum_lt h1
  have f2 := wnum_lt h2
  have f3 := wnum_lt h3
  have f4 := (wsmF_rng h4).2.2
  have f5 := (wsmF_rng h5).2.2
  have f6 := (wsmF_rng h6).2.2
  have f7 := (wsmF_rng h7).2.2
  have f8 := (wsmF_rng h8).2.2
  have f9 := wnum_lt h9
  have f10 := (wsmF_rng h10).2.2
  have f11 := (wsmF_rng h11).2.2
  have f12 := wnum_lt g1
  have f13 := wnum_lt h13
  have f14 := manyF_len h14
  have f15 := manyF_dec went_dec h14
  have f16 := wnumF_rng h13
  have e4 : (256 : Nat) ^ 4 = 4294967296 := p256_4
  try dsimp only at *
  exact ⟨⟨lo.1,lo.2.1,lr.1,lg.1,ls.1,by dsimp only; omega,fun e he => ent_len (manyF_all (P := entOk) (fun t x v h => went_ok h) h14 e he)⟩,by dsimp only; omega,by dsimp only; omega⟩
def At (b : List UInt8) (t : Nat) (L : List UInt8) : Prop := t ≤ b.length ∧ b.drop t = L
theorem At.zero (b : List UInt8) : At b 0 b := ⟨Nat.zero_le _,rfl⟩
theorem At.len {b : List UInt8} {t : Nat} {L : List UInt8} (h : At b t L) : t + L.length = b.length := by
  have := congrArg List.length h.2
  rw [List.length_drop] at this
  have := h.1
  omega
theorem At.step {b : List UInt8} {t : Nat} {x L : List UInt8} (h : At b t (x ++ L)) : At b (t + x.length) L ∧ seg b t (t + x.length) = x ∧ t + x.length ≤ b.length := by
  have hl := h.len
  rw [List.length_append] at hl
  have e : b.drop (t + x.length) = L := by rw [← List.drop_drop,h.2,List.drop_left]
  refine ⟨⟨by omega,e⟩,?_,by omega⟩
  have e2 : seg b t (t + x.length) = (b.drop t).take x.length := by rw [seg,List.drop_take]; congr 1; omega
  rw [e2,h.2,List.take_left]
theorem At.seg {b : List UInt8} {t : Nat} {L : List UInt8} (h : At b t L) : Go.Sx.seg b t b.length = L := by rw [seg_drop,h.2]
theorem At.num {b : List UInt8} {t n : Nat} {v : Int} {L : List UInt8} (h : At b t (leN n v.toNat ++ L)) (h0 : 0 ≤ v) (h1 : v.toNat < 256 ^ n) (h2 : v ≤ 4611686018427387904) : ∃ u,mnumF b t n = some (v,u) ∧ At b u L := by
  obtain ⟨g1,g2,g3⟩ := h.step
  rw [leN_length] at g1 g2 g3
  refine ⟨t + n,?_,g1⟩
  rw [mnumF,if_pos g3,getV,if_pos g3,getX,if_pos g3,g2,valN_leN _ _ h1,if_neg (by omega),show ((v.toNat : Nat) : Int) = v by omega]
theorem flZ_single (n : Nat) (x : Int) : flZ n [x] = leN n x.toNat := by simp [flZ]
theorem flZ_cons (n : Nat) (x : Int) (l : List Int) : flZ n (x :: l) = leN n x.toNat ++ flZ n l := by simp [flZ]
theorem flZ_nil (n : Nat) : flZ n [] = [] := rfl
theorem byI_le {x : Int} (h : 0 ≤ x) (h' : x < 256) : [byI x] = leN 1 x.toNat := by
  have : x.toNat % 256 = x.toNat := by omega
  simp [leN,byI,this]
theorem manyF_cons {α σ : Type} {f : σ → Option (α × σ)} {t u v : σ} {x : α} {xs : List α} (hx : f t = some (x,u)) : ∀ {k : Nat} {xs : List α} {v : σ},manyF f u k = some (xs,v) → manyF f t (k + 1) = some (x :: xs,v)
  | 0,xs,v,h => by
    obtain ⟨rfl,rfl⟩ := Prod.mk.inj (Option.some.inj h)
    simp [manyF,hx]
  | k + 1,xs,v,h => by
    rw [manyF] at h
    simp only [Option.bind_eq_some_iff,Option.map_eq_some_iff] at h
    obtain ⟨⟨ys,w⟩,h1,⟨y,z⟩,h2,h3⟩ := h
    have ih := manyF_cons (f := f) (t := t) (u := u) (v := v) (x := x) (xs := xs) hx h1
    obtain ⟨rfl,rfl⟩ := Prod.mk.inj h3
    rw [manyF,ih]
    simp [h2]
theorem manyF_enc {α σ : Type} {f : σ → Option (α × σ)} {enc : α → List UInt8} (I : σ → List UInt8 → Prop) (L : List UInt8) : ∀ {xs : List α} {t : σ},(∀ x ∈ xs,∀ t L,I t (enc x ++ L) → ∃ u,f t = some (x,u) ∧ I u L) → I t (xs.flatMap enc ++ L) → ∃ u,manyF f t xs.length = some (xs,u) ∧ I u L
  | [],t,_,h => ⟨t,rfl,h⟩
  | x :: xs,t,hf,h => by
    rw [List.flatMap_cons,List.append_assoc] at h
    obtain ⟨u,h1,h2⟩ := hf x (List.mem_cons_self ..) t _ h
    obtain ⟨v,h3,h4⟩ := manyF_enc I L (xs := xs) (fun y hy => hf y (List.mem_cons_of_mem _ hy)) h2
    exact ⟨v,manyF_cons (v := v) (xs := xs) h1 h3,h4⟩
theorem numS_at {b : List UInt8} {t n v : Nat} {L : List UInt8} (h : At b t (leN n v ++ L)) (h1 : v < 256 ^ n) : numS b t 0 n = (v,t + n,0) ∧ At b (t + n) L := by
  obtain ⟨g1,g2,g3⟩ := h.step
  rw [leN_length] at g1 g2 g3
  refine ⟨?_,g1⟩
  rw [numS,if_pos rfl,if_pos g3,g2,valN_leN _ _ h1]
theorem txF_at {b : List UInt8} {t : Nat} {d L : List UInt8} (h : At b t (leN 4 d.length ++ (d ++ L))) (h1 : d.length ≤ 16777216) : txF b t = (d,t + 4 + d.length,0) ∧ At b (t + 4 + d.length) L := by
  obtain ⟨g1,g2,g3⟩ := h.step
  rw [leN_length] at g1 g2 g3
  obtain ⟨g4,g5,g6⟩ := g1.step
  have e : valN (leN 4 d.length) = d.length := valN_leN _ _ (by rw [p256_4]; omega)
  refine ⟨?_,g4⟩
  rw [txF,if_pos g3,g2,e,if_pos h1,if_pos g6,g5]
theorem txS_at {b : List UInt8} {t : Nat} {d L : List UInt8} (h : At b t (leN 4 d.length ++ (d ++ L))) (h1 : d.length ≤ 16777216) : txS b t 0 = (d,t + 4 + d.length,0) ∧ At b (t + 4 + d.length) L := by
  obtain ⟨g1,g2⟩ := txF_at h h1
  refine ⟨?_,g2⟩
  rw [txS,if_pos rfl,g1,if_pos rfl]
theorem decOp_at {b : List UInt8} {o : OpD} {L : List UInt8} (h : b = opB o ++ L) (hf : formD o) : ∃ u,decOp b = some (o,u) ∧ At b u L := by
  obtain ⟨r1,r2,r3,r4,r5,r6,r7,r8⟩ := form_rng hf
  have h0 := At.zero b
  rw [show At b 0 b = At b 0 (leN 1 o.kind.toNat ++ (leN 4 o.at_.toNat ++ (leN 4 o.n.toNat ++ (leN 4 o.data.length ++ (o.data ++ (leN 4 o.old.length ++ (o.old ++ L))))))) from by
    conv => lhs; rw [show b = opB o ++ L from h]
    rw [h,opB,byI_le (by omega) (by omega)]; simp [flI,List.append_assoc]] at h0
  obtain ⟨e1,h1⟩ := numS_at h0 (by rw [p256_1]; omega)
  obtain ⟨e2,h2⟩ := numS_at h1 (by rw [p256_4]; omega)
  obtain ⟨e3,h3⟩ := numS_at h2 (by rw [p256_4]; omega)
  obtain ⟨e4,h4⟩ := txS_at h3 (by omega)
  obtain ⟨e5,h5⟩ := txS_at h4 (by omega)
  refine ⟨_,?_,h5⟩
  have eo : (⟨((o.kind.toNat : Nat) : Int),((o.at_.toNat : Nat) : Int),((o.n.toNat : Nat) : Int),o.data,o.old⟩ : OpD) = o := by
    rw [show ((o.kind.toNat : Nat) : Int) = o.kind by omega,show ((o.at_.toNat : Nat) : Int) = o.at_ by omega,show ((o.n.toNat : Nat) : Int) = o.n by omega]
  have hS := decOpS_eq e1 e2 e3 e4 e5
  rw [eo] at hS
  rw [decOp,hS]
  exact if_pos ⟨rfl,(formE_iff ..).2 hf⟩
theorem decRes_at {b : List UInt8} {r : Res} {L : List UInt8} (h : b = resB r ++ L) (hf : resOk r.code r.data.length = true) : ∃ u,decRes b = some (r,u) ∧ At b u L := by
  obtain ⟨r1,r2,r3⟩ := res_rng hf
  have h0 := At.zero b
  have hb : b = leN 1 r.code.toNat ++ (leN 4 r.data.length ++ (r.data ++ L)) := by rw [h,resB,byI_le (by omega) (by omega)]; simp [List.append_assoc]
  have h0 : At b 0 (leN 1 r.code.toNat ++ (leN 4 r.data.length ++ (r.data ++ L))) := ⟨Nat.zero_le _,hb⟩
  obtain ⟨e1,h1⟩ := numS_at h0 (by rw [p256_1]; omega)
  obtain ⟨e2,h2⟩ := txS_at h1 (by omega)
  refine ⟨_,?_,h2⟩
  have eo : (⟨((r.code.toNat : Nat) : Int),r.data⟩ : Res) = r := by rw [show ((r.code.toNat : Nat) : Int) = r.code by omega]
  have hS := decResS_eq e1 e2
  rw [eo] at hS
  rw [decRes,hS]
  exact if_pos ⟨rfl,hf⟩
theorem mgrpF_at {b : List UInt8} {t : Nat} {g : Grp} {L : List UInt8} (h : At b t (grpB g ++ L)) (hg : groupOk g.epoch g.members = true) : ∃ u,mgrpF b t = some (g,u) ∧ At b u L := by
  obtain ⟨r1,r2,r3,r4,r5⟩ := grp_rng hg
  simp only [grpB,flZ_single,List.append_assoc] at h
  obtain ⟨u1,e1,h1⟩ := h.num r4 (by rw [p256_8]; omega) r5
  obtain ⟨u2,e2,h2⟩ := h1.num (by omega) (by rw [p256_1]; omega) (by omega)
  obtain ⟨u3,e3,h3⟩ := manyF_enc (f := fun t => mnumF b t 1) (enc := fun x : Int => leN 1 x.toNat) (At b) L (xs := g.members) (fun x hx t L h => by
    have := r1 x hx
    exact h.num (by omega) (by rw [p256_1]; omega) (by omega)) h2
  refine ⟨u3,?_,h3⟩
  simp only [mgrpF,e1,e2,Option.bind_some]
  rw [show ((g.members.length : Nat) : Int).toNat = g.members.length from rfl,e3]
  rfl
theorem At.here {b : List UInt8} {t u : Nat} {M L : List UInt8} (h : At b t M) (hu : At M u L) : At b (t + u) L := by
  have h1 := h.len
  have h2 := hu.len
  exact ⟨by omega,by rw [← List.drop_drop,h.2,hu.2]⟩
theorem mentF_at {b : List UInt8} {t : Nat} {e : Entry} {L : List UInt8} (h : At b t (entB e ++ L)) (he : entOk e) : ∃ u,mentF b t = some (e,u) ∧ At b u L := by
  obtain ⟨r1,r2,r3,r4,r5,r6,r7⟩ := ent_rng he
  have e8 : (256 : Nat) ^ 8 = 18446744073709551616 := p256_8
  simp only [entB,flZ_cons,flZ_nil,byI_le (show 0 ≤ e.kind by omega) (show e.kind < 256 by omega),List.append_assoc,List.nil_append] at h
  obtain ⟨u1,e1,h1⟩ := h.num (by omega) (by rw [p256_1]; omega) (by omega)
  obtain ⟨u2,e2,h2⟩ := h1.num (by omega) (by omega) (by omega)
  obtain ⟨u3,e3,h3⟩ := h2.num (by omega) (by omega) (by omega)
  obtain ⟨u4,e4,h4⟩ := h3.num (by omega) (by omega) (by omega)
  obtain ⟨u5,e5,h5⟩ := h4.num (by omega) (by omega) (by omega)
  have fin : ∀ u,mentB b e.kind e.num e.view e.client e.serial u5 = some (e,u) → mentF b t = some (e,u) := fun u hu => by
    simp only [mentF,e1,e2,e3,e4,e5,Option.bind_some,hu,mentC]
    exact if_pos (if_pos he)
  obtain ⟨_,_,_,_,hk⟩ := he
  rcases hk with ⟨k1,k2,k3,k4⟩ | ⟨k1,k2,k3,_⟩
  · rw [if_neg (by omega)] at h5
    obtain ⟨u6,e6,h6⟩ := decOp_at (show Go.Sx.seg b u5 b.length = opB e.op ++ L from h5.seg) k2
    refine ⟨u5 + u6,fin _ ?_,?_⟩
    · rw [mentB,if_pos k1,e6]
      have : e.grp = zgr := by
        have hm : e.grp.members = [] := List.eq_nil_of_length_eq_zero k4
        rw [gr_ext]; exact ⟨k3,hm⟩
      show some (_,_) = some (_,_)
      rw [← this]
    · rw [h5.seg] at h6; exact h5.here h6
  · rw [if_pos (by omega)] at h5
    obtain ⟨u6,e6,h6⟩ := mgrpF_at h5 k3
    refine ⟨u6,fin _ ?_,h6⟩
    rw [mentB,if_neg (by omega),if_pos k1,e6]
    show some (_,_) = some (_,_)
    rw [← k2]
theorem mpgF_at {b : List UInt8} {p : Page} (hp : 0 ≤ p.at_ ∧ p.at_ ≤ 4096 ∧ 1 ≤ p.ver ∧ p.ver ≤ 4611686018427387904 ∧ p.data.length ≤ 4096) (t : Nat) (L : List UInt8) (h : At b t (pgB p ++ L)) : ∃ u,mpgF b t = some (p,u) ∧ At b u L := by
  have e8 : (256 : Nat) ^ 8 = 18446744073709551616 := p256_8
  have e4_ : (256 : Nat) ^ 4 = 4294967296 := p256_4
  simp only [pgB,flZ_single,List.append_assoc] at h
  obtain ⟨u1,e1,h1⟩ := h.num (by omega) (by omega) (by omega)
  obtain ⟨u2,e2,h2⟩ := h1.num (by omega) (by omega) (by omega)
  obtain ⟨e3,h3⟩ := txF_at h2 (by omega)
  refine ⟨_,?_,h3⟩
  simp only [mpgF,e1,e2,Option.bind_some,mtxF,e3,if_true,Option.map_some]
theorem mrowF_at {b : List UInt8} {r : Row} (hr : (1 ≤ r.client ∧ r.client ≤ 4611686018427387904) ∧ (1 ≤ r.serial ∧ r.serial ≤ 4611686018427387904) ∧ resOk r.result.code r.result.data.length = true) (t : Nat) (L : List UInt8) (h : At b t (rowBy r ++ L)) : ∃ u,mrowF b t = some (r,u) ∧ At b u L := by
  have e8 : (256 : Nat) ^ 8 = 18446744073709551616 := p256_8
  simp only [rowBy,flZ_cons,flZ_nil,List.append_assoc,List.nil_append] at h
  obtain ⟨u1,e1,h1⟩ := h.num (by omega) (by omega) (by omega)
  obtain ⟨u2,e2,h2⟩ := h1.num (by omega) (by omega) (by omega)
  obtain ⟨u3,e3,h3⟩ := decRes_at (show Go.Sx.seg b u2 b.length = resB r.result ++ L from h2.seg) hr.2.2
  refine ⟨u2 + u3,?_,?_⟩
  · simp only [mrowF,e1,e2,Option.bind_some,e3,Option.map_some]
  · rw [h2.seg] at h3; exact h2.here h3
theorem mstF_at {b : List UInt8} {t : Nat} {s : Stt} {L : List UInt8} (h : At b t (sttB s ++ L)) (hs : heldOk s) (hb : b.length ≤ 33554432) : ∃ u,mstF b t = some (s,u) ∧ At b u L := by
  have r := held_rng hs
  have e8 : (256 : Nat) ^ 8 = 18446744073709551616 := p256_8
  have e4_ : (256 : Nat) ^ 4 = 4294967296 := p256_4
  have q1 := r.num
  have q2 := r.bl
  have q3 := r.sz
  have q4 := r.pl
  have q5 := r.rl
  simp only [sttB,sttH,flZ_cons,flZ_nil,byI_le (show 0 ≤ (s.rows.length : Int) by omega) (show (s.rows.length : Int) < 256 by omega),List.append_assoc,List.nil_append] at h
  obtain ⟨u1,e1,h1⟩ := h.num (by omega) (by omega) (by omega)
  obtain ⟨u2,e2,h2⟩ := h1.num (by omega) (by omega) (by omega)
  obtain ⟨u3,e3,h3⟩ := h2.num (by omega) (by omega) (by omega)
  obtain ⟨u4,e4,h4⟩ := h3.num (by omega) (by omega) (by omega)
  obtain ⟨u5,e5,h5⟩ := manyF_enc (f := mpgF b) (enc := pgB) (At b) _ (xs := s.pages) (fun x hx t L h => mpgF_at (r.pg x hx) t L h) h4
  obtain ⟨u6,e6,h6⟩ := h5.num (by omega) (by rw [p256_1]; omega) (by omega)
  obtain ⟨u7,e7,h7⟩ := manyF_enc (f := mrowF b) (enc := rowBy) (At b) _ (xs := s.rows) (fun x hx t L h => mrowF_at (r.rw_ x hx) t L h) h6
  obtain ⟨u9,e9,h9⟩ := mgrpF_at h7 r.gr
  refine ⟨u9,?_,h9⟩
  simp only [mstF,e1,e2,e3,e4,Option.bind_some]
  rw [show ((s.pages.length : Nat) : Int).toNat = s.pages.length from rfl,e5]
  simp only [Option.bind_some,e6]
  rw [show ((s.rows.length : Nat) : Int).toNat = s.rows.length from rfl,e7]
  simp only [Option.bind_some,e9,mstC]
  exact if_pos ⟨hs,Nat.le_trans h9.1 hb⟩
theorem rd_fr0 {F B : List UInt8} (hF : F = frameB B) (hB : B.length ≤ 16777216) : rdN F = B.length ∧ rdE F = 0 ∧ (gt F 2).toNat = 4 ∧ valN (seg F 4 12) = 0 ∧ seg F 16 (B.length + 16) = B := by
  have hl : F.length = B.length + 20 := by rw [hF,frameB_len]
  have hn : rdN F = B.length := rdN_frame hF hB (fun i _ _ => rfl) (by omega)
  have hh : (headB B).length = B.length + 16 := headB_len B
  have h0 : gt F 0 = 80 ∧ gt F 1 = 76 ∧ gt F 2 = 4 ∧ gt F 3 = 0 := by rw [hF]; exact ⟨rfl,rfl,rfl,rfl⟩
  have e1 : seg F 0 (B.length + 16) = headB B := by
    rw [hF,frameB,sealB,seg,List.drop_zero,List.take_append_of_le_length (by omega),← hh,List.take_length]
  have e2 : seg F 0 (B.length + 20) = F := by rw [← hl]; exact seg_all F
  refine ⟨hn,?_,by rw [h0.2.2.1]; rfl,?_,?_⟩
  · rw [rdE,if_neg (by omega),if_neg (by rw [hn,h0.1,h0.2.1,h0.2.2.2]; exact fun h => h ⟨rfl,rfl,rfl,hB⟩),if_neg (by omega),if_neg (by rw [hn,e1,e2,hF]; exact fun h => h rfl)]
  · rw [hF]; rfl
  · have : seg F 16 (B.length + 16) = (headB B).drop 16 := by rw [← e1]; simp [seg]
    rw [this]; rfl
theorem rd_fr {F B : List UInt8} (hF : F = frameB B) (hB : B.length ≤ 16777216) {k s : Int} {bd : List UInt8} {n : Int} (h : rdR F k s bd n) : k = 4 ∧ s = 0 ∧ B = bd ∧ n = ((B.length + 20 : Nat) : Int) := by
  obtain ⟨g1,g2,g3,g4,g5⟩ := rd_fr0 hF hB
  obtain ⟨h1,h2,h3,h4,_⟩ := h g2
  rw [g3] at h1
  rw [g4] at h2
  rw [g1,g5] at h3
  rw [g1] at h4
  exact ⟨h1,h2,h3.symm,h4⟩
theorem recW_ct (p4 p5 : Nat) : CtR Tryz.prog 48 [.pointer (some ⟨p4,0,none⟩),.pointer (some ⟨p5,0,none⟩)] [.cells p4 (msgL zms ⟨none,0,none,0,none,0,none,0,none,0,none,0,none,0,none,0⟩) 64,.cells p5 [.int .i64 0] 68] [] wFt
    (fun u G Q => u = .tuple #[] ∧ G = [.cells p4 (msgL zms ⟨none,0,none,0,none,0,none,0,none,0,none,0,none,0,none,0⟩) 64,.cells p5 [.int .i64 160] 68] ∧ Q = []) := by
  refine CtR.intro Tryz.func48 rfl rfl rfl rfl rfl (fun c hc => ?_)
  refine GC.seq' ?_
  refine GC.seq' ?_
  refine GC.region ?_
  refine GL.pure rfl (p_move rfl) ?_
  refine GL.pure rfl (p_ifNil rfl Tryz.underlying20) ?_
  refine GL.nil (?_ : GC _ _ _ _)
  refine GC.cond_false rfl ?_
  refine GC.skip (?_ : GC _ _ _ _)
  refine GC.seq' ?_
  refine GC.seq' ?_
  refine GC.region ?_
  refine GL.pure rfl (p_move rfl) ?_
  refine GL.pure rfl (p_assert rfl Tryz.underlying128 (fun m h => by cases h)) ?_
  refine GL.pure rfl (p_move rfl) ?_
  refine GL.pure rfl (p_extract rfl rfl) ?_
  refine GL.pure rfl (p_extract rfl rfl) ?_
  refine GL.step rfl (t_alloc rfl ze_128) (GL.ex fun b_t3 => ?_)
  refine GL.step rfl (t_storeN (i := 0) rfl rfl rfl sz_128 rfl rfl rfl) ?_
  refine GL.pure rfl (p_assign rfl) ?_
  refine GL.nil (?_ : GC _ _ _ _)
  refine GC.seq' ?_
  refine GC.region ?_
  refine GL.pure rfl (p_move rfl) ?_
  refine GL.pure rfl (p_not rfl) ?_
  refine GL.nil (?_ : GC _ _ _ _)
  refine GC.cond_false rfl ?_
  refine GC.skip (?_ : GC _ _ _ _)
  refine GC.region ?_
  refine GL.pure rfl (p_build ze_64 of_64 rfl rfl) ?_
  refine GL.step rfl (t_storeN (i := 1) rfl rfl rfl sz_64 rfl rfl rfl) ?_
  refine GL.step rfl (t_store (i := 2) rfl rfl rfl rfl sz_68 rfl rfl rfl) ?_
  refine GL.nil ?_
  refine fun a w h => Fin.back0 rfl (is := [1,1]) (js := []) rfl rfl ?_ h
  clear h
  exact ⟨rfl,rfl,rfl⟩
def wdecF (B : List UInt8) : Option Msg := (wmsgF B).bind fun r => if r.2 = [] ∧ msgOk r.1 ∧ bodyB r.1 = B then some r.1 else none
abbrev DecM (x : Option Msg) (u : Value) (G : List Own) (Q : List Pers) : Prop := ∃ (m : Msg) (s : Lie) (k : Int),((k = 0 → x = some m) ∧ (k ≠ 0 → x = none ∧ m = zms ∧ k = 160)) ∧ u = .tuple #[msgV m s,.int .i64 k] ∧ G = [] ∧ Q = msgQ m s
theorem zq60_ {X : Prop} (h : X := by (exact ⟨zms,⟨none,0,none,0,none,0,none,0,none,0,none,0,none,0,none,0⟩,160,⟨fun h => absurd h (by decide),fun _ => ⟨by rw [wdecF,hs43,Option.bind_some]; exact if_neg (fun hh => by have h0 := congrArg List.length hh.1; simp only [List.length_nil] at h0; first | omega | exact absurd (msgE_yes hh.2.1) (by assumption)),rfl,rfl⟩⟩,rfl,rfl,rfl⟩)) : X := h
theorem zq61_ {X : Prop} (h : X := by (exact ⟨zms,⟨none,0,none,0,none,0,none,0,none,0,none,0,none,0,none,0⟩,160,⟨fun h => absurd h (by decide),fun _ => ⟨by rw [wdecF,hs43,Option.bind_some]; exact if_neg (fun hh => by first | exact absurd hh.2.2 (by assumption) | exact hlen (by rw [hh.2.2]; exact hB)),rfl,rfl⟩⟩,rfl,rfl,rfl⟩)) : X := h
theorem wdec_ct (A : Option Addr) (B F : List UInt8) (cp : Nat) (hF : F = frameB B) (hB : B.length ≤ 16777216) (hlog : ∀ m M,wmsgF B = some (m,M) → m.log.length < 100000) (hcp : F.length ≤ cp) (hcp' : cp ≤ 9223372036854775807) : Ct Tryz.prog 24 [.slice A F.length cp] [] [Pers.row Kd.u8 A F] (DecM (wdecF B)) := by
 have hfl : F.length = B.length + 20 := by rw [hF,frameB_len]
 refine Ct.introD Tryz.func24 rfl rfl rfl (fun c hc hcD => ?_)
 refine GC.sr_ ?_;refine GL.step rfl (t_alloc rfl ze_64) (GL.ex fun b_t2 => ?_);refine GL.step rfl (t_alloc rfl ze_68) (GL.ex fun b_t3 => ?_);refine GL.nl_ ?_;refine GC.sr_ ?_;refine GL.know (q := Pers.row Kd.u8 none []) (fun _ _ _ => .inl rfl) ?_
 refine GL.know (q := Pers.row kI none []) (fun _ _ _ => .inl rfl) ?_;refine GL.know (q := Pers.row kPage none []) (fun _ _ _ => .inl rfl) ?_;refine GL.know (q := Pers.row kRow none []) (fun _ _ _ => .inl rfl) ?_;refine GL.know (q := Pers.row kEntry none []) (fun _ _ _ => .inl rfl) ?_
 refine GL.rn 1 ?_;refine GL.cl Tryz.call47 [] [5] rfl rfl rfl (by exact fread_ct _ F _ (by omega) hcp hcp') ?_
 rintro _ _ _ ⟨k13,s13,A13,bd13,cp13,n13,l13,c13,hr13,rfl,rfl,rfl⟩
 obtain ⟨rfl,rfl,rfl,rfl⟩ := rd_fr hF hB hr13
 rw [(rd_fr0 hF hB).2.1]
 refine GL.rn 4 ?_;refine GL.step rfl (t_alloc rfl ze_121) (GL.ex fun b_t4 => ?_);refine GL.sn_ 0 ?_;refine GL.rz 2 ?_;refine GC.seq' ?_;refine GC.rg 2 ?_;refine GC.cond_false rfl ?_
 refine GC.skip (?_ : GC _ _ _ _)
 refine GC.seq' ?_;refine GC.rr 5 ?_;refine GL.sp 25 ?_ ?_
 ·intro h1; try simp only [tst_] at h1
  exfalso; exact h1 (by omega)
 intro h1; try simp only [tst_] at h1
 refine GL.rn 1 ?_;refine GL.dg_ 0 ?_;refine GL.rn 3 ?_;refine GL.sp 30 ?_ ?_
 ·intro h2; try simp only [tst_] at h2
  exfalso; exact h2 trivial
 intro h2; try simp only [tst_] at h2
 refine GL.rn 1 ?_;refine GL.dg_ 0 ?_;refine GL.rz 2 ?_;refine GC.co ?_ ?_
 ·intro h3; try simp only [tst_] at h3
  exfalso; exact h3 trivial
 intro h3; try simp only [tst_] at h3
 refine GC.skip (?_ : GC _ _ _ _)
 refine GC.sr_ ?_;refine GL.pure rfl (p_makeFunc rfl rfl) ?_;refine GL.defer (f := 48) (us := [_,_]) hcD rfl ?_;refine GL.nr 1 ?_;refine GL.ld_ 0 ?_;refine GL.pure rfl (p_build ze_132 of_132 rfl rfl) ?_;refine GL.pure rfl (p_build ze_134 of_134 rfl rfl) ?_
 refine GL.step rfl (t_box rfl rfl rfl) (GL.ex fun b_t41 => ?_);refine GL.rz 1 ?_;refine GC.rr 1 ?_;refine GL.callP rfl Tryz.call49 rfl (is := [0]) (js := [0]) rfl rfl (by exact wmsg_ct _ _ _ B _ l13 c13 (by omega)) (fun v a w he h => by obtain ⟨rfl,hno⟩ := he; exact FinD.catch Tryz.call48 (recW_ct _ _) (isC := [2,1]) (jsC := []) rfl rfl (fun u G2 Q2 a w hR h => by obtain ⟨rfl,rfl,rfl⟩ := hR; exact Fin.back (rs := [.cell 2 64,.cell 3 68]) (vs := [_,_]) (is := []) (js := [4,4,4,3,2,1,3,0]) rfl ⟨⟨0,_,_,_,_,rfl,rfl,.inr ⟨[_,_,_,_,_,_,_,_,_,_,_,_,_,_,_,_,_,_,_,_,_,_,_,_,_,_,_,_],rfl,ag_64,sz_64,⟨rfl,rfl,rfl,rfl,rfl,rfl,rfl,rfl,rfl,rfl,rfl,rfl,rfl,rfl,rfl,rfl,rfl,rfl,rfl,rfl,rfl,rfl,rfl,rfl,rfl,rfl,rfl,rfl,trivial⟩⟩⟩,⟨1,_,_,_,_,rfl,rfl,.inl ⟨ag_68,rfl⟩⟩,trivial⟩ rfl rfl (by exact ⟨zms,⟨none,0,none,0,none,0,none,0,none,0,none,0,none,0,none,0⟩,160,⟨fun h => absurd h (by decide),fun _ => ⟨by rw [wdecF,hno]; rfl,rfl,rfl⟩⟩,rfl,rfl,rfl⟩) (((((h.know (q := Pers.row Kd.u8 none []) (fun _ _ _ => .inl rfl)).know (q := Pers.row kI none []) (fun _ _ _ => .inl rfl)).know (q := Pers.row kPage none []) (fun _ _ _ => .inl rfl)).know (q := Pers.row kRow none []) (fun _ _ _ => .inl rfl)).know (q := Pers.row kEntry none []) (fun _ _ _ => .inl rfl))) h) (GL.ret ?_)
 rintro _ _ _ ⟨m43,s43,L43,A43,c43,hs43,l43,k43,rfl,rfl,rfl⟩
 have hM := wmsgF_all hs43
 refine GL.step rfl (t_alloc rfl ze_64) (GL.ex fun b_t8 => ?_);refine GL.sn_ 0 ?_;refine GL.nl_ ?_;refine GC.seq' ?_;refine GC.rr 4 ?_;refine GL.ld_ 1 ?_;refine GL.rn 3 ?_;refine GL.sp 51 ?_ ?_
 ·intro h4; try simp only [tst_] at h4
  refine GL.rz 4 ?_;refine GC.cond_true rfl ?_;refine GC.sr_ ?_;refine GL.pure rfl (p_build ze_64 of_64 rfl rfl) ?_;refine GL.sn_ 4 ?_;refine GL.so_ 3 ?_;refine GL.nl_ ?_;refine GC.ret ?_
  refine fun a w h => FinD.back1 Tryz.call48 (decode_idle _ _) (rs := [.cell 2 64,.cell 3 68]) (vs := [_,_]) (is := []) (js := [14,14,14,13,12,11,13,10]) rfl ⟨⟨4,_,_,_,_,rfl,rfl,.inr ⟨[_,_,_,_,_,_,_,_,_,_,_,_,_,_,_,_,_,_,_,_,_,_,_,_,_,_,_,_],rfl,ag_64,sz_64,⟨rfl,rfl,rfl,rfl,rfl,rfl,rfl,rfl,rfl,rfl,rfl,rfl,rfl,rfl,rfl,rfl,rfl,rfl,rfl,rfl,rfl,rfl,rfl,rfl,rfl,rfl,rfl,rfl,trivial⟩⟩⟩,⟨3,_,_,_,_,rfl,rfl,.inl ⟨ag_68,rfl⟩⟩,trivial⟩ rfl rfl ?_ h
  clear h
  exact zq60_
 intro h4; try simp only [tst_] at h4
 refine GL.lg_ 0 28 ?_;refine GL.stepG rfl (s := 51) rfl rfl (t_call rfl Tryz.call41 rfl (is := []) (js := (up 0 8)) rfl rfl (by exact wchk_ct m43 s43 hM.len)) (GL.ret ?_)
 rintro _ _ _ ⟨rfl,rfl,rfl⟩
 refine GL.rz 2 ?_;refine GC.co ?_ ?_
 ·intro h5; try simp only [tst_] at h5
  refine GC.sr_ ?_;refine GL.pure rfl (p_build ze_64 of_64 rfl rfl) ?_;refine GL.sn_ 4 ?_;refine GL.so_ 3 ?_;refine GL.nl_ ?_;refine GC.ret ?_
  refine fun a w h => FinD.back1 Tryz.call48 (decode_idle _ _) (rs := [.cell 2 64,.cell 3 68]) (vs := [_,_]) (is := []) (js := [14,14,14,13,12,11,13,10]) rfl ⟨⟨4,_,_,_,_,rfl,rfl,.inr ⟨[_,_,_,_,_,_,_,_,_,_,_,_,_,_,_,_,_,_,_,_,_,_,_,_,_,_,_,_],rfl,ag_64,sz_64,⟨rfl,rfl,rfl,rfl,rfl,rfl,rfl,rfl,rfl,rfl,rfl,rfl,rfl,rfl,rfl,rfl,rfl,rfl,rfl,rfl,rfl,rfl,rfl,rfl,rfl,rfl,rfl,rfl,trivial⟩⟩⟩,⟨3,_,_,_,_,rfl,rfl,.inl ⟨ag_68,rfl⟩⟩,trivial⟩ rfl rfl ?_ h
  clear h
  exact zq60_
 intro h5; try simp only [tst_] at h5
 refine GC.skip (?_ : GC _ _ _ _)
 iterate 2 refine GC.seq' ?_
 have hok : msgOk m43 := by rw [← msgE_iff]; assumption
 by_cases hlen : (bodyB m43).length ≤ 16777216
 ·skip
  refine GC.region ?_;refine GL.ln_ 0 28 ?_;refine GL.cl Tryz.call42 [] (up 0 8) rfl rfl rfl (by exact wbodyo_ok m43 s43 hM.len hok hM.nonce (hlog _ _ hs43) hlen) ?_
  rintro _ _ _ ⟨A59,cp59,l59,k59,rfl,rfl,rfl⟩
  refine GL.rn 5 ?_
  refine GL.nil (?_ : GC _ _ _ _)
  refine GC.rr 5 ?_;refine GL.dg_ 3 ?_;refine GL.freezeB (i := 0) rfl ?_;refine GL.stepG rfl (s := 64) rfl rfl (t_call rfl Tryz.call50 rfl (is := []) (js := [0,10]) rfl rfl (by exact equal_ct _ (bodyB m43) _ _ B _)) (GL.ret ?_)
  rintro _ _ _ ⟨rfl,rfl,rfl⟩
  refine GL.rz 2 ?_;refine GC.co ?_ ?_
  ·intro h6; try simp only [tst_] at h6
   refine GC.sr_ ?_;refine GL.pure rfl (p_build ze_64 of_64 rfl rfl) ?_;refine GL.sn_ 4 ?_;refine GL.so_ 3 ?_;refine GL.nl_ ?_;refine GC.ret ?_
   refine fun a w h => FinD.back1 Tryz.call48 (decode_idle _ _) (rs := [.cell 2 64,.cell 3 68]) (vs := [_,_]) (is := []) (js := [15,15,15,14,13,12,14,11]) rfl ⟨⟨4,_,_,_,_,rfl,rfl,.inr ⟨[_,_,_,_,_,_,_,_,_,_,_,_,_,_,_,_,_,_,_,_,_,_,_,_,_,_,_,_],rfl,ag_64,sz_64,⟨rfl,rfl,rfl,rfl,rfl,rfl,rfl,rfl,rfl,rfl,rfl,rfl,rfl,rfl,rfl,rfl,rfl,rfl,rfl,rfl,rfl,rfl,rfl,rfl,rfl,rfl,rfl,rfl,trivial⟩⟩⟩,⟨3,_,_,_,_,rfl,rfl,.inl ⟨ag_68,rfl⟩⟩,trivial⟩ rfl rfl ?_ h
   clear h
   exact zq61_
  intro h6; try simp only [tst_] at h6
  refine GC.skip (?_ : GC _ _ _ _)
  refine GC.sr_ ?_;refine GL.ln_ 0 28 ?_;refine GL.sn_ 4 ?_;refine GL.so_ 3 ?_;refine GL.nl_ ?_;refine GC.ret ?_
  refine fun a w h => FinD.back1 Tryz.call48 (decode_idle _ _) (rs := [.cell 2 64,.cell 3 68]) (vs := [_,_]) (is := []) (js := (up 1 8)) rfl ⟨⟨4,_,_,_,_,rfl,rfl,.inr ⟨[_,_,_,_,_,_,_,_,_,_,_,_,_,_,_,_,_,_,_,_,_,_,_,_,_,_,_,_],rfl,ag_64,sz_64,⟨rfl,rfl,rfl,rfl,rfl,rfl,rfl,rfl,rfl,rfl,rfl,rfl,rfl,rfl,rfl,rfl,rfl,rfl,rfl,rfl,rfl,rfl,rfl,rfl,rfl,rfl,rfl,rfl,trivial⟩⟩⟩,⟨3,_,_,_,_,rfl,rfl,.inl ⟨ag_68,rfl⟩⟩,trivial⟩ rfl rfl ?_ h
  clear h
  exact ⟨m43,s43,0,⟨fun _ => by rw [wdecF,hs43,Option.bind_some]; exact if_pos ⟨List.eq_nil_of_length_eq_zero (by show L43.length = 0; omega),hok,by assumption⟩,fun h => absurd rfl h⟩,rfl,rfl,rfl⟩
 skip
 refine GC.region ?_;refine GL.ln_ 0 28 ?_;refine GL.cl Tryz.call42 [] (up 0 8) rfl rfl rfl (by exact wbodyo_long m43 s43 hM.len hok hM.nonce (hlog _ _ hs43) hlen) ?_
 rintro _ _ _ ⟨⟨A59,n59,cp59,rfl⟩,rfl,rfl⟩
 refine GL.rn 5 ?_
 refine GL.nil (?_ : GC _ _ _ _)
 refine GC.rr 6 ?_
 skip
 refine GL.rz 3 ?_;refine GC.cond_true rfl ?_;refine GC.sr_ ?_;refine GL.pure rfl (p_build ze_64 of_64 rfl rfl) ?_;refine GL.sn_ 4 ?_;refine GL.so_ 3 ?_;refine GL.nl_ ?_;refine GC.ret ?_
 refine fun a w h => FinD.back1 Tryz.call48 (decode_idle _ _) (rs := [.cell 2 64,.cell 3 68]) (vs := [_,_]) (is := []) (js := [14,14,14,13,12,11,13,10]) rfl ⟨⟨4,_,_,_,_,rfl,rfl,.inr ⟨[_,_,_,_,_,_,_,_,_,_,_,_,_,_,_,_,_,_,_,_,_,_,_,_,_,_,_,_],rfl,ag_64,sz_64,⟨rfl,rfl,rfl,rfl,rfl,rfl,rfl,rfl,rfl,rfl,rfl,rfl,rfl,rfl,rfl,rfl,rfl,rfl,rfl,rfl,rfl,rfl,rfl,rfl,rfl,rfl,rfl,rfl,trivial⟩⟩⟩,⟨3,_,_,_,_,rfl,rfl,.inl ⟨ag_68,rfl⟩⟩,trivial⟩ rfl rfl ?_ h
 clear h
 exact zq61_
theorem wnum_app {n v : Nat} {L : List UInt8} (h : v < 256 ^ n) : wnumF n (leN n v ++ L) = some ((v : Int),L) := by
  have hl := leN_length n v
  have e1 : seg (leN n v ++ L) 0 n = leN n v := by rw [seg,List.drop_zero,List.take_append_of_le_length (by omega)]; exact List.take_of_length_le (by omega)
  have e2 : (leN n v ++ L).drop n = L := List.drop_left' hl
  rw [wnumF,if_pos (by rw [List.length_append]; omega),e1,e2,valN_leN _ _ h]
theorem wsm_app {v : Int} {L : List UInt8} (h : in62 v) : wsmF (leN 8 (u64 v) ++ L) = some (v,L) := by
  obtain ⟨h0,h1⟩ := h
  have e : u64 v = v.toNat := by unfold u64; omega
  have h8 : v.toNat < 256 ^ 8 := by rw [p256_8]; omega
  rw [wsmF,e,wnum_app h8,Option.bind_some]
  have : ((v.toNat : Nat) : Int) = v := by omega
  dsimp only
  rw [this,if_pos h1]
theorem wrap_u64 {v : Int} (h : -9223372036854775808 ≤ v) (h' : v ≤ 9223372036854775807) : IntKind.i64.wrap ((u64 v : Nat) : Int) = v := by
  unfold u64
  simp [IntKind.wrap,IntKind.bits,IntKind.signed]
  omega
theorem bit1 (m : Msg) : bitN (partsN m) 1 = 0 ↔ m.op = zop := by rw [bitN,partsN,and_b1,bi1]; simp
theorem bit2 (m : Msg) : bitN (partsN m) 2 = 0 ↔ m.res = rz := by rw [bitN,partsN,and_b2,bi2]; simp
theorem bit4 (m : Msg) : bitN (partsN m) 4 = 0 ↔ m.grp = zgr := by rw [bitN,partsN,and_b4,bi4]; simp
theorem bit8 (m : Msg) : bitN (partsN m) 8 = 0 ↔ m.stt = zst := by rw [bitN,partsN,and_b8,bi8]; simp
theorem wpO_app {m : Msg} {L : List UInt8} (hr : MsgR m) : wpO (partsN m) (pO m ++ L) = some (m.op,L) := by
  unfold wpO pO
  by_cases h : m.op = zop
  · rw [if_pos ((bit1 m).2 h),if_pos h,h]; rfl
  · rw [if_neg (fun g => h ((bit1 m).1 g)),if_neg h]
    obtain ⟨u,e,g⟩ := decOp_at (b := opB m.op ++ L) rfl (hr.op h)
    rw [e,Option.map_some,g.2]
theorem wpR_app {m : Msg} {L : List UInt8} (hr : MsgR m) : wpR (partsN m) (pR m ++ L) = some (m.res,L) := by
  unfold wpR pR
  by_cases h : m.res = rz
  · rw [if_pos ((bit2 m).2 h),if_pos h,h]; rfl
  · rw [if_neg (fun g => h ((bit2 m).1 g)),if_neg h]
    obtain ⟨u,e,g⟩ := decRes_at (b := resB m.res ++ L) rfl (hr.res h)
    rw [e,Option.map_some,g.2]
theorem wgrp_app {g : Grp} {L : List UInt8} (hg : groupOk g.epoch g.members = true) : wgrpF (grpB g ++ L) = some (g,L) := by
  obtain ⟨r1,r2,r3,r4,r5⟩ := grp_rng hg
  have e8 : u64 g.epoch = g.epoch.toNat := by unfold u64; omega
  rw [grpB,flZ_single,flZ_single,← e8,List.append_assoc,List.append_assoc,wgrpF,wsm_app ⟨r4,r5⟩,Option.bind_some,wnum_app (by rw [p256_1]; omega),Option.bind_some]
  obtain ⟨u,e1,e2⟩ := manyF_enc (f := wnumF 1) (enc := fun x : Int => leN 1 x.toNat) (fun t M => t = M) L (xs := g.members) (t := flZ 1 g.members ++ L) (fun x hx t M h => by
    have := r1 x hx
    refine ⟨M,?_,rfl⟩
    rw [h,wnum_app (by rw [p256_1]; omega)]
    have : ((x.toNat : Nat) : Int) = x := by omega
    rw [this]) rfl
  subst e2
  rw [show ((((g.members.length : Int)).toNat : Nat) : Int).toNat = g.members.length by omega,e1]
  rfl
theorem wpG_app {m : Msg} {L : List UInt8} (hr : MsgR m) : wpG (partsN m) (pG m ++ L) = some (m.grp,L) := by
  unfold wpG pG
  by_cases h : m.grp = zgr
  · rw [if_pos ((bit4 m).2 h),if_pos h,h]; rfl
  · rw [if_neg (fun g => h ((bit4 m).1 g)),if_neg h,wgrp_app (hr.grp h)]
theorem wpS_app {m : Msg} {L : List UInt8} (hr : MsgR m) (hl : (pS m ++ L).length ≤ 33554432) : wpS (partsN m) (pS m ++ L) = some (m.stt,L) := by
  unfold wpS
  by_cases h : m.stt = zst
  · rw [if_pos ((bit8 m).2 h),pS,if_pos h,h]; rfl
  · rw [if_neg (fun g => h ((bit8 m).1 g))]
    rw [pS,if_neg h] at hl ⊢
    obtain ⟨u,e,g⟩ := mstF_at (At.zero (sttB m.stt ++ L)) (hr.stt h) hl
    rw [e,Option.map_some,g.2]
theorem went_app {e : Entry} {L : List UInt8} (he : entOk e) : went (entB e ++ L) = some (e,L) := by
  obtain ⟨u,h,g⟩ := mentF_at (At.zero (entB e ++ L)) he
  rw [went,h,Option.map_some,g.2]
theorem wmsg_back {m : Msg} (hok : msgOk m) (hn : 0 ≤ m.nonce ∧ m.nonce < 18446744073709551616) (hlog : m.log.length < 100000) (hB : (bodyB m).length ≤ 16777216) : wmsgF (bodyB m) = some (m,[]) := by
  have hr := msg_rng hok
  have hpn := partsN_rng m
  obtain ⟨⟨n1,n2,n3,n4,n5,n6,n7⟩,k1,k2,w1,w2,_,_⟩ := hok
  have p8 : (256 : Nat) ^ 8 = 18446744073709551616 := p256_8
  have p4 : (256 : Nat) ^ 4 = 4294967296 := p256_4
  have p1 : (256 : Nat) ^ 1 = 256 := p256_1
  have hl : (pS m ++ (leN 4 m.log.length ++ m.log.flatMap entB)).length ≤ 33554432 := by
    simp only [bodyB,preB,List.length_append] at hB
    simp only [List.length_append]; omega
  have hs : -4611686018427387904 ≤ m.src ∧ m.src < 64 := w1
  have hd : -4611686018427387904 ≤ m.dst ∧ m.dst < 64 := w2
  obtain ⟨u,e1,e2⟩ := manyF_enc (f := went) (enc := entB) (fun t M => t = M) [] (xs := m.log) (t := m.log.flatMap entB ++ []) (fun x hx t M h => ⟨M,by rw [h,went_app (hr.log x hx)],rfl⟩) rfl
  subst e2
  rw [List.append_nil] at e1
  rw [bodyB,preB,hdB,byI_le (by omega) (by omega),byI_le hpn.1 hpn.2]
  simp only [flI,List.flatMap_cons,List.flatMap_nil,List.append_assoc,List.append_nil,List.nil_append]
  rw [wmsgF,wnum_app (by omega),Option.bind_some,wnum_app (by rw [p8]; exact u64_lt _),Option.bind_some,wnum_app (by rw [p8]; exact u64_lt _),Option.bind_some,wsm_app n1,Option.bind_some,wsm_app n2,Option.bind_some,wsm_app n3,Option.bind_some,wsm_app n4,Option.bind_some,wsm_app n5,Option.bind_some,wnum_app (by rw [p8]; exact u64_lt _),Option.bind_some,wsm_app n6,Option.bind_some,wsm_app n7,Option.bind_some]
  rw [wprtF,wnum_app (by omega),Option.bind_some]
  dsimp only
  rw [show ((m.kind.toNat : Nat) : Int) = m.kind by omega,show (((partsN m).toNat : Nat) : Int) = partsN m by omega,wpO_app hr,Option.bind_some,wpR_app hr,Option.bind_some,wpG_app hr,Option.bind_some,wpS_app hr hl,Option.map_some,Option.bind_some]
  dsimp only
  rw [wnum_app (by omega),Option.bind_some]
  dsimp only
  rw [show ((m.log.length : Nat) : Int).toNat = m.log.length from rfl,e1,Option.map_some,wrap_u64 (by omega) (by omega),wrap_u64 (by omega) (by omega),← u64_eq hn.1 hn.2]
theorem wdec_back {m : Msg} (hok : msgOk m) (hn : 0 ≤ m.nonce ∧ m.nonce < 18446744073709551616) (hlog : m.log.length < 100000) (hB : (bodyB m).length ≤ 16777216) : wdecF (bodyB m) = some m := by
  rw [wdecF,wmsg_back hok hn hlog hB,Option.bind_some]
  exact if_pos ⟨rfl,hok,rfl⟩
structure FrB (b : List UInt8) (m : Msg) : Prop where
  ok : msgOk m
  non : 0 ≤ m.nonce ∧ m.nonce < 18446744073709551616
  log : m.log.length < 100000
  len : (bodyB m).length ≤ 16777216
  eq : b = frameB (bodyB m)
theorem FrB.short {b : List UInt8} {m : Msg} (h : FrB b m) : b.length ≤ 140737488355328 := by
  rw [h.eq,frameB_len]; have := h.len; omega
theorem FrB.log' {b : List UInt8} {m : Msg} (h : FrB b m) (x : Msg) (M : List UInt8) (hx : wmsgF (bodyB m) = some (x,M)) : x.log.length < 100000 := by
  rw [wmsg_back h.ok h.non h.log h.len] at hx
  rw [← (Prod.mk.inj (Option.some.inj hx)).1]; exact h.log
theorem FrB.two {b : List UInt8} {m x : Msg} {k : Int} (g : FrB b m) (h : (k = 0 → wdecF (bodyB m) = some x) ∧ (k ≠ 0 → wdecF (bodyB m) = none ∧ x = zms ∧ k = 160)) : k = 0 ∧ m = x := by
  have e := wdec_back g.ok g.non g.log g.len
  by_cases hk : k = 0
  · have := h.1 hk
    rw [e] at this
    exact ⟨hk,Option.some.inj this⟩
  · have := (h.2 hk).1
    rw [e] at this; cases this
def NX.take (x : NX) (i : Int) (keep : Bool) : NX := if keep then x else x.drop i
end Go.Proofs.YtliacpkblicnhaaGreat
namespace Go.Proofs.YtliacpkblicnhaaGreat
open Go Go.Sx Go.Proofs
section
variable (p : Nat) (K : List Nat) (x : NX)
theorem ntakex_ct (i : Int) (keep : Bool) (hi : ¬ (0 ≤ i ∧ i < (x.ps.length : Int))) : Ct Tryz.prog 11 [.pointer (some ⟨p,0,none⟩),.int .i64 i,.bool keep] [netO p K x] [] (fun u G Q => ∃ K,u = .tuple #[msgV zms ⟨none,0,none,0,none,0,none,0,none,0,none,0,none,0,none,0⟩,.int .i64 5] ∧ G = [netO p K x] ∧ Q = msgQ zms ⟨none,0,none,0,none,0,none,0,none,0,none,0,none,0,none,0⟩) := by
 refine Ct.intro Tryz.func11 rfl rfl rfl (fun c hc => ?_)
 refine GC.sr_ ?_;refine GL.step rfl (t_alloc rfl ze_64) (GL.ex fun b_t6 => ?_);refine GL.rz 1 ?_;refine GC.rr 2 ?_;refine GL.cl Tryz.call18 [1] [] rfl rfl rfl (by exact nbytesx_ct _ _ _ _ hi) ?_
 rintro _ _ _ ⟨K13,rfl,rfl,rfl⟩
 refine GL.rz 5 ?_;refine GC.seq' ?_;refine GC.rg 2 ?_;refine GC.cond_true rfl ?_;refine GC.sr_ ?_;refine GL.know (q := Pers.row Kd.u8 none []) (fun _ _ _ => .inl rfl) ?_;refine GL.know (q := Pers.row kI none []) (fun _ _ _ => .inl rfl) ?_
 refine GL.know (q := Pers.row kPage none []) (fun _ _ _ => .inl rfl) ?_;refine GL.know (q := Pers.row kRow none []) (fun _ _ _ => .inl rfl) ?_;refine GL.know (q := Pers.row kEntry none []) (fun _ _ _ => .inl rfl) ?_;refine GL.pure rfl (p_build ze_64 of_64 rfl rfl) ?_
 refine GL.rn 1 ?_;refine GL.sn_ 1 ?_;refine GL.rz 1 ?_;refine GC.ret (Fin.c1 6 64 7 1 28 [0] [4,4,4,3,2,1,3,0] ?_)
 exact ⟨_,rfl,rfl,rfl⟩
theorem ntake_ct (i : Int) (keep : Bool) (m : Msg) (hi : 0 ≤ i ∧ i < (x.ps.length : Int)) (hF : FrB (gt x.ps i).b m) : Ct Tryz.prog 11 [.pointer (some ⟨p,0,none⟩),.int .i64 i,.bool keep] [netO p K x] [] (fun u G Q => ∃ K s,u = .tuple #[msgV m s,.int .i64 0] ∧ G = [netO p K (x.take i keep)] ∧ Q = msgQ m s) := by
 refine Ct.intro Tryz.func11 rfl rfl rfl (fun c hc => ?_)
 refine GC.sr_ ?_;refine GL.step rfl (t_alloc rfl ze_64) (GL.ex fun b_t6 => ?_);refine GL.rz 1 ?_;refine GC.rr 2 ?_;refine GL.cl Tryz.call18 [1] [] rfl rfl rfl (by exact nbytes_ct _ _ _ _ hi hF.short) ?_
 rintro _ _ _ ⟨K13,A13,cp13,l13,k13,rfl,rfl,rfl⟩
 refine GL.rz 5 ?_;refine GC.seq' ?_;refine GC.rg 2 ?_;refine GC.cond_false rfl ?_
 refine GC.skip (?_ : GC _ _ _ _)
 refine GC.seq' ?_;refine GC.rg 2 ?_;refine GC.co ?_ ?_
 ·intro h1; try simp only [tst_] at h1
  refine GC.region ?_;refine GL.rn 2 ?_;refine GL.cl Tryz.call13 [0] [] rfl rfl rfl (by exact ndrop_ct _ _ _ _) ?_
  rintro _ _ _ ⟨K24,rfl,rfl,rfl⟩
  refine GL.nil (?_ : GC _ _ _ _)
  refine GC.sr_ ?_;refine GL.freezeB (i := 1) rfl ?_;refine GL.rn 1 ?_;refine GL.cl Tryz.call24 [] [0] rfl rfl rfl (by exact wdec_ct _ (bodyB m) (gt x.ps i).b _ hF.eq hF.len hF.log' l13 k13) ?_
  rintro _ _ _ ⟨m26,s26,k26,hd26,rfl,rfl,rfl⟩
  obtain ⟨rfl,rfl⟩ := hF.two hd26
  refine GL.rn 2 ?_;refine GL.sn_ 1 ?_;refine GL.rz 1 ?_;refine GC.ret (Fin.c1 6 64 7 1 28 [0] (up 0 8) ?_)
  exact ⟨_,_,rfl,by subst keep; rfl,rfl⟩
 intro h1; try simp only [tst_] at h1
 refine GC.skip (?_ : GC _ _ _ _)
 refine GC.sr_ ?_;refine GL.freezeB (i := 1) rfl ?_;refine GL.rn 1 ?_;refine GL.cl Tryz.call24 [] [0] rfl rfl rfl (by exact wdec_ct _ (bodyB m) (gt x.ps i).b _ hF.eq hF.len hF.log' l13 k13) ?_
 rintro _ _ _ ⟨m26,s26,k26,hd26,rfl,rfl,rfl⟩
 obtain ⟨rfl,rfl⟩ := hF.two hd26
 refine GL.rn 2 ?_;refine GL.sn_ 1 ?_;refine GL.rz 1 ?_;refine GC.ret (Fin.c1 6 64 7 1 28 [0] (up 0 8) ?_)
 exact ⟨_,_,rfl,by subst keep; rfl,rfl⟩
theorem ntakeb_ct (i : Int) (keep : Bool) (hi : 0 ≤ i ∧ i < (x.ps.length : Int)) (hb : (gt x.ps i).b.length ≤ 140737488355328) (hbad : rdBad (gt x.ps i).b) : Ct Tryz.prog 11 [.pointer (some ⟨p,0,none⟩),.int .i64 i,.bool keep] [netO p K x] [] (fun u G Q => ∃ (K : List Nat) (e : Int),e ≠ 0 ∧ u = .tuple #[msgV zms ⟨none,0,none,0,none,0,none,0,none,0,none,0,none,0,none,0⟩,.int .i64 e] ∧ G = [netO p K (x.take i keep)] ∧ Q = msgQ zms ⟨none,0,none,0,none,0,none,0,none,0,none,0,none,0,none,0⟩) := by
 refine Ct.intro Tryz.func11 rfl rfl rfl (fun c hc => ?_)
 refine GC.sr_ ?_;refine GL.step rfl (t_alloc rfl ze_64) (GL.ex fun b_t6 => ?_);refine GL.rz 1 ?_;refine GC.rr 2 ?_;refine GL.cl Tryz.call18 [1] [] rfl rfl rfl (by exact nbytes_ct _ _ _ _ hi hb) ?_
 rintro _ _ _ ⟨K13,A13,cp13,l13,k13,rfl,rfl,rfl⟩
 refine GL.rz 5 ?_;refine GC.seq' ?_;refine GC.rg 2 ?_;refine GC.cond_false rfl ?_
 refine GC.skip (?_ : GC _ _ _ _)
 refine GC.seq' ?_;refine GC.rg 2 ?_;refine GC.co ?_ ?_
 ·intro h1; try simp only [tst_] at h1
  refine GC.region ?_;refine GL.rn 2 ?_;refine GL.cl Tryz.call13 [0] [] rfl rfl rfl (by exact ndrop_ct _ _ _ _) ?_
  rintro _ _ _ ⟨K24,rfl,rfl,rfl⟩
  refine GL.nil (?_ : GC _ _ _ _)
  refine GC.sr_ ?_;refine GL.freezeB (i := 1) rfl ?_;refine GL.know (q := Pers.row Kd.u8 none []) (fun _ _ _ => .inl rfl) ?_;refine GL.know (q := Pers.row kI none []) (fun _ _ _ => .inl rfl) ?_;refine GL.know (q := Pers.row kPage none []) (fun _ _ _ => .inl rfl) ?_
  refine GL.know (q := Pers.row kRow none []) (fun _ _ _ => .inl rfl) ?_;refine GL.know (q := Pers.row kEntry none []) (fun _ _ _ => .inl rfl) ?_;refine GL.rn 1 ?_;refine GL.cl Tryz.call24 [] [5] rfl rfl rfl (by exact wdec_bad _ (gt x.ps i).b _ (by omega) l13 k13 hbad) ?_
  rintro _ _ _ ⟨e26,he26,rfl,rfl,rfl⟩
  refine GL.rn 2 ?_;refine GL.sn_ 1 ?_;refine GL.rz 1 ?_;refine GC.ret (Fin.c1 6 64 7 1 28 [0] [4,4,4,3,2,1,3,0] ?_)
  exact ⟨_,_,by assumption,rfl,by subst keep; rfl,rfl⟩
 intro h1; try simp only [tst_] at h1
 refine GC.skip (?_ : GC _ _ _ _)
 refine GC.sr_ ?_;refine GL.freezeB (i := 1) rfl ?_;refine GL.know (q := Pers.row Kd.u8 none []) (fun _ _ _ => .inl rfl) ?_;refine GL.know (q := Pers.row kI none []) (fun _ _ _ => .inl rfl) ?_;refine GL.know (q := Pers.row kPage none []) (fun _ _ _ => .inl rfl) ?_
 refine GL.know (q := Pers.row kRow none []) (fun _ _ _ => .inl rfl) ?_;refine GL.know (q := Pers.row kEntry none []) (fun _ _ _ => .inl rfl) ?_;refine GL.rn 1 ?_;refine GL.cl Tryz.call24 [] [5] rfl rfl rfl (by exact wdec_bad _ (gt x.ps i).b _ (by omega) l13 k13 hbad) ?_
 rintro _ _ _ ⟨e26,he26,rfl,rfl,rfl⟩
 refine GL.rn 2 ?_;refine GL.sn_ 1 ?_;refine GL.rz 1 ?_;refine GC.ret (Fin.c1 6 64 7 1 28 [0] [4,4,4,3,2,1,3,0] ?_)
 exact ⟨_,_,by assumption,rfl,by subst keep; rfl,rfl⟩
end
end Go.Proofs.YtliacpkblicnhaaGreat
namespace Go.Proofs.YtliacpkblicnhaaGreat
open Go Go.Sx Go.Proofs
section
theorem atnil_ct (i : Int) : Ct Tryz.prog 30 [.pointer none,.int .i64 i] [] [] (fun u G Q => u = .int .i64 4 ∧ G = [] ∧ Q = []) := by
 refine Ct.intro Tryz.func30 rfl rfl rfl (fun c hc => ?_)
 refine GC.rg 1 ?_;refine GC.seq' ?_;refine GC.block ?_;refine GC.rr 1 ?_;refine GL.pure rfl (p_pnil_eql Tryz.underlying87 rfl rfl) ?_;refine GL.rz 1 ?_;refine GC.cond_true rfl ?_;refine GC.rg 1 ?_;refine GC.ret (Fin.b1 4 [] [] ?_)
 exact ⟨rfl,rfl,rfl⟩
theorem bytesnil_ct (i : Int) : Ct Tryz.prog 18 [.pointer none,.int .i64 i] [] [] (fun u G Q => u = .tuple #[.slice none 0 0,.int .i64 4] ∧ G = [] ∧ Q = []) := by
 refine Ct.intro Tryz.func18 rfl rfl rfl (fun c hc => ?_)
 refine GC.rg 2 ?_;refine GC.seq' ?_;refine GC.rr 2 ?_;refine GL.cl Tryz.call30 [] [] rfl rfl rfl (by exact atnil_ct _) ?_
 rintro _ _ _ ⟨rfl,rfl,rfl⟩
 refine GL.rz 1 ?_;refine GC.rg 2 ?_;refine GC.cond_true rfl ?_;refine GC.rg 3 ?_;refine GC.ret (Fin.b2 4 5 [] [] ?_)
 exact ⟨rfl,rfl,rfl⟩
theorem dropnil_ct (i : Int) : Ct Tryz.prog 13 [.pointer none,.int .i64 i] [] [] (fun u G Q => u = .int .i64 4 ∧ G = [] ∧ Q = []) := by
 refine Ct.intro Tryz.func13 rfl rfl rfl (fun c hc => ?_)
 refine GC.rg 1 ?_;refine GC.seq' ?_;refine GC.rr 2 ?_;refine GL.cl Tryz.call30 [] [] rfl rfl rfl (by exact atnil_ct _) ?_
 rintro _ _ _ ⟨rfl,rfl,rfl⟩
 refine GL.rz 1 ?_;refine GC.rg 2 ?_;refine GC.cond_true rfl ?_;refine GC.rg 2 ?_;refine GC.ret (Fin.b1 4 [] [] ?_)
 exact ⟨rfl,rfl,rfl⟩
theorem spoilnil_ct (i j k : Int) : Ct Tryz.prog 19 [.pointer none,.int .i64 i,.int .i64 j,.int .u8 k] [] [] (fun u G Q => u = .int .i64 4 ∧ G = [] ∧ Q = []) := by
 refine Ct.intro Tryz.func19 rfl rfl rfl (fun c hc => ?_)
 refine GC.rg 1 ?_;refine GC.seq' ?_;refine GC.rr 2 ?_;refine GL.cl Tryz.call30 [] [] rfl rfl rfl (by exact atnil_ct _) ?_
 rintro _ _ _ ⟨rfl,rfl,rfl⟩
 refine GL.rz 1 ?_;refine GC.rg 2 ?_;refine GC.cond_true rfl ?_;refine GC.rg 2 ?_;refine GC.ret (Fin.b1 8 [] [] ?_)
 exact ⟨rfl,rfl,rfl⟩
theorem cutnil_ct (i j : Int) (on : Bool) : Ct Tryz.prog 14 [.pointer none,.int .i64 i,.int .i64 j,.bool on] [] [] (fun u G Q => u = .int .i64 4 ∧ G = [] ∧ Q = []) := by
 refine Ct.intro Tryz.func14 rfl rfl rfl (fun c hc => ?_)
 refine GC.rg 1 ?_;refine GC.seq' ?_;refine GC.rr 1 ?_;refine GL.pure rfl (p_pnil_eql Tryz.underlying87 rfl rfl) ?_;refine GL.nl_ ?_;refine GC.cond_true rfl ?_;refine GC.rg 1 ?_;refine GC.ret (Fin.b1 8 [] [] ?_)
 exact ⟨rfl,rfl,rfl⟩
theorem isnil_ct (i j : Int) : Ct Tryz.prog 20 [.pointer none,.int .i64 i,.int .i64 j] [] [] (fun u G Q => u = .bool false ∧ G = [] ∧ Q = []) := by
 refine Ct.intro Tryz.func20 rfl rfl rfl (fun c hc => ?_)
 refine GC.rg 1 ?_;refine GC.seq' ?_;refine GC.rr 1 ?_;refine GL.pure rfl (p_pnil_eql Tryz.underlying87 rfl rfl) ?_;refine GL.nl_ ?_;refine GC.cond_true rfl ?_;refine GC.rg 1 ?_;refine GC.ret (Fin.b1 6 [] [] ?_)
 exact ⟨rfl,rfl,rfl⟩
theorem lennil_ct : Ct Tryz.prog 15 [.pointer none] [] [] (fun u G Q => u = .int .i64 0 ∧ G = [] ∧ Q = []) := by
 refine Ct.intro Tryz.func15 rfl rfl rfl (fun c hc => ?_)
 refine GC.rg 1 ?_;refine GC.seq' ?_;refine GC.rr 1 ?_;refine GL.pure rfl (p_pnil_eql Tryz.underlying87 rfl rfl) ?_;refine GL.nl_ ?_;refine GC.cond_true rfl ?_;refine GC.rg 1 ?_;refine GC.ret (Fin.b1 2 [] [] ?_)
 exact ⟨rfl,rfl,rfl⟩
theorem countsnil_ct : Ct Tryz.prog 16 [.pointer none] [] [] (fun u G Q => u = .tuple #[.int .i64 0,.int .i64 0] ∧ G = [] ∧ Q = []) := by
 refine Ct.intro Tryz.func16 rfl rfl rfl (fun c hc => ?_)
 refine GC.rg 2 ?_;refine GC.seq' ?_;refine GC.rr 1 ?_;refine GL.pure rfl (p_pnil_eql Tryz.underlying87 rfl rfl) ?_;refine GL.nl_ ?_;refine GC.cond_true rfl ?_;refine GC.rg 2 ?_;refine GC.ret (Fin.b2 2 3 [] [] ?_)
 exact ⟨rfl,rfl,rfl⟩
theorem sendnil_ct (m : Msg) (s : Lie) : Ct Tryz.prog 10 [.pointer none,msgV m s] [] (msgQ m s) (fun u G Q => u = .int .i64 4 ∧ G = [] ∧ Q = []) := by
 refine Ct.intro Tryz.func10 rfl rfl rfl (fun c hc => ?_)
 refine GC.sr_ ?_;refine GL.step rfl (t_box rfl rfl rfl) (GL.ex fun b_t3 => ?_);refine GL.rz 1 ?_;refine GC.seq' ?_;refine GC.rr 1 ?_;refine GL.pure rfl (p_pnil_eql Tryz.underlying87 rfl rfl) ?_;refine GL.nl_ ?_;refine GC.cond_true rfl ?_
 refine GC.rg 1 ?_;refine GC.ret (Fin.b1 4 [] [] ?_)
 exact ⟨rfl,rfl,rfl⟩
theorem takenil_ct (i : Int) (keep : Bool) : Ct Tryz.prog 11 [.pointer none,.int .i64 i,.bool keep] [] [] (fun u G Q => u = .tuple #[msgZ,.int .i64 4] ∧ G = [] ∧ Q = []) := by
 refine Ct.intro Tryz.func11 rfl rfl rfl (fun c hc => ?_)
 refine GC.sr_ ?_;refine GL.step rfl (t_alloc rfl ze_64) (GL.ex fun b_t6 => ?_);refine GL.rz 1 ?_;refine GC.rr 2 ?_;refine GL.cl Tryz.call18 [] [] rfl rfl rfl (by exact bytesnil_ct _) ?_
 rintro _ _ _ ⟨rfl,rfl,rfl⟩
 refine GL.rz 5 ?_;refine GC.seq' ?_;refine GC.rg 2 ?_;refine GC.cond_true rfl ?_;refine GC.sr_ ?_;refine GL.pure rfl (p_build ze_64 of_64 rfl rfl) ?_;refine GL.rn 1 ?_;refine GL.sn_ 0 ?_;refine GL.rz 1 ?_;refine GC.ret (Fin.c1 6 64 7 0 28 [] [] ?_)
 exact ⟨rfl,rfl,rfl⟩
end
end Go.Proofs.YtliacpkblicnhaaGreat
namespace Go.Proofs.YtliacpkblicnhaaGreat
open Go Go.Sx Go.Proofs
def nx0 : NX := ⟨[],[],0,0⟩
abbrev netZ : List Value := [.int .u32 0,.int .i32 0,.int .u32 0,.slice none 0 0,.map none,.int .i64 0,.int .i64 0]
theorem net0_rg (b : Nat) : RG [netO b [b] nx0] [.cells b netZ 42] :=
  ⟨SubK.eq rfl,fun w h o ho => by
    rw [List.mem_singleton.1 ho]
    refine ⟨⟨⟨0,none,0,[],.map none,[]⟩,rfl,.inl ⟨rfl,rfl,rfl,rfl⟩⟩,rfl,fun o ho => ?_⟩
    rcases List.mem_cons.1 ho with rfl | ho
    · exact h _ (List.mem_cons_self ..)
    · rw [List.mem_singleton.1 (show o ∈ [rowP none 0 []] from ho)]
      exact ⟨rfl,.inl ⟨rfl,rfl⟩⟩⟩
theorem GL.net0 {P : Program} {c : Cx} {n : Nat} {env : List (Nat × Value)} {G Gr : List Own} {Q : List Pers} {X : Exit → Asr} {ops : Array Oper} {rest : List Oper} {b : Nat} (is : List Nat) (hsel : sel G is = some ([.cells b netZ 42],Gr)) (k : GL P ops X rest (St c n env (netO b [b] nx0 :: Gr) Q)) : GL P ops X rest (St c n env G Q) :=
  GL.regroup0 is [netO b [b] nx0] hsel (net0_rg b).1 (net0_rg b).2 k
def nwM : Msg := ⟨5,0,1,0,5,0,0,0,0,0,0,zop,rz,zgr,zst,[]⟩
abbrev nwV : Value := .agg #[.int .u8 5,.int .i64 0,.int .i64 1,.int .i64 0,.int .i64 5,.int .i64 0,.int .i64 0,.int .i64 0,.int .u64 0,.int .i64 0,.int .i64 0,.int .u8 0,.int .i64 0,.int .i64 0,.slice none 0 0,.slice none 0 0,.int .u8 0,.slice none 0 0,.int .i64 0,.slice none 0 0,.int .i64 0,.int .i64 0,.int .i64 0,.slice none 0 0,.slice none 0 0,.int .i64 0,.slice none 0 0,.slice none 0 0]
theorem nwM_len : MsgLen nwM := ⟨by decide,by decide,by decide,by decide,⟨by decide,by decide,by decide,by simp [nwM,zst],by simp [nwM,zst]⟩,by decide,by simp [nwM]⟩
theorem nwM_ok : msgOk nwM := by rw [← msgE_iff]; decide +kernel
theorem nwM_body : (bodyB nwM).length ≤ 16777216 := by
  have : (bodyB nwM).length = 86 := by decide +kernel
  omega
def nwF : List UInt8 := frameB (bodyB nwM)
theorem nwM_enc : encFo nwM = (0,nwF) := by rw [encFo,if_pos nwM_ok,if_pos nwM_body]; rfl
theorem nw_nil {q : Pers} (h : q ∈ msgQ nwM lie0) : ∀ w S,q.h w S := by
  intro w S
  simp only [List.mem_cons,List.not_mem_nil,or_false] at h
  rcases h with rfl | rfl | rfl | rfl | rfl | rfl | rfl | rfl <;> exact .inl rfl
def nx1 : NX := ⟨[⟨nwF,false⟩],[],1,0⟩
def nx2 : NX := ⟨[⟨nwF,false⟩],[(0,1)],1,0⟩
def nx3 : NX := ⟨[⟨nwF,false⟩],[(0,1)],2,1⟩
def nx4 : NX := ⟨[],[(0,1)],2,1⟩
theorem nw_send (p : Nat) (K : List Nat) (x : NX) (ha : -4611686018427387904 ≤ x.sent ∧ x.sent ≤ 4611686018427387904) (hb : -4611686018427387904 ≤ x.lost ∧ x.lost ≤ 4611686018427387904) (y : NX) (hy : x.send nwM = y) : Ct Tryz.prog 10 [.pointer (some ⟨p,0,none⟩),nwV] [netO p K x] [] (NetS p (.int .i64 0) y) := by
  have h := nsend_ct p K x nwM lie0 nwM_len ⟨by decide,by decide⟩ (by decide) ha hb
  rw [hy,nwM_enc] at h
  exact Ct.qperm h (fun q hq => .inr (nw_nil hq))
theorem nw1 : nx0.send nwM = nx1 := by rw [NX.send,nwM_enc,if_pos rfl,if_neg (by simp [nx0])]; rfl
theorem nw3 : nx2.send nwM = nx3 := by rw [NX.send,nwM_enc,if_pos rfl,if_pos (by simp [nx2,nwM])]; rfl
theorem nw2 (p : Nat) (K : List Nat) : Ct Tryz.prog 14 [.pointer (some ⟨p,0,none⟩),.int .i64 0,.int .i64 1,.bool true] [netO p K nx1] [] (NetS p (.int .i64 0) nx2) := ncut_ct p K nx1 0 1 true (by omega) (by omega)
theorem nw4 (p : Nat) (K : List Nat) : Ct Tryz.prog 11 [.pointer (some ⟨p,0,none⟩),.int .i64 0,.bool false] [netO p K nx3] [] (fun u G Q => ∃ K s,u = .tuple #[msgV nwM s,.int .i64 0] ∧ G = [netO p K nx4] ∧ Q = msgQ nwM s) :=
  ntake_ct p K nx3 0 false nwM ⟨by decide,by decide⟩ ⟨nwM_ok,⟨by decide,by decide⟩,by decide,nwM_body,rfl⟩
theorem nawake_ct : Ct Tryz.prog 8 [] [] [] (fun u G Q => u = .bool true ∧ G = [] ∧ Q = []) := by
 refine Ct.intro Tryz.func8 rfl rfl rfl (fun c hc => ?_)
 refine GC.rg 1 ?_;refine GC.sr_ ?_;refine GL.step rfl (t_alloc rfl ze_42) (GL.ex fun b_t1 => ?_);refine GL.nl_ ?_;refine GC.sr_ ?_;refine GL.net0 [0] rfl ?_;refine GL.pure rfl (p_build ze_64 of_64 rfl rfl) ?_;refine GL.step rfl (t_alloc rfl ze_64) (GL.ex fun b_t2 => ?_)
 refine GL.sn_ 0 ?_;refine GL.nl_ ?_;refine GC.sr_ ?_;refine GL.ln_ 0 28 ?_;refine GL.cl Tryz.call10 [1] [] rfl rfl rfl (by exact nw_send _ _ nx0 ⟨by decide,by decide⟩ ⟨by decide,by decide⟩ _ nw1) ?_
 rintro _ _ _ ⟨K12,rfl,rfl,rfl⟩
 refine GL.rz 1 ?_;refine GC.sr_ ?_;refine GL.cl Tryz.call14 [0] [] rfl rfl rfl (by exact nw2 _ _) ?_
 rintro _ _ _ ⟨K13,rfl,rfl,rfl⟩
 refine GL.rz 1 ?_;refine GC.sr_ ?_;refine GL.ln_ 1 28 ?_;refine GL.cl Tryz.call10 [0] [] rfl rfl rfl (by exact nw_send _ _ nx2 ⟨by decide,by decide⟩ ⟨by decide,by decide⟩ _ nw3) ?_
 rintro _ _ _ ⟨K15,rfl,rfl,rfl⟩
 refine GL.rz 1 ?_;refine GC.sr_ ?_;refine GL.cl Tryz.call11 [0] [] rfl rfl rfl (by exact nw4 _ _) ?_
 rintro _ _ _ ⟨K17,s17,rfl,rfl,rfl⟩
 refine GL.rn 3 ?_;refine GL.step rfl (t_alloc rfl ze_64) (GL.ex fun b_t6 => ?_);refine GL.sn_ 0 ?_;refine GL.rz 1 ?_;refine GC.sr_ ?_;refine GL.cl Tryz.call16 [1] [] rfl rfl rfl (by exact ncounts_ct _ _ _) ?_
 rintro _ _ _ ⟨K21,rfl,rfl,rfl⟩
 refine GL.rz 5 ?_;refine GC.rr 16 ?_;refine GL.dg_ 1 ?_;refine GL.rn 3 ?_;refine GL.stepG rfl (s := 43) rfl rfl (t_call rfl Tryz.call15 rfl (is := [0]) (js := []) rfl rfl (by exact nlen_ct _ _ _)) (GL.ret ?_)
 rintro _ _ _ ⟨K44,rfl,rfl,rfl⟩
 refine GL.rn 11 ?_;refine GL.stepG rfl (s := 55) rfl rfl (t_call rfl Tryz.call20 rfl (is := [0]) (js := []) rfl rfl (by exact nis_ct _ _ _ _ _)) (GL.ret ?_)
 rintro _ _ _ ⟨K56,rfl,rfl,rfl⟩
 refine GL.rn 2 ?_;refine GL.stepG rfl (s := 58) rfl rfl (t_call rfl Tryz.call20 rfl (is := [0]) (js := []) rfl rfl (by exact nis_ct _ _ _ _ _)) (GL.ret ?_)
 rintro _ _ _ ⟨K59,rfl,rfl,rfl⟩
 refine GL.rz 3 ?_;refine GC.ret (Fin.b1 0 [] [] ?_)
 exact ⟨rfl,rfl,rfl⟩
theorem same_zz : Ct Tryz.prog 12 [msgZ,msgZ] [] [] (fun u G Q => u = .bool true ∧ G = [] ∧ Q = []) :=
  Ct.qperm (Ct.mono (rmsame_ct zms zms lie0 lie0 ⟨by decide,by decide,by decide,by decide,⟨by decide,by decide,by decide,by simp [zms,zst],by simp [zms,zst]⟩,by decide,by simp [zms]⟩) fun u G Q h => ⟨h.1.trans (by simp),h.2⟩) fun q hq => .inr (by
    intro w S
    rcases List.mem_append.1 hq with hq | hq <;>
      (simp only [List.mem_cons,List.not_mem_nil,or_false] at hq
       rcases hq with rfl | rfl | rfl | rfl | rfl | rfl | rfl | rfl <;> exact .inl rfl))
theorem netNobody_ct (m : Msg) (s : Lie) (i : Int) : Ct Tryz.prog 7 [msgV m s,.int .i64 i] [] (msgQ m s) (fun u G Q => u = .bool true ∧ G = [] ∧ Q = []) := by
 refine Ct.intro Tryz.func7 rfl rfl rfl (fun c hc => ?_)
 refine GC.sr_ ?_;refine GL.step rfl (t_box rfl rfl rfl) (GL.ex fun b_t2 => ?_);refine GL.rz 1 ?_;refine GC.rg 1 ?_;refine GC.rr 2 ?_;refine GL.cl Tryz.call18 [] [] rfl rfl rfl (by exact bytesnil_ct _) ?_
 rintro _ _ _ ⟨rfl,rfl,rfl⟩
 refine GL.rz 5 ?_;refine GC.rr 2 ?_;refine GL.cl Tryz.call11 [] [] rfl rfl rfl (by exact takenil_ct _ _) ?_
 rintro _ _ _ ⟨rfl,rfl,rfl⟩
 refine GL.rn 3 ?_;refine GL.step rfl (t_alloc rfl ze_64) (GL.ex fun b_t8 => ?_);refine GL.sn_ 0 ?_;refine GL.rz 1 ?_;refine GC.rr 1 ?_;refine GL.cl Tryz.call16 [] [] rfl rfl rfl (by exact countsnil_ct) ?_
 rintro _ _ _ ⟨rfl,rfl,rfl⟩
 refine GL.rz 5 ?_;refine GC.rr 1 ?_;refine GL.ln_ 1 28 ?_;refine GL.cl Tryz.call10 [] (up 0 8) rfl rfl rfl (by exact sendnil_ct _ _) ?_
 rintro _ _ _ ⟨rfl,rfl,rfl⟩
 refine GL.rn 12 ?_;refine GL.stepG rfl (s := 41) rfl rfl (t_call rfl Tryz.call13 rfl (is := []) (js := []) rfl rfl (by exact dropnil_ct _)) (GL.ret ?_)
 rintro _ _ _ ⟨rfl,rfl,rfl⟩
 refine GL.rn 6 ?_;refine GL.stepG rfl (s := 47) rfl rfl (t_call rfl Tryz.call19 rfl (is := []) (js := []) rfl rfl (by exact spoilnil_ct _ _ _)) (GL.ret ?_)
 rintro _ _ _ ⟨rfl,rfl,rfl⟩
 refine GL.rn 6 ?_;refine GL.stepG rfl (s := 54) rfl rfl (t_call rfl Tryz.call14 rfl (is := []) (js := []) rfl rfl (by exact cutnil_ct _ _ _)) (GL.ret ?_)
 rintro _ _ _ ⟨rfl,rfl,rfl⟩
 refine GL.rn 6 ?_;refine GL.stepG rfl (s := 61) rfl rfl (t_call rfl Tryz.call20 rfl (is := []) (js := []) rfl rfl (by exact isnil_ct _ _)) (GL.ret ?_)
 rintro _ _ _ ⟨rfl,rfl,rfl⟩
 refine GL.rn 3 ?_;refine GL.lg_ 0 28 ?_;refine GL.pureG (s := 68) rfl rfl rfl (p_build ze_64 of_64 rfl rfl) ?_;refine GL.stepG rfl (s := 68) rfl rfl (t_call rfl Tryz.call12 rfl (is := []) (js := []) rfl rfl (by exact same_zz)) (GL.ret ?_)
 rintro _ _ _ ⟨rfl,rfl,rfl⟩
 refine GL.rn 5 ?_;refine GL.stepG rfl (s := 73) rfl rfl (t_call rfl Tryz.call15 rfl (is := []) (js := []) rfl rfl (by exact lennil_ct)) (GL.ret ?_)
 rintro _ _ _ ⟨rfl,rfl,rfl⟩
 refine GL.pureG (s := 73) rfl rfl rfl (p_add rfl rfl (w64 (by omega) (by omega))) ?_;refine GL.rn 1 ?_;refine GL.pureG (s := 73) rfl rfl rfl (p_add rfl rfl (w64 (by omega) (by omega))) ?_;refine GL.rn 1 ?_;refine GL.pureG (s := 73) rfl rfl rfl (p_add rfl rfl (w64 (by omega) (by omega))) ?_
 refine GL.rn 3 ?_;refine GL.stepG rfl (s := 85) rfl rfl (t_call rfl Tryz.call8 rfl (is := []) (js := []) rfl rfl (by exact nawake_ct)) (GL.ret ?_)
 rintro _ _ _ ⟨rfl,rfl,rfl⟩
 refine GL.rz 2 ?_;refine GC.ret (Fin.b1 4 [] [] ?_)
 exact ⟨rfl,rfl,rfl⟩
def cutE (i j : Int) : Int := if (0 ≤ i ∧ i < 64) ∧ 0 ≤ j ∧ j < 64 then 0 else 1
def NX.cutF (x : NX) (i j : Int) (on : Bool) : NX := if (0 ≤ i ∧ i < 64) ∧ 0 ≤ j ∧ j < 64 then x.cut i j on else x
theorem ncutF_ct (p : Nat) (K : List Nat) (x : NX) (i j : Int) (on : Bool) : Ct Tryz.prog 14 [.pointer (some ⟨p,0,none⟩),.int .i64 i,.int .i64 j,.bool on] [netO p K x] [] (NetS p (.int .i64 (cutE i j)) (x.cutF i j on)) := by
  unfold cutE NX.cutF
  by_cases h : (0 ≤ i ∧ i < 64) ∧ 0 ≤ j ∧ j < 64
  · rw [if_pos h,if_pos h]; exact ncut_ct p K x i j on h.1 h.2
  · rw [if_neg h,if_neg h]; exact ncutx_ct p K x i j on h
theorem cutE_iff {a b : Int} (ha : 0 ≤ a) (hb : 0 ≤ b) : (cutE a b = 0) = (a < 64 ∧ b < 64) := by
  unfold cutE; split <;> simp <;> omega
theorem cut_T {a b : Int} {on : Bool} (ha : 0 ≤ a) (hb : 0 ≤ b) (q : Int × Int) : (q ∈ (nx0.cutF a b on).T) = (on = true ∧ (a < 64 ∧ b < 64) ∧ q = (a,b)) := by
  unfold NX.cutF
  split
  · rename_i h
    cases on
    · simp [NX.cut,nx0]
    · simp [NX.cut,nx0,lkPut]; omega
  · simp [nx0]; omega
theorem cut_ps {a b : Int} {on : Bool} : (nx0.cutF a b on).ps = [] ∧ (nx0.cutF a b on).sent = 0 ∧ (nx0.cutF a b on).lost = 0 := by
  unfold NX.cutF; split <;> exact ⟨rfl,rfl,rfl⟩
theorem send_no {x : NX} {m : Msg} (h : ¬ (encFo m).1 = 0) : x.send m = x := by rw [NX.send,if_neg h]
theorem send_len {x : NX} {m : Msg} (h : (encFo m).1 = 0) (hp : x.ps = []) : (((x.send m).ps.length : Int) = 0) = ((m.src,m.dst) ∈ x.T) := by
  rw [NX.send,if_pos h,hp]
  split <;> simp_all
theorem send_lost {x : NX} {m : Msg} (h : (encFo m).1 = 0) (hp : x.ps = []) (hl : x.lost = 0) : ((x.send m).lost = 1) = ((m.src,m.dst) ∈ x.T) := by
  rw [NX.send,if_pos h,hp]
  split <;> simp_all
theorem netCut_ct (m : Msg) (s : Lie) (a b : Int) (on : Bool) (hm : MsgLen m) (hn : 0 ≤ m.nonce ∧ m.nonce < 18446744073709551616) (ha : 0 ≤ a ∧ a ≤ 255) (hb : 0 ≤ b ∧ b ≤ 255) : Ct Tryz.prog 4 [msgV m s,.int .u8 a,.int .u8 b,.bool on] [] (msgQ m s) (fun u G Q => u = .bool true ∧ G = [] ∧ Q = []) := by
 have w1 : IntKind.i64.wrap a = a := w64 (by omega) (by omega)
 have w2 : IntKind.i64.wrap b = b := w64 (by omega) (by omega)
 have x0 := cut_ps (a := a) (b := b) (on := on)
 have fc := cutE_iff ha.1 hb.1
 have fs := fun h : (encFo m).1 = 0 => (send_len h x0.1).trans (cut_T ha.1 hb.1 _)
 have fl := fun h : (encFo m).1 = 0 => (send_lost h x0.1 x0.2.2).trans (cut_T ha.1 hb.1 _)
 have fn := fun h : ¬ (encFo m).1 = 0 => send_no (x := nx0.cutF a b on) h
 refine Ct.intro Tryz.func4 rfl rfl rfl (fun c hc => ?_)
 refine GC.sr_ ?_;refine GL.step rfl (t_box rfl rfl rfl) (GL.ex fun b_t4 => ?_);refine GL.rz 1 ?_;refine GC.seq' ?_;refine GC.sr_ ?_;refine GL.cl Tryz.call8 [] [] rfl rfl rfl (by exact nawake_ct) ?_
 rintro _ _ _ ⟨rfl,rfl,rfl⟩
 refine GL.rz 1 ?_;refine GC.cond_false rfl ?_
 refine GC.skip (?_ : GC _ _ _ _)
 refine GC.sr_ ?_;refine GL.step rfl (t_alloc rfl ze_42) (GL.ex fun b_t9 => ?_);refine GL.nl_ ?_;refine GC.sr_ ?_;refine GL.net0 [0] rfl ?_;refine GL.rn 1 ?_;refine GL.pure rfl (p_convR (t := 5) (r := a) (by rw [Tryz.underlying5]; simp) Tryz.underlying3 rfl w1) ?_
 refine GL.rn 1 ?_;refine GL.pure rfl (p_convR (t := 5) (r := b) (by rw [Tryz.underlying5]; simp) Tryz.underlying3 rfl w2) ?_
 refine GL.rn 1 ?_;refine GL.cl Tryz.call14 [0] [] rfl rfl rfl (by exact ncutF_ct _ _ _ _ _ _) ?_
 rintro _ _ _ ⟨K21,rfl,rfl,rfl⟩
 refine GL.rz 1 ?_;refine GC.seq' ?_;refine GC.rr 5 ?_;refine GL.sp 26 ?_ ?_
 ·intro h1; try simp only [tst_] at h1
  refine GL.rn 3 ?_;refine GL.pure rfl (p_bneq Tryz.underlying4 rfl rfl) ?_;refine GL.nl_ ?_;refine GC.co ?_ ?_
  ·intro h2; try simp only [tst_] at h2
   refine GC.rg 1 ?_;refine GC.ret (Fin.b1 8 [] [] ?_)
   refine ⟨congrArg Value.bool ?_,rfl,rfl⟩
   simp_all <;> omega
  intro h2; try simp only [tst_] at h2
  refine GC.skip (?_ : GC _ _ _ _)
  refine GC.seq' ?_;refine GC.sr_ ?_;refine GL.ln_ 1 28 ?_;refine GL.cl Tryz.call9 [] (up 0 8) rfl rfl rfl (by exact size_ct m s hm) ?_
  rintro _ _ _ ⟨z32,hz32,rfl,rfl,rfl⟩
  refine GL.rn 2 ?_;refine GL.sp 34 ?_ ?_
  ·intro h3; try simp only [tst_] at h3
   refine GL.rz 4 ?_;refine GC.cond_true rfl ?_;refine GC.sr_ ?_;refine GL.cl Tryz.call15 [0] [] rfl rfl rfl (by exact nlen_ct _ _ _) ?_
   rintro _ _ _ ⟨K39,rfl,rfl,rfl⟩
   refine GL.rz 2 ?_;refine GC.ret (Fin.b1 8 [] [] ?_)
   refine ⟨congrArg Value.bool ?_,rfl,rfl⟩
   simp_all <;> omega
  intro h3; try simp only [tst_] at h3
  refine GL.lg_ 1 28 ?_;refine GL.stepG rfl (s := 34) rfl rfl (t_call rfl Tryz.call10 rfl (is := [0]) (js := (up 0 8)) rfl rfl (by exact nsend_ct _ _ _ m s hm hn (hz32 (by omega)) (by rw [x0.2.1]; omega) (by rw [x0.2.2]; omega))) (GL.ret ?_)
  rintro _ _ _ ⟨K36,rfl,rfl,rfl⟩
  refine GL.rz 2 ?_;refine GC.co ?_ ?_
  ·intro h4; try simp only [tst_] at h4
   refine GC.sr_ ?_;refine GL.cl Tryz.call15 [0] [] rfl rfl rfl (by exact nlen_ct _ _ _) ?_
   rintro _ _ _ ⟨K39,rfl,rfl,rfl⟩
   refine GL.rz 2 ?_;refine GC.ret (Fin.b1 8 [] [] ?_)
   refine ⟨congrArg Value.bool ?_,rfl,rfl⟩
   simp_all <;> omega
  intro h4; try simp only [tst_] at h4
  refine GC.skip (?_ : GC _ _ _ _)
  refine GC.rr 2 ?_;refine GL.sp 42 ?_ ?_
  ·intro h5; try simp only [tst_] at h5
   refine GL.rn 4 ?_;refine GL.sp 46 ?_ ?_
   ·intro h6; try simp only [tst_] at h6
    refine GL.rn 1 ?_;refine GL.dg_ 1 ?_;refine GL.rn 1 ?_;refine GL.pureG (s := 46) rfl rfl rfl (p_convR (t := 5) (r := a) (by rw [Tryz.underlying5]; simp) Tryz.underlying3 rfl w1) ?_
    refine GL.rn 3 ?_;refine GL.sp 53 ?_ ?_
    ·intro h7; try simp only [tst_] at h7
     refine GL.rn 1 ?_;refine GL.dg_ 1 ?_;refine GL.rn 1 ?_;refine GL.pureG (s := 53) rfl rfl rfl (p_convR (t := 5) (r := b) (by rw [Tryz.underlying5]; simp) Tryz.underlying3 rfl w2) ?_
     refine GL.rz 3 ?_;refine GC.sr_ ?_;refine GL.cl Tryz.call16 [0] [] rfl rfl rfl (by exact ncounts_ct _ _ _) ?_
     rintro _ _ _ ⟨K61,rfl,rfl,rfl⟩
     refine GL.rz 5 ?_;refine GC.rr 1 ?_;refine GL.cl Tryz.call15 [0] [] rfl rfl rfl (by exact nlen_ct _ _ _) ?_
     rintro _ _ _ ⟨K65,rfl,rfl,rfl⟩
     refine GL.rn 1 ?_;refine GL.pure rfl (p_beql Tryz.underlying4 rfl rfl) ?_;refine GL.rn 1 ?_;refine GL.sp 68 ?_ ?_
     ·intro h8; try simp only [tst_] at h8
      refine GL.rn 3 ?_;refine GL.pureG (s := 68) rfl rfl rfl (p_beql Tryz.underlying4 rfl rfl) ?_;refine GL.rz 2 ?_;refine GC.ret (Fin.b1 8 [] [] ?_)
      refine ⟨congrArg Value.bool ?_,rfl,rfl⟩
      simp_all <;> omega
     intro h8; try simp only [tst_] at h8
     refine GL.rz 6 ?_;refine GC.ret (Fin.b1 8 [] [] ?_)
     refine ⟨congrArg Value.bool ?_,rfl,rfl⟩
     simp_all <;> omega
    intro h7; try simp only [tst_] at h7
    refine GL.rz 7 ?_;refine GC.sr_ ?_;refine GL.cl Tryz.call16 [0] [] rfl rfl rfl (by exact ncounts_ct _ _ _) ?_
    rintro _ _ _ ⟨K61,rfl,rfl,rfl⟩
    refine GL.rz 5 ?_;refine GC.rr 1 ?_;refine GL.cl Tryz.call15 [0] [] rfl rfl rfl (by exact nlen_ct _ _ _) ?_
    rintro _ _ _ ⟨K65,rfl,rfl,rfl⟩
    refine GL.rn 1 ?_;refine GL.pure rfl (p_beql Tryz.underlying4 rfl rfl) ?_;refine GL.rn 1 ?_;refine GL.sp 68 ?_ ?_
    ·intro h9; try simp only [tst_] at h9
     refine GL.rn 3 ?_;refine GL.pureG (s := 68) rfl rfl rfl (p_beql Tryz.underlying4 rfl rfl) ?_;refine GL.rz 2 ?_;refine GC.ret (Fin.b1 8 [] [] ?_)
     refine ⟨congrArg Value.bool ?_,rfl,rfl⟩
     simp_all <;> omega
    intro h9; try simp only [tst_] at h9
    refine GL.rz 6 ?_;refine GC.ret (Fin.b1 8 [] [] ?_)
    refine ⟨congrArg Value.bool ?_,rfl,rfl⟩
    simp_all <;> omega
   intro h6; try simp only [tst_] at h6
   refine GL.rz 14 ?_;refine GC.sr_ ?_;refine GL.cl Tryz.call16 [0] [] rfl rfl rfl (by exact ncounts_ct _ _ _) ?_
   rintro _ _ _ ⟨K61,rfl,rfl,rfl⟩
   refine GL.rz 5 ?_;refine GC.rr 1 ?_;refine GL.cl Tryz.call15 [0] [] rfl rfl rfl (by exact nlen_ct _ _ _) ?_
   rintro _ _ _ ⟨K65,rfl,rfl,rfl⟩
   refine GL.rn 1 ?_;refine GL.pure rfl (p_beql Tryz.underlying4 rfl rfl) ?_;refine GL.rn 1 ?_;refine GL.sp 68 ?_ ?_
   ·intro h10; try simp only [tst_] at h10
    refine GL.rn 3 ?_;refine GL.pureG (s := 68) rfl rfl rfl (p_beql Tryz.underlying4 rfl rfl) ?_;refine GL.rz 2 ?_;refine GC.ret (Fin.b1 8 [] [] ?_)
    refine ⟨congrArg Value.bool ?_,rfl,rfl⟩
    simp_all <;> omega
   intro h10; try simp only [tst_] at h10
   refine GL.rz 6 ?_;refine GC.ret (Fin.b1 8 [] [] ?_)
   refine ⟨congrArg Value.bool ?_,rfl,rfl⟩
   simp_all <;> omega
  intro h5; try simp only [tst_] at h5
  refine GL.rz 18 ?_;refine GC.sr_ ?_;refine GL.cl Tryz.call16 [0] [] rfl rfl rfl (by exact ncounts_ct _ _ _) ?_
  rintro _ _ _ ⟨K61,rfl,rfl,rfl⟩
  refine GL.rz 5 ?_;refine GC.rr 1 ?_;refine GL.cl Tryz.call15 [0] [] rfl rfl rfl (by exact nlen_ct _ _ _) ?_
  rintro _ _ _ ⟨K65,rfl,rfl,rfl⟩
  refine GL.rn 1 ?_;refine GL.pure rfl (p_beql Tryz.underlying4 rfl rfl) ?_;refine GL.rn 1 ?_;refine GL.sp 68 ?_ ?_
  ·intro h11; try simp only [tst_] at h11
   refine GL.rn 3 ?_;refine GL.pureG (s := 68) rfl rfl rfl (p_beql Tryz.underlying4 rfl rfl) ?_;refine GL.rz 2 ?_;refine GC.ret (Fin.b1 8 [] [] ?_)
   refine ⟨congrArg Value.bool ?_,rfl,rfl⟩
   simp_all <;> omega
  intro h11; try simp only [tst_] at h11
  refine GL.rz 6 ?_;refine GC.ret (Fin.b1 8 [] [] ?_)
  refine ⟨congrArg Value.bool ?_,rfl,rfl⟩
  simp_all <;> omega
 intro h1; try simp only [tst_] at h1
 refine GL.rn 3 ?_;refine GL.pure rfl (p_bneq Tryz.underlying4 rfl rfl) ?_;refine GL.nl_ ?_;refine GC.co ?_ ?_
 ·intro h12; try simp only [tst_] at h12
  refine GC.rg 1 ?_;refine GC.ret (Fin.b1 8 [] [] ?_)
  refine ⟨congrArg Value.bool ?_,rfl,rfl⟩
  simp_all <;> omega
 intro h12; try simp only [tst_] at h12
 refine GC.skip (?_ : GC _ _ _ _)
 refine GC.seq' ?_;refine GC.sr_ ?_;refine GL.ln_ 1 28 ?_;refine GL.cl Tryz.call9 [] (up 0 8) rfl rfl rfl (by exact size_ct m s hm) ?_
 rintro _ _ _ ⟨z32,hz32,rfl,rfl,rfl⟩
 refine GL.rn 2 ?_;refine GL.sp 34 ?_ ?_
 ·intro h13; try simp only [tst_] at h13
  refine GL.rz 4 ?_;refine GC.cond_true rfl ?_;refine GC.sr_ ?_;refine GL.cl Tryz.call15 [0] [] rfl rfl rfl (by exact nlen_ct _ _ _) ?_
  rintro _ _ _ ⟨K39,rfl,rfl,rfl⟩
  refine GL.rz 2 ?_;refine GC.ret (Fin.b1 8 [] [] ?_)
  refine ⟨congrArg Value.bool ?_,rfl,rfl⟩
  simp_all <;> omega
 intro h13; try simp only [tst_] at h13
 refine GL.lg_ 1 28 ?_;refine GL.stepG rfl (s := 34) rfl rfl (t_call rfl Tryz.call10 rfl (is := [0]) (js := (up 0 8)) rfl rfl (by exact nsend_ct _ _ _ m s hm hn (hz32 (by omega)) (by rw [x0.2.1]; omega) (by rw [x0.2.2]; omega))) (GL.ret ?_)
 rintro _ _ _ ⟨K36,rfl,rfl,rfl⟩
 refine GL.rz 2 ?_;refine GC.co ?_ ?_
 ·intro h14; try simp only [tst_] at h14
  refine GC.sr_ ?_;refine GL.cl Tryz.call15 [0] [] rfl rfl rfl (by exact nlen_ct _ _ _) ?_
  rintro _ _ _ ⟨K39,rfl,rfl,rfl⟩
  refine GL.rz 2 ?_;refine GC.ret (Fin.b1 8 [] [] ?_)
  refine ⟨congrArg Value.bool ?_,rfl,rfl⟩
  simp_all <;> omega
 intro h14; try simp only [tst_] at h14
 refine GC.skip (?_ : GC _ _ _ _)
 refine GC.rr 2 ?_;refine GL.sp 42 ?_ ?_
 ·intro h15; try simp only [tst_] at h15
  refine GL.rn 4 ?_;refine GL.sp 46 ?_ ?_
  ·intro h16; try simp only [tst_] at h16
   refine GL.rn 1 ?_;refine GL.dg_ 1 ?_;refine GL.rn 1 ?_;refine GL.pureG (s := 46) rfl rfl rfl (p_convR (t := 5) (r := a) (by rw [Tryz.underlying5]; simp) Tryz.underlying3 rfl w1) ?_
   refine GL.rn 3 ?_;refine GL.sp 53 ?_ ?_
   ·intro h17; try simp only [tst_] at h17
    refine GL.rn 1 ?_;refine GL.dg_ 1 ?_;refine GL.rn 1 ?_;refine GL.pureG (s := 53) rfl rfl rfl (p_convR (t := 5) (r := b) (by rw [Tryz.underlying5]; simp) Tryz.underlying3 rfl w2) ?_
    refine GL.rz 3 ?_;refine GC.sr_ ?_;refine GL.cl Tryz.call16 [0] [] rfl rfl rfl (by exact ncounts_ct _ _ _) ?_
    rintro _ _ _ ⟨K61,rfl,rfl,rfl⟩
    refine GL.rz 5 ?_;refine GC.rr 1 ?_;refine GL.cl Tryz.call15 [0] [] rfl rfl rfl (by exact nlen_ct _ _ _) ?_
    rintro _ _ _ ⟨K65,rfl,rfl,rfl⟩
    refine GL.rn 1 ?_;refine GL.pure rfl (p_beql Tryz.underlying4 rfl rfl) ?_;refine GL.rn 1 ?_;refine GL.sp 68 ?_ ?_
    ·intro h18; try simp only [tst_] at h18
     refine GL.rn 3 ?_;refine GL.pureG (s := 68) rfl rfl rfl (p_beql Tryz.underlying4 rfl rfl) ?_;refine GL.rz 2 ?_;refine GC.ret (Fin.b1 8 [] [] ?_)
     refine ⟨congrArg Value.bool ?_,rfl,rfl⟩
     simp_all <;> omega
    intro h18; try simp only [tst_] at h18
    refine GL.rz 6 ?_;refine GC.ret (Fin.b1 8 [] [] ?_)
    refine ⟨congrArg Value.bool ?_,rfl,rfl⟩
    simp_all <;> omega
   intro h17; try simp only [tst_] at h17
   refine GL.rz 7 ?_;refine GC.sr_ ?_;refine GL.cl Tryz.call16 [0] [] rfl rfl rfl (by exact ncounts_ct _ _ _) ?_
   rintro _ _ _ ⟨K61,rfl,rfl,rfl⟩
   refine GL.rz 5 ?_;refine GC.rr 1 ?_;refine GL.cl Tryz.call15 [0] [] rfl rfl rfl (by exact nlen_ct _ _ _) ?_
   rintro _ _ _ ⟨K65,rfl,rfl,rfl⟩
   refine GL.rn 1 ?_;refine GL.pure rfl (p_beql Tryz.underlying4 rfl rfl) ?_;refine GL.rn 1 ?_;refine GL.sp 68 ?_ ?_
   ·intro h19; try simp only [tst_] at h19
    refine GL.rn 3 ?_;refine GL.pureG (s := 68) rfl rfl rfl (p_beql Tryz.underlying4 rfl rfl) ?_;refine GL.rz 2 ?_;refine GC.ret (Fin.b1 8 [] [] ?_)
    refine ⟨congrArg Value.bool ?_,rfl,rfl⟩
    simp_all <;> omega
   intro h19; try simp only [tst_] at h19
   refine GL.rz 6 ?_;refine GC.ret (Fin.b1 8 [] [] ?_)
   refine ⟨congrArg Value.bool ?_,rfl,rfl⟩
   simp_all <;> omega
  intro h16; try simp only [tst_] at h16
  refine GL.rz 14 ?_;refine GC.sr_ ?_;refine GL.cl Tryz.call16 [0] [] rfl rfl rfl (by exact ncounts_ct _ _ _) ?_
  rintro _ _ _ ⟨K61,rfl,rfl,rfl⟩
  refine GL.rz 5 ?_;refine GC.rr 1 ?_;refine GL.cl Tryz.call15 [0] [] rfl rfl rfl (by exact nlen_ct _ _ _) ?_
  rintro _ _ _ ⟨K65,rfl,rfl,rfl⟩
  refine GL.rn 1 ?_;refine GL.pure rfl (p_beql Tryz.underlying4 rfl rfl) ?_;refine GL.rn 1 ?_;refine GL.sp 68 ?_ ?_
  ·intro h20; try simp only [tst_] at h20
   refine GL.rn 3 ?_;refine GL.pureG (s := 68) rfl rfl rfl (p_beql Tryz.underlying4 rfl rfl) ?_;refine GL.rz 2 ?_;refine GC.ret (Fin.b1 8 [] [] ?_)
   refine ⟨congrArg Value.bool ?_,rfl,rfl⟩
   simp_all <;> omega
  intro h20; try simp only [tst_] at h20
  refine GL.rz 6 ?_;refine GC.ret (Fin.b1 8 [] [] ?_)
  refine ⟨congrArg Value.bool ?_,rfl,rfl⟩
  simp_all <;> omega
 intro h15; try simp only [tst_] at h15
 refine GL.rz 18 ?_;refine GC.sr_ ?_;refine GL.cl Tryz.call16 [0] [] rfl rfl rfl (by exact ncounts_ct _ _ _) ?_
 rintro _ _ _ ⟨K61,rfl,rfl,rfl⟩
 refine GL.rz 5 ?_;refine GC.rr 1 ?_;refine GL.cl Tryz.call15 [0] [] rfl rfl rfl (by exact nlen_ct _ _ _) ?_
 rintro _ _ _ ⟨K65,rfl,rfl,rfl⟩
 refine GL.rn 1 ?_;refine GL.pure rfl (p_beql Tryz.underlying4 rfl rfl) ?_;refine GL.rn 1 ?_;refine GL.sp 68 ?_ ?_
 ·intro h21; try simp only [tst_] at h21
  refine GL.rn 3 ?_;refine GL.pureG (s := 68) rfl rfl rfl (p_beql Tryz.underlying4 rfl rfl) ?_;refine GL.rz 2 ?_;refine GC.ret (Fin.b1 8 [] [] ?_)
  refine ⟨congrArg Value.bool ?_,rfl,rfl⟩
  simp_all <;> omega
 intro h21; try simp only [tst_] at h21
 refine GL.rz 6 ?_;refine GC.ret (Fin.b1 8 [] [] ?_)
 refine ⟨congrArg Value.bool ?_,rfl,rfl⟩
 simp_all <;> omega
def nxF (F : List UInt8) (bad : Bool) : NX := ⟨[⟨F,bad⟩],[],1,0⟩
theorem nx0_send {m : Msg} (h : (encFo m).1 = 0) : nx0.send m = nxF (encFo m).2 false := by rw [NX.send,if_pos h,if_neg (by simp [nx0])]; rfl
theorem sp_bytes (p : Nat) (K : List Nat) (F : List UInt8) (hl : F.length ≤ 140737488355328) : Ct Tryz.prog 18 [.pointer (some ⟨p,0,none⟩),.int .i64 0] [netO p K (nxF F false)] [] (fun v G Q => ∃ K A cp,F.length ≤ cp ∧ cp ≤ 9223372036854775807 ∧ v = .tuple #[.slice A F.length cp,.int .i64 0] ∧ G = [netO p K (nxF F false),rowOf A cp F] ∧ Q = []) :=
  nbytes_ct p K (nxF F false) 0 ⟨by decide,by show (0 : Int) < ((1 : Nat) : Int); decide⟩ hl
theorem sp_spoil (p : Nat) (K : List Nat) (F : List UInt8) (k : Nat) (x : UInt8) (hk : k < F.length) : Ct Tryz.prog 19 [.pointer (some ⟨p,0,none⟩),.int .i64 0,.int .i64 (k : Int),.int .u8 (x.toNat : Int)] [netO p K (nxF F false)] [] (NetS p (.int .i64 0) (nxF (F.set k (gt F (k : Int) ^^^ x)) true)) := by
  have h := nspoil_ct p K (nxF F false) 0 (k : Int) x
  have e : (nxF F false).spoil 0 (k : Int) x = (0,nxF (F.set k (gt F (k : Int) ^^^ x)) true) := by
    rw [NX.spoil,if_pos ⟨by decide,by show (0 : Int) < ((1 : Nat) : Int); decide,by omega,by show (k : Int) < (F.length : Int); omega⟩,if_neg (by show ¬ (false = true); decide)]
    rfl
  rw [e] at h; exact h
theorem sp_take (p : Nat) (K : List Nat) (F : List UInt8) (hl : F.length ≤ 140737488355328) (hb : rdBad F) : Ct Tryz.prog 11 [.pointer (some ⟨p,0,none⟩),.int .i64 0,.bool true] [netO p K (nxF F true)] [] (fun u G Q => ∃ (K : List Nat) (e : Int),e ≠ 0 ∧ u = .tuple #[msgZ,.int .i64 e] ∧ G = [netO p K (nxF F true)] ∧ Q = msgQ zms ⟨none,0,none,0,none,0,none,0,none,0,none,0,none,0,none,0⟩) :=
  ntakeb_ct p K (nxF F true) 0 true ⟨by decide,by show (0 : Int) < ((1 : Nat) : Int); decide⟩ hl hb
theorem tmodN (a b : Nat) : ((a : Nat) : Int).tmod ((b : Nat) : Int) = ((a % b : Nat) : Int) := rfl
theorem netSpoilt_ct (m : Msg) (s : Lie) (n : Nat) (x : UInt8) (hm : MsgLen m) (hn : 0 ≤ m.nonce ∧ m.nonce < 18446744073709551616) (hn1 : n < 65536) : Ct Tryz.prog 6 [msgV m s,.int .u16 (n : Int),.int .u8 (x.toNat : Int)] [] (msgQ m s) (fun u G Q => u = .bool true ∧ G = [] ∧ Q = []) := by
 refine Ct.intro Tryz.func6 rfl rfl rfl (fun c hc => ?_)
 refine GC.sr_ ?_;refine GL.step rfl (t_box rfl rfl rfl) (GL.ex fun b_t3 => ?_);refine GL.rz 1 ?_;refine GC.seq' ?_;refine GC.sr_ ?_;refine GL.cl Tryz.call8 [] [] rfl rfl rfl (by exact nawake_ct) ?_
 rintro _ _ _ ⟨rfl,rfl,rfl⟩
 refine GL.rz 1 ?_;refine GC.cond_false rfl ?_
 refine GC.skip (?_ : GC _ _ _ _)
 refine GC.sr_ ?_;refine GL.step rfl (t_alloc rfl ze_42) (GL.ex fun b_t7 => ?_);refine GL.nl_ ?_;refine GC.seq' ?_;refine GC.sr_ ?_;refine GL.net0 [0] rfl ?_;refine GL.ln_ 1 28 ?_;refine GL.cl Tryz.call9 [] (up 0 8) rfl rfl rfl (by exact size_ct m s hm) ?_
 rintro _ _ _ ⟨z15,hz15,rfl,rfl,rfl⟩
 refine GL.rn 2 ?_;refine GL.sp 17 ?_ ?_
 ·intro h1; try simp only [tst_] at h1
  refine GL.rz 8 ?_;refine GC.cond_true rfl ?_;refine GC.rg 1 ?_;refine GC.ret (Fin.b1 6 [] [] ?_)
  exact ⟨rfl,rfl,rfl⟩
 intro h1; try simp only [tst_] at h1
 refine GL.lg_ 1 28 ?_;refine GL.stepG rfl (s := 17) rfl rfl (t_call rfl Tryz.call10 rfl (is := [0]) (js := (up 0 8)) rfl rfl (by exact nsend_ct _ _ nx0 m s hm hn (hz15 (by omega)) ⟨by decide,by decide⟩ ⟨by decide,by decide⟩)) (GL.ret ?_)
 rintro _ _ _ ⟨K19,rfl,rfl,rfl⟩
 refine GL.rn 3 ?_;refine GL.sp 22 ?_ ?_
 ·intro h2; try simp only [tst_] at h2
  refine GL.rz 3 ?_;refine GC.cond_true rfl ?_;refine GC.rg 1 ?_;refine GC.ret (Fin.b1 6 [] [] ?_)
  exact ⟨rfl,rfl,rfl⟩
 intro h2; try simp only [tst_] at h2
 refine GL.rz 3 ?_;refine GC.co ?_ ?_
 ·intro h3; try simp only [tst_] at h3
  refine GC.rg 1 ?_;refine GC.ret (Fin.b1 6 [] [] ?_)
  exact ⟨rfl,rfl,rfl⟩
 intro h3; try simp only [tst_] at h3
 refine GC.skip (?_ : GC _ _ _ _)
 refine GC.sr_ ?_
 have hE : (encFo m).1 = 0 := by assumption
 obtain ⟨hok,hL,hF⟩ := encFo_inv hE
 have hfl : (encFo m).2.length = (bodyB m).length + 20 := by rw [hF,frameB_len]
 have hk : n % (encFo m).2.length < (encFo m).2.length := Nat.mod_lt _ (by omega)
 have hx : x ≠ 0 := fun e => by subst e; exact absurd rfl h3
 rw [nx0_send hE]
 refine GL.cl Tryz.call18 [0] [] rfl rfl rfl (by exact sp_bytes _ _ (encFo m).2 (by omega)) ?_
 rintro _ _ _ ⟨K27,A27,cp27,l27,k27,rfl,rfl,rfl⟩
 refine GL.rz 5 ?_;refine GC.seq' ?_;refine GC.rr 8 ?_;refine GL.sp 37 ?_ ?_
 ·intro h4; try simp only [tst_] at h4
  exfalso; omega
 intro h4; try simp only [tst_] at h4
 refine GL.rn 1 ?_;refine GL.pureG (s := 37) rfl rfl rfl (p_convR (t := 90) (r := (n : Int)) (by rw [Tryz.underlying90]; simp) Tryz.underlying3 rfl (w64 (by omega) (by omega))) ?_
 refine GL.rn 2 ?_;refine GL.pureG (s := 37) rfl rfl rfl (p_rem (r := ((n % (encFo m).2.length : Nat) : Int)) rfl rfl (by omega) (tmodN _ _)) ?_;refine GL.rn 1 ?_;refine GL.stepG rfl (s := 37) rfl rfl (t_call rfl Tryz.call19 rfl (is := [0]) (js := []) rfl rfl (by exact sp_spoil _ _ (encFo m).2 (n % (encFo m).2.length) x hk)) (GL.ret ?_)
 rintro _ _ _ ⟨K44,rfl,rfl,rfl⟩
 refine GL.rz 2 ?_;refine GC.cond_false rfl ?_
 refine GC.skip (?_ : GC _ _ _ _)
 refine GC.sr_ ?_;refine GL.cl Tryz.call11 [0] [] rfl rfl rfl (by exact sp_take _ _ ((encFo m).2.set (n % (encFo m).2.length) (gt (encFo m).2 ((n % (encFo m).2.length : Nat) : Int) ^^^ x)) (by rw [List.length_set]; omega) (dz_turn hF hL hk hx)) ?_
 rintro _ _ _ ⟨K48,e48,he48,rfl,rfl,rfl⟩
 refine GL.rn 3 ?_;refine GL.step rfl (t_alloc rfl ze_64) (GL.ex fun b_t10 => ?_);refine GL.sn_ 0 ?_;refine GL.rz 1 ?_;refine GC.rr 3 ?_;refine GL.sp 53 ?_ ?_
 ·intro h5; try simp only [tst_] at h5
  refine GL.lg_ 0 28 ?_;refine GL.pureG (s := 53) rfl rfl rfl (p_build ze_64 of_64 rfl rfl) ?_;refine GL.stepG rfl (s := 53) rfl rfl (t_call rfl Tryz.call12 rfl (is := []) (js := []) rfl rfl (by exact same_zz)) (GL.ret ?_)
  rintro _ _ _ ⟨rfl,rfl,rfl⟩
  refine GL.rn 2 ?_;refine GL.stepG rfl (s := 58) rfl rfl (t_call rfl Tryz.call15 rfl (is := [1]) (js := []) rfl rfl (by exact nlen_ct _ _ _)) (GL.ret ?_)
  rintro _ _ _ ⟨K59,rfl,rfl,rfl⟩
  refine GL.rz 3 ?_;refine GC.ret (Fin.b1 6 [] [] ?_)
  exact ⟨rfl,rfl,rfl⟩
 intro h5; try simp only [tst_] at h5
 exfalso; exact absurd (by assumption) (by assumption)
theorem u8r_of {n : Int} (h : (Lit.int .u8 n).wf = true) : 0 ≤ n ∧ n ≤ 255 := by
  simp [Lit.wf,IntKind.min,IntKind.max,IntKind.signed,IntKind.bits] at h
  exact h
theorem u16_of {n : Int} (h : (Lit.int .u16 n).wf = true) : ∃ k : Nat,n = (k : Int) ∧ k < 65536 := by
  have h2 : 0 ≤ n ∧ n ≤ 65535 := by
    simp [Lit.wf,IntKind.min,IntKind.max,IntKind.signed,IntKind.bits] at h
    exact h
  exact ⟨n.toNat,by omega,by omega⟩
structure NOp where
  kind : Int
  m : Msg
  i : Int
  at_ : Int
  x : Int
  on : Bool
  deriving Inhabited,DecidableEq
def kNOp : Kd NOp := Kd.iso (Kd.pair (Kd.int .i64) (Kd.pair kMsg (Kd.pair (Kd.int .i64) (Kd.pair (Kd.int .i64) (Kd.pair (Kd.int .u8) (Kd.bool)))))) (fun r => (r.kind,r.m,r.i,r.at_,r.x,r.on))
def okNOp (r : NOp) : Prop := ((Lit.int .i64 r.kind).wf = true) ∧ (okMsg r.m) ∧ ((Lit.int .i64 r.i).wf = true) ∧ ((Lit.int .i64 r.at_).wf = true) ∧ ((Lit.int .u8 r.x).wf = true) ∧ (True)
theorem opensNOp : Opens Tryz.prog 66 kNOp okNOp := Opens.struct Tryz.underlying66 (OpensF.cons (Opens.int Tryz.underlying3) (by kernel_rfl) rfl (OpensF.cons opensMsg (by kernel_rfl) rfl (OpensF.cons (Opens.int Tryz.underlying3) (by kernel_rfl) rfl (OpensF.cons (Opens.int Tryz.underlying3) (by kernel_rfl) rfl (OpensF.cons (Opens.int Tryz.underlying5) (by kernel_rfl) rfl (OpensF.one (Opens.bool Tryz.underlying4) (by kernel_rfl))))))) (by kernel_rfl) (fun r : NOp => (r.kind,r.m,r.i,r.at_,r.x,r.on)) (fun p => (⟨p.1,p.2.1,p.2.2.1,p.2.2.2.1,p.2.2.2.2.1,p.2.2.2.2.2⟩ : NOp)) (fun _ => rfl)
theorem at_of {l : List Value} : ∀ {vs : List Value} {o : Nat},(∀ q v,nth vs q = some v → nth l (o + q) = some v) → at_ l o vs
  | [],_,_ => trivial
  | v :: vs,o,h => ⟨h 0 v rfl,at_of fun q u hq => by
      have := h (q + 1) u hq
      rwa [show o + (q + 1) = o + 1 + q by omega] at this⟩
structure NI (x : NX) (ms : List Msg) (k : Nat) : Prop where
  len : ms.length ≤ k
  s0 : 0 ≤ x.sent
  s1 : x.sent ≤ k
  l0 : 0 ≤ x.lost
  l1 : x.lost ≤ k
  fr : ∀ q ∈ x.ps,∃ m ∈ ms,FrB q.b m
  ml : ∀ m ∈ ms,MsgLen m
theorem NI.zero : NI nx0 [] 0 := ⟨by decide,by decide,by decide,by decide,by decide,fun q hq => (by cases hq),fun m hm => (by cases hm)⟩
theorem NI.same {x : NX} {ms : List Msg} {k : Nat} (h : NI x ms k) : NI x ms (k + 1) := ⟨by have := h.len; omega,h.s0,by have := h.s1; omega,h.l0,by have := h.l1; omega,h.fr,h.ml⟩
theorem NI.less {x y : NX} {ms : List Msg} {k : Nat} (h : NI x ms k) (g : (∀ q ∈ y.ps,q ∈ x.ps) ∧ y.sent = x.sent ∧ y.lost = x.lost) : NI y ms (k + 1) := by
  obtain ⟨g1,g2,g3⟩ := g
  have := h.same
  exact ⟨this.len,by rw [g2]; exact this.s0,by rw [g2]; exact this.s1,by rw [g3]; exact this.l0,by rw [g3]; exact this.l1,fun q hq => h.fr q (g1 q hq),h.ml⟩
theorem drop_less (x : NX) (i : Int) : (∀ q ∈ (x.drop i).ps,q ∈ x.ps) ∧ (x.drop i).sent = x.sent ∧ (x.drop i).lost = x.lost := by
  unfold NX.drop
  split
  · exact ⟨fun q hq => List.mem_of_mem_eraseIdx hq,rfl,rfl⟩
  · exact ⟨fun q hq => hq,rfl,rfl⟩
theorem cutF_less (x : NX) (i j : Int) (on : Bool) : (∀ q ∈ (x.cutF i j on).ps,q ∈ x.ps) ∧ (x.cutF i j on).sent = x.sent ∧ (x.cutF i j on).lost = x.lost := by
  unfold NX.cutF
  split <;> exact ⟨fun q hq => hq,rfl,rfl⟩
theorem NI.sendNo {x : NX} {ms : List Msg} {k : Nat} {m : Msg} (h : NI x ms k) (he : ¬ (encFo m).1 = 0) : NI (x.send m) ms (k + 1) := by rw [send_no he]; exact h.same
theorem NI.send {x : NX} {ms : List Msg} {k : Nat} {m : Msg} (h : NI x ms k) (he : (encFo m).1 = 0) (hm : MsgLen m) (hn : 0 ≤ m.nonce ∧ m.nonce < 18446744073709551616) (hlog : m.log.length < 100000) : NI (x.send m) (ms ++ [m]) (k + 1) := by
  obtain ⟨hok,hL,hF⟩ := encFo_inv he
  have g1 := h.len; have g2 := h.s0; have g3 := h.s1; have g4 := h.l0; have g5 := h.l1
  have gm : ∀ x ∈ ms ++ [m],MsgLen x := fun x hx => (List.mem_append.1 hx).elim (h.ml x) fun hx => by rw [List.mem_singleton.1 hx]; exact hm
  have gf : ∀ q ∈ x.ps,∃ y ∈ ms ++ [m],FrB q.b y := fun q hq => by obtain ⟨y,hy,hf⟩ := h.fr q hq; exact ⟨y,List.mem_append_left _ hy,hf⟩
  rw [NX.send,if_pos he]
  split
  · exact ⟨by simp; omega,by show 0 ≤ x.sent + 1; omega,by show x.sent + 1 ≤ _; omega,by show 0 ≤ x.lost + 1; omega,by show x.lost + 1 ≤ _; omega,gf,gm⟩
  · refine ⟨by simp; omega,by show 0 ≤ x.sent + 1; omega,by show x.sent + 1 ≤ _; omega,g4,by show x.lost ≤ _; omega,fun q hq => ?_,gm⟩
    rcases List.mem_append.1 hq with hq | hq
    · exact gf q hq
    · rw [List.mem_singleton.1 hq]
      exact ⟨m,by simp,hok,hn,hlog,hL,hF⟩
def TakeOk (ms : List Msg) (e : Int) (m : Msg) : Prop := e = 5 ∨ (e = 0 ∧ m ∈ ms)
theorem ntakeA_ct (p : Nat) (K : List Nat) (x : NX) (i : Int) (keep : Bool) (ms : List Msg) (k : Nat) (hI : NI x ms k) : Ct Tryz.prog 11 [.pointer (some ⟨p,0,none⟩),.int .i64 i,.bool keep] [netO p K x] [] (fun u G Q => ∃ (K : List Nat) (s : Lie) (e : Int) (m : Msg) (y : NX),TakeOk ms e m ∧ NI y ms (k + 1) ∧ u = .tuple #[msgV m s,.int .i64 e] ∧ G = [netO p K y] ∧ Q = msgQ m s) := by
  by_cases hi : 0 ≤ i ∧ i < (x.ps.length : Int)
  · have hmem : gt x.ps i ∈ x.ps := List.mem_of_getElem? (gt_ok hi.1 hi.2)
    obtain ⟨m,hm,hF⟩ := hI.fr _ hmem
    refine Ct.mono (ntake_ct p K x i keep m hi hF) fun u G Q h => ?_
    obtain ⟨K,s,h1,h2,h3⟩ := h
    refine ⟨K,s,0,m,_,.inr ⟨rfl,hm⟩,hI.less ?_,h1,h2,h3⟩
    unfold NX.take
    split
    · exact ⟨fun q hq => hq,rfl,rfl⟩
    · exact drop_less x i
  · refine Ct.mono (ntakex_ct p K x i keep hi) fun u G Q h => ?_
    obtain ⟨K,h1,h2,h3⟩ := h
    exact ⟨K,_,5,zms,x,.inl rfl,hI.same,h1,h2,h3⟩
theorem take_scan {ms : List Msg} {e : Int} {m : Msg} {n j : Nat} {b : Bool} (h : TakeOk ms e m) (hn : n = ms.length) (hj : n ≤ j) (hb : (e = 5 ∨ (e = 0 ∧ ∃ i : Nat,i < j ∧ gt ms (i : Int) = m)) → b = true) : b = true := by
  refine hb (h.imp id fun ⟨h0,hm⟩ => ⟨h0,?_⟩)
  obtain ⟨i,hi,he⟩ := List.getElem_of_mem hm
  refine ⟨i,by omega,?_⟩
  unfold gt
  simp [List.getD_eq_getElem?_getD,hi,he]
theorem scan_next {ms : List Msg} {e : Int} {m : Msg} {j : Nat} {b : Bool} (hb : (e = 5 ∨ (e = 0 ∧ ∃ i : Nat,i < j ∧ gt ms (i : Int) = m)) → b = true) (h : b = false) : (e = 5 ∨ (e = 0 ∧ ∃ i : Nat,i < j + 1 ∧ gt ms (i : Int) = m)) → decide (m = gt ms (j : Int)) = true := by
  rintro (h1 | ⟨h0,i,hi,hm⟩)
  · rw [hb (.inl h1)] at h; cases h
  · rcases Nat.lt_succ_iff_lt_or_eq.1 hi with hi | rfl
    · rw [hb (.inr ⟨h0,i,hi,hm⟩)] at h; cases h
    · exact decide_eq_true hm.symm
theorem zq62_ {X : Prop} (h : X := by (exact fun a w h => ⟨(_),(by first | exact fun h => hz34 (by simpa using h) | exact fun h => by cases h),h.cut (is := [0,0,0]) (js := (up 0 11)) ⟨rfl,rfl,rfl,rfl,rfl,rfl,trivial⟩ rfl rfl⟩)) : X := h
theorem zq63_ {X : Prop} (h : X := by (exact fun a w h => ⟨(k + 1),(_),(_),(_),(n),(_),(_),(by omega),⟨by omega,hn,by first | exact hI.sendNo (by assumption) | exact hy55 | exact hI.less (drop_less _ _) | exact hI.less (cutF_less _ _ _ _) | exact hI.same⟩,h.cut (is := [0,1]) (js := [9,10]) ⟨rfl,rfl,rfl,rfl,trivial⟩ rfl rfl⟩)) : X := h
theorem zq64_ {X : Prop} (h : X := by (exact fun a w h => ⟨(k + 1),(_),(_),(_),(n),(_),(_),(by omega),⟨by omega,hn,by first | exact hI.sendNo (by assumption) | exact hy55 | exact hI.less (drop_less _ _) | exact hI.less (cutF_less _ _ _ _) | exact hI.same⟩,h.cut (is := [1,2]) (js := [17,18]) ⟨rfl,rfl,rfl,rfl,trivial⟩ rfl rfl⟩)) : X := h
theorem netOnly_ct (A : Option Addr) (l : List NOp) (cp : Nat) (hl : ∀ o ∈ l,MsgLen o.m ∧ 0 ≤ o.m.nonce ∧ o.m.nonce < 18446744073709551616) : Ct Tryz.prog 3 [.slice A l.length cp] [] [Pers.row kNOp A l] (fun u G Q => u = .bool true ∧ G = [] ∧ Q = []) := by
 refine Ct.intro Tryz.func3 rfl rfl rfl (fun c hc => ?_)
 refine GC.rg 1 ?_;refine GC.seq' ?_;refine GC.sr_ ?_;refine GL.cl Tryz.call8 [] [] rfl rfl rfl (by exact nawake_ct) ?_
 rintro _ _ _ ⟨rfl,rfl,rfl⟩
 refine GL.rz 1 ?_;refine GC.cond_false rfl ?_
 refine GC.skip (?_ : GC _ _ _ _)
 refine GC.sr_ ?_;refine GL.step rfl (t_alloc rfl ze_42) (GL.ex fun b_t3 => ?_);refine GL.nl_ ?_;refine GC.sr_ ?_;refine GL.net0 [0] rfl ?_;refine GL.rz 1 ?_;refine GC.seq' ?_;refine GC.sr_ ?_;refine GL.nilrow 64 28 ?_
 refine GL.know (q := Pers.reps kMsg [] []) (fun _ _ _ => rfl) ?_;refine GL.rz 1 ?_;refine GC.block ?_;refine GC.loopK7 (ks := [0,3]) (is := []) (js := [1]) (fun (k : Nat) (x : NX) (K : List Nat) (ms : List Msg) (n : Nat) (sv : Value) (cs : List Value) => k ≤ l.length ∧ n = ms.length ∧ NI x ms k) (fun (k : Nat) (x : NX) (K : List Nat) (ms : List Msg) (n : Nat) (sv : Value) (cs : List Value) => [(5,.int .i64 (k : Int)),(4,sv)]) (fun (k : Nat) (x : NX) (K : List Nat) (ms : List Msg) (n : Nat) (sv : Value) (cs : List Value) => [netO b_t3 K x,.row sv 64 28 n cs]) (fun (k : Nat) (x : NX) (K : List Nat) (ms : List Msg) (n : Nat) (sv : Value) (cs : List Value) => [Pers.reps kMsg ms cs]) (fun (k : Nat) (x : NX) (K : List Nat) (ms : List Msg) (n : Nat) (sv : Value) (cs : List Value) => l.length - k) (0) (nx0) (_) ([]) (0) (_) ([]) rfl rfl rfl (fun a w h => ⟨⟨by omega,rfl,NI.zero⟩,h.cutK (is := [1,0]) (js := [0,1]) (ks := [0,3]) ⟨rfl,rfl,trivial⟩ rfl rfl rfl⟩) ?_
 intro k x K ms n sv cs hI
 try dsimp only [List.cons_append,List.nil_append] at hI ⊢
 obtain ⟨hk,hn,hI⟩ := hI
 refine GC.seq' ?_;refine GC.rr 5 ?_;refine GL.sp 17 ?_ ?_
 ·intro h1; try simp only [tst_] at h1
  refine GL.rz 3 ?_;refine GC.co ?_ ?_
  ·intro h2; try simp only [tst_] at h2
   refine GC.skip (?_ : GC _ _ _ _)
   refine GC.seq' ?_;refine GC.block ?_;refine GC.sr_ ?_
   have hlk := hl _ (gt_elem (l := l) (k := k) (by omega))
   have hb1 := hI.s0
   have hb2 := hI.s1
   have hb3 := hI.l0
   have hb4 := hI.l1
   have hb0 := hI.len
   refine GL.rn 2 ?_;refine GL.step rfl (t_index (i := 1) rfl rfl rfl rfl Tryz.underlying22 sz_66 (by omega) (gt_ok (by omega) (by omega))) (GL.ex fun p_x25 => GL.ex fun r_x25 => GL.and fun ok_x25 => ?_)
   rcases r_x25 with ⟨_,⟨⟨_,⟨_,⟨_,⟨_,⟨_,⟨_,⟨_,⟨_,⟨_,⟨_,⟨_,⟨⟨_,⟨_,⟨_,⟨⟨Ax25_0,cpx25_0⟩,⟨Ax25_1,cpx25_1⟩⟩⟩⟩⟩,⟨⟨_,⟨Ax25_2,cpx25_2⟩⟩,⟨⟨_,⟨Ax25_3,cpx25_3⟩⟩,⟨⟨_,⟨⟨_,_⟩,⟨⟨Ax25_4,cpx25_4⟩,⟨⟨Ax25_5,cpx25_5⟩,⟨_,⟨Ax25_6,cpx25_6⟩⟩⟩⟩⟩⟩,⟨Ax25_7,cpx25_7⟩⟩⟩⟩⟩⟩⟩⟩⟩⟩⟩⟩⟩⟩⟩⟩,⟨_,⟨_,⟨_,_⟩⟩⟩⟩⟩
   refine GL.step rfl (t_mem rfl (m_loadPN (i := 0) rfl rfl ag_66 (vs := [_,_,_,_,_,_,_,_,_,_,_,_,_,_,_,_,_,_,_,_,_,_,_,_,_,_,_,_,_,_,_,_,_]) sz_66 ⟨rfl,rfl,rfl,rfl,rfl,rfl,rfl,rfl,rfl,rfl,rfl,rfl,rfl,rfl,rfl,rfl,rfl,rfl,rfl,rfl,rfl,rfl,rfl,rfl,rfl,rfl,rfl,rfl,rfl,rfl,rfl,rfl,rfl,trivial⟩)) ?_
   refine GL.step rfl (t_alloc rfl ze_66) (GL.ex fun b_t6 => ?_);refine GL.sn_ 0 ?_;refine GL.nl_ ?_;refine GC.block ?_;refine GC.joinK1 (ks := [0,3,4,5,6]) (is := [0,1,2]) (js := (up 0 11)) (fun (c_ : Bool) => (c_ = true → (gt l (k : Int)).m.log.length < 100000)) (fun (c_ : Bool) => [(27,.bool c_)]) (fun (c_ : Bool) => []) (fun (c_ : Bool) => []) rfl rfl rfl ?_ ?_
   ·refine GC.region ?_;refine GL.rn 1 ?_;refine GL.ld_ 0 ?_;refine GL.rn 2 ?_;refine GL.sp 31 ?_ ?_
    ·intro h3; try simp only [tst_] at h3
     refine GL.rn 1 ?_;refine GL.lg_ 0 28 ?_;refine GL.stepG rfl (s := 31) rfl rfl (t_call rfl Tryz.call9 rfl (is := []) (js := (up 1 8)) rfl rfl (by exact size_ct (gt l (k : Int)).m (⟨Ax25_0,cpx25_0,Ax25_1,cpx25_1,Ax25_2,cpx25_2,Ax25_3,cpx25_3,Ax25_4,cpx25_4,Ax25_5,cpx25_5,Ax25_6,cpx25_6,Ax25_7,cpx25_7⟩ : Lie) hlk.1)) (GL.ret ?_)
     rintro _ _ _ ⟨z34,hz34,rfl,rfl,rfl⟩
     refine GL.rn 3 ?_;refine GL.nil ?_
     exact zq62_
    intro h3; try simp only [tst_] at h3
    refine GL.rn 6 ?_;refine GL.nil ?_
    exact zq62_
   intro c_ hj9
   try dsimp only [List.cons_append,List.nil_append] at hj9 ⊢
   refine GC.co ?_ ?_
   ·intro h4; try simp only [tst_] at h4
    refine GC.rr 1 ?_;refine GL.ln_ 0 28 ?_;refine GL.cl Tryz.call10 [1] (up 1 8) rfl rfl rfl (by exact nsend_ct _ _ x (gt l (k : Int)).m (⟨Ax25_0,cpx25_0,Ax25_1,cpx25_1,Ax25_2,cpx25_2,Ax25_3,cpx25_3,Ax25_4,cpx25_4,Ax25_5,cpx25_5,Ax25_6,cpx25_6,Ax25_7,cpx25_7⟩ : Lie) hlk.1 hlk.2 (hj9 (by assumption)) (by omega) (by omega)) ?_
    rintro _ _ _ ⟨K39,rfl,rfl,rfl⟩
    refine GL.rz 1 ?_;refine GC.co ?_ ?_
    ·intro h5; try simp only [tst_] at h5
     refine GC.region ?_;refine GL.rn 2 ?_;refine GL.ln_ 1 28 ?_;refine GL.step rfl (t_buildSlice rfl Tryz.underlying43 sz_64 ze_64 rfl rfl rfl rfl rfl rfl) (GL.ex fun b_t44 => ?_);refine GL.step rfl (t_append (i := 3) (k := 0) rfl el_43 rfl rfl rfl rfl rfl (allOne_mem rfl) (by omega) (fun _ => rfl)) (GL.ex fun v45 => ?_)
     refine GL.snoc (j := 9) (js := (up 1 8)) (gt l (k : Int)).m (⟨(),⟨(),⟨(),⟨(),⟨(),⟨(),⟨(),⟨(),⟨(),⟨(),⟨(),⟨⟨(),⟨(),⟨(),⟨⟨Ax25_0,cpx25_0⟩,⟨Ax25_1,cpx25_1⟩⟩⟩⟩⟩,⟨⟨(),⟨Ax25_2,cpx25_2⟩⟩,⟨⟨(),⟨Ax25_3,cpx25_3⟩⟩,⟨⟨(),⟨⟨(),()⟩,⟨⟨Ax25_4,cpx25_4⟩,⟨⟨Ax25_5,cpx25_5⟩,⟨(),⟨Ax25_6,cpx25_6⟩⟩⟩⟩⟩⟩,⟨Ax25_7,cpx25_7⟩⟩⟩⟩⟩⟩⟩⟩⟩⟩⟩⟩⟩⟩⟩⟩ : kMsg.Y) rfl rfl ok_x25.2.1 ?_
     refine GL.rn 1 ?_
     refine GL.nil (?_ : GC _ _ _ _)
     refine GC.region ?_;refine GL.rn 1 ?_;refine GL.pure rfl (p_add rfl rfl (w64 (by omega) (by omega))) ?_;refine GL.rn 1 ?_;refine GL.nil ?_
     exact fun a w h => ⟨(k + 1),(_),(_),(_),(n + 1),(_),(_),(by omega),⟨by omega,by simp [hn],hI.send (by assumption) hlk.1 hlk.2 (hj9 (by assumption))⟩,h.cut (is := [1,2]) (js := [0,11]) ⟨rfl,rfl,rfl,rfl,trivial⟩ rfl rfl⟩
    intro h5; try simp only [tst_] at h5
    refine GC.skip (?_ : GC _ _ _ _)
    refine GC.region ?_;refine GL.rn 1 ?_;refine GL.pure rfl (p_add rfl rfl (w64 (by omega) (by omega))) ?_;refine GL.rn 1 ?_;refine GL.nil ?_
    exact zq63_
   intro h4; try simp only [tst_] at h4
   refine GC.rr 1 ?_;refine GL.ld_ 0 ?_;refine GL.rz 2 ?_;refine GC.co ?_ ?_
   ·intro h6; try simp only [tst_] at h6
    refine GC.rr 1 ?_;refine GL.ld_ 0 ?_;refine GL.rn 1 ?_;refine GL.ld_ 0 ?_;refine GL.cl Tryz.call11 [1] [] rfl rfl rfl (by exact ntakeA_ct _ _ _ _ _ _ _ hI) ?_
    rintro _ _ _ ⟨K55,s55,e55,mm55,y55,he55,hy55,rfl,rfl,rfl⟩
    refine GL.rn 3 ?_;refine GL.step rfl (t_alloc rfl ze_64) (GL.ex fun b_t7 => ?_);refine GL.sn_ 0 ?_;refine GL.rz 1 ?_;refine GC.rg 3 ?_;refine GC.seq' ?_;refine GC.sr_ ?_;refine GL.shape (i := 3) rfl (fun A_S c_S e_S l_S k_S => ?_)
    subst e_S
    by_cases hms : ms = []
    ·have hn0 : n = 0 := by rw [hn,hms]; rfl
     refine GL.rz 1 ?_;refine GC.block ?_;refine GC.loopK2 (ks := [0,3,4,5,7,8]) (is := [0,1,2,3]) (js := (up 0 19)) (fun (j : Nat) (bb : Bool) => j ≤ n ∧ ((e55 = 5 ∨ (e55 = 0 ∧ ∃ i : Nat,i < j ∧ gt ms (i : Int) = mm55)) → bb = true)) (fun (j : Nat) (bb : Bool) => [(10,.int .i64 (j : Int)),(9,.bool bb)]) (fun (j : Nat) (bb : Bool) => []) (fun (j : Nat) (bb : Bool) => []) (fun (j : Nat) (bb : Bool) => n - j) (0) (_) rfl rfl rfl (fun a w h => ⟨⟨by omega,by rintro (h | ⟨_,i,h,_⟩); exact decide_eq_true h; omega⟩,h.cutK (is := [0,0,0,0]) (js := (up 0 19)) (ks := [0,3,4,5,7,8]) ⟨rfl,rfl,trivial⟩ rfl rfl rfl⟩) ?_
     intro j bb hJ
     try dsimp only [List.cons_append,List.nil_append] at hJ ⊢
     refine GC.seq' ?_;refine GC.rg 4 ?_;refine GC.co ?_ ?_
     ·intro h7; try simp only [tst_] at h7
      exfalso; omega
     intro h7; try simp only [tst_] at h7
     refine GC.exit (?_ : GC _ _ _ _)
     refine GC.sr_ ?_
     have hbb : bb = true := take_scan he55 hn (by omega) hJ.2
     subst hbb
     refine GL.rz 2 ?_;refine GC.cond_false rfl ?_
     refine GC.skip (?_ : GC _ _ _ _)
     refine GC.region ?_;refine GL.rn 1 ?_;refine GL.pure rfl (p_add rfl rfl (w64 (by omega) (by omega))) ?_;refine GL.rn 1 ?_;refine GL.nil ?_
     exact zq64_
    have hn0 : n ≠ 0 := (by rw [hn]; exact fun e => hms (List.eq_nil_of_length_eq_zero e));refine GL.unrow (i := 3) rfl hn0 (fun _ _ => rfl) (fun b_S sp_S f_S n_S o_S q_S => ?_); subst f_S
    refine GL.rz 1 ?_;refine GC.block ?_;refine GC.loopK2 (ks := [0,3,4,5,7,8]) (is := [0,1,2,3]) (js := (up 0 19)) (fun (j : Nat) (bb : Bool) => j ≤ n ∧ ((e55 = 5 ∨ (e55 = 0 ∧ ∃ i : Nat,i < j ∧ gt ms (i : Int) = mm55)) → bb = true)) (fun (j : Nat) (bb : Bool) => [(10,.int .i64 (j : Int)),(9,.bool bb)]) (fun (j : Nat) (bb : Bool) => []) (fun (j : Nat) (bb : Bool) => []) (fun (j : Nat) (bb : Bool) => n - j) (0) (_) rfl rfl rfl (fun a w h => ⟨⟨by omega,by rintro (h | ⟨_,i,h,_⟩); exact decide_eq_true h; omega⟩,h.cutK (is := [0,0,0,0]) (js := (up 0 19)) (ks := [0,3,4,5,7,8]) ⟨rfl,rfl,trivial⟩ rfl rfl rfl⟩) ?_
    intro j bb hJ
    try dsimp only [List.cons_append,List.nil_append] at hJ ⊢
    refine GC.seq' ?_;refine GC.rg 4 ?_;refine GC.co ?_ ?_
    ·intro h8; try simp only [tst_] at h8
     refine GC.skip (?_ : GC _ _ _ _)
     refine GC.seq' ?_;refine GC.block ?_;refine GC.layE (j := 17) (m := (j : Int)) (sp_S) rfl (by omega) (gt_ok (by omega) (by omega)) (fun r_y ok_y hc_y => ?_)
     rcases r_y with ⟨_,⟨_,⟨_,⟨_,⟨_,⟨_,⟨_,⟨_,⟨_,⟨_,⟨_,⟨⟨_,⟨_,⟨_,⟨⟨Ay_0,cpy_0⟩,⟨Ay_1,cpy_1⟩⟩⟩⟩⟩,⟨⟨_,⟨Ay_2,cpy_2⟩⟩,⟨⟨_,⟨Ay_3,cpy_3⟩⟩,⟨⟨_,⟨⟨_,_⟩,⟨⟨Ay_4,cpy_4⟩,⟨⟨Ay_5,cpy_5⟩,⟨_,⟨Ay_6,cpy_6⟩⟩⟩⟩⟩⟩,⟨Ay_7,cpy_7⟩⟩⟩⟩⟩⟩⟩⟩⟩⟩⟩⟩⟩⟩⟩⟩
     refine GC.regionQ wide_ (by kernel_rfl) ?_;refine GQ.rn 2 ?_;refine GQ.split (i := 67) rfl (fun h9 => ?_) (fun h9 => ?_)
     ·try simp only [tst_] at h9
      refine GQ.rn 3 ?_
      iterate 6 refine GQ.passU (s := 70) rfl rfl rfl ?_
      refine GQ.rn 3 ?_
      refine GQ.nil (?_ : GC _ _ _ _)
      refine GC.region ?_;refine GL.rn 1 ?_;refine GL.pure rfl (p_add rfl rfl (w64 (by omega) (by omega))) ?_;refine GL.rn 1 ?_;refine GL.nil ?_
      exact fun a w h => ⟨(j + 1),(true),(by omega),⟨by omega,fun _ => rfl⟩,h.cut (is := [0,0,0,0]) (js := (up 8 19)) ⟨rfl,rfl,rfl,rfl,rfl,rfl,rfl,rfl,trivial⟩ rfl rfl⟩
     try simp only [tst_] at h9
     refine GQ.rn 3 ?_;refine GQ.split (i := 70) rfl (fun h10 => ?_) (fun h10 => ?_)
     ·try simp only [tst_] at h10
      refine GQ.stepG (s := 70) rfl rfl rfl (q_mem (m_loadN (i := 0) rfl rfl ag_64 (vs := [_,_,_,_,_,_,_,_,_,_,_,_,_,_,_,_,_,_,_,_,_,_,_,_,_,_,_,_]) sz_64 ⟨rfl,rfl,rfl,rfl,rfl,rfl,rfl,rfl,rfl,rfl,rfl,rfl,rfl,rfl,rfl,rfl,rfl,rfl,rfl,rfl,rfl,rfl,rfl,rfl,rfl,rfl,rfl,rfl,trivial⟩)) ?_
      refine GQ.rn 2 ?_;refine GQ.stepG (s := 70) rfl rfl rfl (q_pure (p_indexB rfl rfl Tryz.underlying43 sz_64 (by omega) (by omega))) ?_;refine GQ.stepG (s := 70) rfl rfl rfl (q_mem (m_loadN (i := 3) rfl rfl ag_64 (vs := [_,_,_,_,_,_,_,_,_,_,_,_,_,_,_,_,_,_,_,_,_,_,_,_,_,_,_,_]) sz_64 (at_of hc_y))) ?_
      refine GQ.stepG (s := 70) rfl rfl rfl (q_call Tryz.call12 rfl (js := [8,9,10,11,12,13,14,15,0,1,2,3,4,5,6,7]) rfl (by exact rmsame_ct mm55 (gt ms (j : Int)) s55 (⟨Ay_0,cpy_0,Ay_1,cpy_1,Ay_2,cpy_2,Ay_3,cpy_3,Ay_4,cpy_4,Ay_5,cpy_5,Ay_6,cpy_6,Ay_7,cpy_7⟩ : Lie) (hI.ml _ (he55.resolve_left (by omega)).2))) ?_
      refine GQ.rn 3 ?_
      refine GQ.nil (?_ : GC _ _ _ _)
      refine GC.region ?_;refine GL.rn 1 ?_;refine GL.pure rfl (p_add rfl rfl (w64 (by omega) (by omega))) ?_;refine GL.rn 1 ?_;refine GL.nil ?_
      exact fun a w h => ⟨(j + 1),(_),(by omega),⟨by omega,scan_next hJ.2 (by assumption)⟩,h.cut (is := [0,0,0,0]) (js := (up 8 19)) ⟨rfl,rfl,rfl,rfl,rfl,rfl,rfl,rfl,trivial⟩ rfl rfl⟩
     try simp only [tst_] at h10
     refine GQ.rn 9 ?_
     refine GQ.nil (?_ : GC _ _ _ _)
     refine GC.region ?_;refine GL.rn 1 ?_;refine GL.pure rfl (p_add rfl rfl (w64 (by omega) (by omega))) ?_;refine GL.rn 1 ?_;refine GL.nil ?_
     exact fun a w h => ⟨(j + 1),(false),(by omega),⟨by omega,fun h => by rcases h with h | ⟨h,_⟩ <;> first | omega | (have := hJ.2 (.inl h); simp_all)⟩,h.ct [0,0,0,0] (up 8 19)⟩
    intro h8; try simp only [tst_] at h8
    refine GC.exit (?_ : GC _ _ _ _)
    refine GC.seq' ?_;refine GC.repsLen (j := 17) rfl (fun hcl => ?_);refine GC.rerow (i := 3) (sz := 28) (m := n) cs sp_S rfl rfl (by rw [hn]; exact hcl) n_S o_S q_S rfl ?_
    refine GC.region ?_
    have hbb : bb = true := take_scan he55 hn (by omega) hJ.2
    subst hbb
    refine GL.rn 2 ?_
    refine GL.nil (?_ : GC _ _ _ _)
    refine GC.cond_false rfl ?_
    refine GC.skip (?_ : GC _ _ _ _)
    refine GC.region ?_;refine GL.rn 1 ?_;refine GL.pure rfl (p_add rfl rfl (w64 (by omega) (by omega))) ?_;refine GL.rn 1 ?_;refine GL.nil ?_
    exact zq64_
   intro h6; try simp only [tst_] at h6
   refine GC.rr 1 ?_;refine GL.ld_ 0 ?_;refine GL.rz 2 ?_;refine GC.co ?_ ?_
   ·intro h11; try simp only [tst_] at h11
    refine GC.region ?_;refine GL.rn 1 ?_;refine GL.ld_ 0 ?_;refine GL.cl Tryz.call13 [1] [] rfl rfl rfl (by exact ndrop_ct _ _ _ _) ?_
    rintro _ _ _ ⟨K87,rfl,rfl,rfl⟩
    refine GL.nil (?_ : GC _ _ _ _)
    refine GC.region ?_;refine GL.rn 1 ?_;refine GL.pure rfl (p_add rfl rfl (w64 (by omega) (by omega))) ?_;refine GL.rn 1 ?_;refine GL.nil ?_
    exact zq63_
   intro h11; try simp only [tst_] at h11
   refine GC.rr 1 ?_;refine GL.ld_ 0 ?_;refine GL.rz 2 ?_;refine GC.co ?_ ?_
   ·intro h12; try simp only [tst_] at h12
    refine GC.region ?_;refine GL.rn 1 ?_;refine GL.ld_ 0 ?_;refine GL.rn 1 ?_;refine GL.ld_ 0 ?_;refine GL.rn 1 ?_;refine GL.ld_ 0 ?_;refine GL.cl Tryz.call14 [1] [] rfl rfl rfl (by exact ncutF_ct _ _ _ _ _ _) ?_
    rintro _ _ _ ⟨K98,rfl,rfl,rfl⟩
    refine GL.nil (?_ : GC _ _ _ _)
    refine GC.region ?_;refine GL.rn 1 ?_;refine GL.pure rfl (p_add rfl rfl (w64 (by omega) (by omega))) ?_;refine GL.rn 1 ?_;refine GL.nil ?_
    exact zq63_
   intro h12; try simp only [tst_] at h12
   refine GC.skip (?_ : GC _ _ _ _)
   refine GC.region ?_;refine GL.rn 1 ?_;refine GL.pure rfl (p_add rfl rfl (w64 (by omega) (by omega))) ?_;refine GL.rn 1 ?_;refine GL.nil ?_
   exact fun a w h => ⟨(k + 1),(_),(_),(_),(n),(_),(_),(by omega),⟨by omega,hn,by first | exact hI.sendNo (by assumption) | exact hy55 | exact hI.less (drop_less _ _) | exact hI.less (cutF_less _ _ _ _) | exact hI.same⟩,h.cut (is := [1,1]) (js := [9,10]) ⟨rfl,rfl,rfl,rfl,trivial⟩ rfl rfl⟩
  intro h2; try simp only [tst_] at h2
  refine GC.exit (?_ : GC _ _ _ _)
  refine GC.rg 1 ?_;refine GC.ret (Fin.b1 2 [] [] ?_)
  exact ⟨rfl,rfl,rfl⟩
 intro h1; try simp only [tst_] at h1
 refine GL.rz 3 ?_;refine GC.cond_false rfl ?_
 refine GC.exit (?_ : GC _ _ _ _)
 refine GC.rg 1 ?_;refine GC.ret (Fin.b1 2 [] [] ?_)
 exact ⟨rfl,rfl,rfl⟩
end Go.Proofs.YtliacpkblicnhaaGreat
