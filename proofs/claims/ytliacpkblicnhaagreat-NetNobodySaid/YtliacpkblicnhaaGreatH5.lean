/- Texts of this claim, in one: what the law leans on (part 5). -/
import Derived.Test.YtliacpkblicnhaaGreatH4
set_option linter.unusedVariables false
set_option linter.unusedSimpArgs false
set_option maxRecDepth 100000
namespace Go.Proofs.YtliacpkblicnhaaGreat
open Go Go.Sx Go.Proofs
theorem rd_fr0 {F B : List UInt8} (hF : F = frameB B) (hB : B.length ≤ 16777216) : rdN F = B.length ∧ rdE F = 0 ∧ (gt F 2).toNat = 4 ∧ valN (seg F 4 12) = 0 ∧ seg F 16 (B.length + 16) = B := by
  have hl : F.length = B.length + 20 := by rw [hF,frameB_len]
  have hn : rdN F = B.length := rdN_frame hF hB (fun i _ _ => rfl) (by omega)
  have hh : (headB B).length = B.length + 16 := headB_len B
  have h0 : gt F 0 = 80 ∧ gt F 1 = 76 ∧ gt F 2 = 4 ∧ gt F 3 = 0 := by rw [hF]; exact ⟨rfl,rfl,rfl,rfl⟩
  have e1 : seg F 0 (B.length + 16) = headB B := by
    rw [hF,frameB,sealB,seg,List.drop_zero,List.take_append_of_le_length (by omega),← hh,List.take_length]
  have e2 : seg F 0 (B.length + 20) = F := by rw [← hl]; exact seg_all F
  refine ⟨hn,?_,by rw [h0.2.2.1]; rfl,?_,?_⟩
  · rw [rdE,if_neg (by omega),if_neg (by rw [hn,h0.1,h0.2.1,h0.2.2.2]; exact fun h => h ⟨rfl,rfl,rfl,hB⟩),if_neg (by omega),if_neg (by rw [hn,e1,e2,hF]; exact fun h => h rfl)]
  · rw [hF]; rfl
  · have : seg F 16 (B.length + 16) = (headB B).drop 16 := by rw [← e1]; simp [seg]
    rw [this]; rfl
theorem rd_fr {F B : List UInt8} (hF : F = frameB B) (hB : B.length ≤ 16777216) {k s : Int} {bd : List UInt8} {n : Int} (h : rdR F k s bd n) : k = 4 ∧ s = 0 ∧ B = bd ∧ n = ((B.length + 20 : Nat) : Int) := by
  obtain ⟨g1,g2,g3,g4,g5⟩ := rd_fr0 hF hB
  obtain ⟨h1,h2,h3,h4,_⟩ := h g2
  rw [g3] at h1
  rw [g4] at h2
  rw [g1,g5] at h3
  rw [g1] at h4
  exact ⟨h1,h2,h3.symm,h4⟩
theorem recW_ct (p4 p5 : Nat) : CtR Tryz.prog 48 [.pointer (some ⟨p4,0,none⟩),.pointer (some ⟨p5,0,none⟩)] [.cells p4 (msgL zms ⟨none,0,none,0,none,0,none,0,none,0,none,0,none,0,none,0⟩) 64,.cells p5 [.int .i64 0] 68] [] wFt
    (fun u G Q => u = .tuple #[] ∧ G = [.cells p4 (msgL zms ⟨none,0,none,0,none,0,none,0,none,0,none,0,none,0,none,0⟩) 64,.cells p5 [.int .i64 160] 68] ∧ Q = []) := by
  refine CtR.intro Tryz.func48 rfl rfl rfl rfl rfl (fun c hc => ?_)
  refine GC.seq' ?_
  refine GC.seq' ?_
  refine GC.region ?_
  refine GL.pure rfl (p_move rfl) ?_
  refine GL.pure rfl (p_ifNil rfl Tryz.underlying20) ?_
  refine GL.nil (?_ : GC _ _ _ _)
  refine GC.cond_false rfl ?_
  refine GC.skip (?_ : GC _ _ _ _)
  refine GC.seq' ?_
  refine GC.seq' ?_
  refine GC.region ?_
  refine GL.pure rfl (p_move rfl) ?_
  refine GL.pure rfl (p_assert rfl Tryz.underlying128 (fun m h => by cases h)) ?_
  refine GL.pure rfl (p_move rfl) ?_
  refine GL.pure rfl (p_extract rfl rfl) ?_
  refine GL.pure rfl (p_extract rfl rfl) ?_
  refine GL.step rfl (t_alloc rfl ze_128) (GL.ex fun b_t3 => ?_)
  refine GL.step rfl (t_storeN (i := 0) rfl rfl rfl sz_128 rfl rfl rfl) ?_
  refine GL.pure rfl (p_assign rfl) ?_
  refine GL.nil (?_ : GC _ _ _ _)
  refine GC.seq' ?_
  refine GC.region ?_
  refine GL.pure rfl (p_move rfl) ?_
  refine GL.pure rfl (p_not rfl) ?_
  refine GL.nil (?_ : GC _ _ _ _)
  refine GC.cond_false rfl ?_
  refine GC.skip (?_ : GC _ _ _ _)
  refine GC.region ?_
  refine GL.pure rfl (p_build ze_64 of_64 rfl rfl) ?_
  refine GL.step rfl (t_storeN (i := 1) rfl rfl rfl sz_64 rfl rfl rfl) ?_
  refine GL.step rfl (t_store (i := 2) rfl rfl rfl rfl sz_68 rfl rfl rfl) ?_
  refine GL.nil ?_
  refine fun a w h => Fin.back0 rfl (is := [1,1]) (js := []) rfl rfl ?_ h
  clear h
  exact ⟨rfl,rfl,rfl⟩
def wdecF (B : List UInt8) : Option Msg := (wmsgF B).bind fun r => if r.2 = [] ∧ msgOk r.1 ∧ bodyB r.1 = B then some r.1 else none
abbrev DecM (x : Option Msg) (u : Value) (G : List Own) (Q : List Pers) : Prop := ∃ (m : Msg) (s : Lie) (k : Int),((k = 0 → x = some m) ∧ (k ≠ 0 → x = none ∧ m = zms ∧ k = 160)) ∧ u = .tuple #[msgV m s,.int .i64 k] ∧ G = [] ∧ Q = msgQ m s
theorem zq60_ {X : Prop} (h : X := by (exact ⟨zms,⟨none,0,none,0,none,0,none,0,none,0,none,0,none,0,none,0⟩,160,⟨fun h => absurd h (by decide),fun _ => ⟨by rw [wdecF,hs43,Option.bind_some]; exact if_neg (fun hh => by have h0 := congrArg List.length hh.1; simp only [List.length_nil] at h0; first | omega | exact absurd (msgE_yes hh.2.1) (by assumption)),rfl,rfl⟩⟩,rfl,rfl,rfl⟩)) : X := h
theorem zq61_ {X : Prop} (h : X := by (exact ⟨zms,⟨none,0,none,0,none,0,none,0,none,0,none,0,none,0,none,0⟩,160,⟨fun h => absurd h (by decide),fun _ => ⟨by rw [wdecF,hs43,Option.bind_some]; exact if_neg (fun hh => by first | exact absurd hh.2.2 (by assumption) | exact hlen (by rw [hh.2.2]; exact hB)),rfl,rfl⟩⟩,rfl,rfl,rfl⟩)) : X := h
theorem wdec_ct (A : Option Addr) (B F : List UInt8) (cp : Nat) (hF : F = frameB B) (hB : B.length ≤ 16777216) (hlog : ∀ m M,wmsgF B = some (m,M) → m.log.length < 100000) (hcp : F.length ≤ cp) (hcp' : cp ≤ 9223372036854775807) : Ct Tryz.prog 24 [.slice A F.length cp] [] [Pers.row Kd.u8 A F] (DecM (wdecF B)) := by
 have hfl : F.length = B.length + 20 := by rw [hF,frameB_len]
 refine Ct.introD Tryz.func24 rfl rfl rfl (fun c hc hcD => ?_)
 refine GC.sr_ ?_;refine GL.step rfl (t_alloc rfl ze_64) (GL.ex fun b_t2 => ?_);refine GL.step rfl (t_alloc rfl ze_68) (GL.ex fun b_t3 => ?_);refine GL.nl_ ?_;refine GC.sr_ ?_;refine GL.know (q := Pers.row Kd.u8 none []) (fun _ _ _ => .inl rfl) ?_
 refine GL.know (q := Pers.row kI none []) (fun _ _ _ => .inl rfl) ?_;refine GL.know (q := Pers.row kPage none []) (fun _ _ _ => .inl rfl) ?_;refine GL.know (q := Pers.row kRow none []) (fun _ _ _ => .inl rfl) ?_;refine GL.know (q := Pers.row kEntry none []) (fun _ _ _ => .inl rfl) ?_
 refine GL.rn 1 ?_;refine GL.cl Tryz.call47 [] [5] rfl rfl rfl (by exact fread_ct _ F _ (by omega) hcp hcp') ?_
 rintro _ _ _ ⟨k13,s13,A13,bd13,cp13,n13,l13,c13,hr13,rfl,rfl,rfl⟩
 obtain ⟨rfl,rfl,rfl,rfl⟩ := rd_fr hF hB hr13
 rw [(rd_fr0 hF hB).2.1]
 refine GL.rn 4 ?_;refine GL.step rfl (t_alloc rfl ze_121) (GL.ex fun b_t4 => ?_);refine GL.sn_ 0 ?_;refine GL.rz 2 ?_;refine GC.seq' ?_;refine GC.rg 2 ?_;refine GC.cond_false rfl ?_
 refine GC.skip (?_ : GC _ _ _ _)
 refine GC.seq' ?_;refine GC.rr 5 ?_;refine GL.sp 25 ?_ ?_
 ·intro h1; try simp only [tst_] at h1
  exfalso; exact h1 (by omega)
 intro h1; try simp only [tst_] at h1
 refine GL.rn 1 ?_;refine GL.dg_ 0 ?_;refine GL.rn 3 ?_;refine GL.sp 30 ?_ ?_
 ·intro h2; try simp only [tst_] at h2
  exfalso; exact h2 trivial
 intro h2; try simp only [tst_] at h2
 refine GL.rn 1 ?_;refine GL.dg_ 0 ?_;refine GL.rz 2 ?_;refine GC.co ?_ ?_
 ·intro h3; try simp only [tst_] at h3
  exfalso; exact h3 trivial
 intro h3; try simp only [tst_] at h3
 refine GC.skip (?_ : GC _ _ _ _)
 refine GC.sr_ ?_;refine GL.pure rfl (p_makeFunc rfl rfl) ?_;refine GL.defer (f := 48) (us := [_,_]) hcD rfl ?_;refine GL.nr 1 ?_;refine GL.ld_ 0 ?_;refine GL.pure rfl (p_build ze_132 of_132 rfl rfl) ?_;refine GL.pure rfl (p_build ze_134 of_134 rfl rfl) ?_
 refine GL.step rfl (t_box rfl rfl rfl) (GL.ex fun b_t41 => ?_);refine GL.rz 1 ?_;refine GC.rr 1 ?_;refine GL.callP rfl Tryz.call49 rfl (is := [0]) (js := [0]) rfl rfl (by exact wmsg_ct _ _ _ B _ l13 c13 (by omega)) (fun v a w he h => by obtain ⟨rfl,hno⟩ := he; exact FinD.catch Tryz.call48 (recW_ct _ _) (isC := [2,1]) (jsC := []) rfl rfl (fun u G2 Q2 a w hR h => by obtain ⟨rfl,rfl,rfl⟩ := hR; exact Fin.back (rs := [.cell 2 64,.cell 3 68]) (vs := [_,_]) (is := []) (js := [4,4,4,3,2,1,3,0]) rfl ⟨⟨0,_,_,_,_,rfl,rfl,.inr ⟨[_,_,_,_,_,_,_,_,_,_,_,_,_,_,_,_,_,_,_,_,_,_,_,_,_,_,_,_],rfl,ag_64,sz_64,⟨rfl,rfl,rfl,rfl,rfl,rfl,rfl,rfl,rfl,rfl,rfl,rfl,rfl,rfl,rfl,rfl,rfl,rfl,rfl,rfl,rfl,rfl,rfl,rfl,rfl,rfl,rfl,rfl,trivial⟩⟩⟩,⟨1,_,_,_,_,rfl,rfl,.inl ⟨ag_68,rfl⟩⟩,trivial⟩ rfl rfl (by exact ⟨zms,⟨none,0,none,0,none,0,none,0,none,0,none,0,none,0,none,0⟩,160,⟨fun h => absurd h (by decide),fun _ => ⟨by rw [wdecF,hno]; rfl,rfl,rfl⟩⟩,rfl,rfl,rfl⟩) (((((h.know (q := Pers.row Kd.u8 none []) (fun _ _ _ => .inl rfl)).know (q := Pers.row kI none []) (fun _ _ _ => .inl rfl)).know (q := Pers.row kPage none []) (fun _ _ _ => .inl rfl)).know (q := Pers.row kRow none []) (fun _ _ _ => .inl rfl)).know (q := Pers.row kEntry none []) (fun _ _ _ => .inl rfl))) h) (GL.ret ?_)
 rintro _ _ _ ⟨m43,s43,L43,A43,c43,hs43,l43,k43,rfl,rfl,rfl⟩
 have hM := wmsgF_all hs43
 refine GL.step rfl (t_alloc rfl ze_64) (GL.ex fun b_t8 => ?_);refine GL.sn_ 0 ?_;refine GL.nl_ ?_;refine GC.seq' ?_;refine GC.rr 4 ?_;refine GL.ld_ 1 ?_;refine GL.rn 3 ?_;refine GL.sp 51 ?_ ?_
 ·intro h4; try simp only [tst_] at h4
  refine GL.rz 4 ?_;refine GC.cond_true rfl ?_;refine GC.sr_ ?_;refine GL.pure rfl (p_build ze_64 of_64 rfl rfl) ?_;refine GL.sn_ 4 ?_;refine GL.so_ 3 ?_;refine GL.nl_ ?_;refine GC.ret ?_
  refine fun a w h => FinD.back1 Tryz.call48 (decode_idle _ _) (rs := [.cell 2 64,.cell 3 68]) (vs := [_,_]) (is := []) (js := [14,14,14,13,12,11,13,10]) rfl ⟨⟨4,_,_,_,_,rfl,rfl,.inr ⟨[_,_,_,_,_,_,_,_,_,_,_,_,_,_,_,_,_,_,_,_,_,_,_,_,_,_,_,_],rfl,ag_64,sz_64,⟨rfl,rfl,rfl,rfl,rfl,rfl,rfl,rfl,rfl,rfl,rfl,rfl,rfl,rfl,rfl,rfl,rfl,rfl,rfl,rfl,rfl,rfl,rfl,rfl,rfl,rfl,rfl,rfl,trivial⟩⟩⟩,⟨3,_,_,_,_,rfl,rfl,.inl ⟨ag_68,rfl⟩⟩,trivial⟩ rfl rfl ?_ h
  clear h
  exact zq60_
 intro h4; try simp only [tst_] at h4
 refine GL.lg_ 0 28 ?_;refine GL.stepG rfl (s := 51) rfl rfl (t_call rfl Tryz.call41 rfl (is := []) (js := (up 0 8)) rfl rfl (by exact wchk_ct m43 s43 hM.len)) (GL.ret ?_)
 rintro _ _ _ ⟨rfl,rfl,rfl⟩
 refine GL.rz 2 ?_;refine GC.co ?_ ?_
 ·intro h5; try simp only [tst_] at h5
  refine GC.sr_ ?_;refine GL.pure rfl (p_build ze_64 of_64 rfl rfl) ?_;refine GL.sn_ 4 ?_;refine GL.so_ 3 ?_;refine GL.nl_ ?_;refine GC.ret ?_
  refine fun a w h => FinD.back1 Tryz.call48 (decode_idle _ _) (rs := [.cell 2 64,.cell 3 68]) (vs := [_,_]) (is := []) (js := [14,14,14,13,12,11,13,10]) rfl ⟨⟨4,_,_,_,_,rfl,rfl,.inr ⟨[_,_,_,_,_,_,_,_,_,_,_,_,_,_,_,_,_,_,_,_,_,_,_,_,_,_,_,_],rfl,ag_64,sz_64,⟨rfl,rfl,rfl,rfl,rfl,rfl,rfl,rfl,rfl,rfl,rfl,rfl,rfl,rfl,rfl,rfl,rfl,rfl,rfl,rfl,rfl,rfl,rfl,rfl,rfl,rfl,rfl,rfl,trivial⟩⟩⟩,⟨3,_,_,_,_,rfl,rfl,.inl ⟨ag_68,rfl⟩⟩,trivial⟩ rfl rfl ?_ h
  clear h
  exact zq60_
 intro h5; try simp only [tst_] at h5
 refine GC.skip (?_ : GC _ _ _ _)
 iterate 2 refine GC.seq' ?_
 have hok : msgOk m43 := by rw [← msgE_iff]; assumption
 by_cases hlen : (bodyB m43).length ≤ 16777216
 ·skip
  refine GC.region ?_;refine GL.ln_ 0 28 ?_;refine GL.cl Tryz.call42 [] (up 0 8) rfl rfl rfl (by exact wbodyo_ok m43 s43 hM.len hok hM.nonce (hlog _ _ hs43) hlen) ?_
  rintro _ _ _ ⟨A59,cp59,l59,k59,rfl,rfl,rfl⟩
  refine GL.rn 5 ?_
  refine GL.nil (?_ : GC _ _ _ _)
  refine GC.rr 5 ?_;refine GL.dg_ 3 ?_;refine GL.freezeB (i := 0) rfl ?_;refine GL.stepG rfl (s := 64) rfl rfl (t_call rfl Tryz.call50 rfl (is := []) (js := [0,10]) rfl rfl (by exact equal_ct _ (bodyB m43) _ _ B _)) (GL.ret ?_)
  rintro _ _ _ ⟨rfl,rfl,rfl⟩
  refine GL.rz 2 ?_;refine GC.co ?_ ?_
  ·intro h6; try simp only [tst_] at h6
   refine GC.sr_ ?_;refine GL.pure rfl (p_build ze_64 of_64 rfl rfl) ?_;refine GL.sn_ 4 ?_;refine GL.so_ 3 ?_;refine GL.nl_ ?_;refine GC.ret ?_
   refine fun a w h => FinD.back1 Tryz.call48 (decode_idle _ _) (rs := [.cell 2 64,.cell 3 68]) (vs := [_,_]) (is := []) (js := [15,15,15,14,13,12,14,11]) rfl ⟨⟨4,_,_,_,_,rfl,rfl,.inr ⟨[_,_,_,_,_,_,_,_,_,_,_,_,_,_,_,_,_,_,_,_,_,_,_,_,_,_,_,_],rfl,ag_64,sz_64,⟨rfl,rfl,rfl,rfl,rfl,rfl,rfl,rfl,rfl,rfl,rfl,rfl,rfl,rfl,rfl,rfl,rfl,rfl,rfl,rfl,rfl,rfl,rfl,rfl,rfl,rfl,rfl,rfl,trivial⟩⟩⟩,⟨3,_,_,_,_,rfl,rfl,.inl ⟨ag_68,rfl⟩⟩,trivial⟩ rfl rfl ?_ h
   clear h
   exact zq61_
  intro h6; try simp only [tst_] at h6
  refine GC.skip (?_ : GC _ _ _ _)
  refine GC.sr_ ?_;refine GL.ln_ 0 28 ?_;refine GL.sn_ 4 ?_;refine GL.so_ 3 ?_;refine GL.nl_ ?_;refine GC.ret ?_
  refine fun a w h => FinD.back1 Tryz.call48 (decode_idle _ _) (rs := [.cell 2 64,.cell 3 68]) (vs := [_,_]) (is := []) (js := (up 1 8)) rfl ⟨⟨4,_,_,_,_,rfl,rfl,.inr ⟨[_,_,_,_,_,_,_,_,_,_,_,_,_,_,_,_,_,_,_,_,_,_,_,_,_,_,_,_],rfl,ag_64,sz_64,⟨rfl,rfl,rfl,rfl,rfl,rfl,rfl,rfl,rfl,rfl,rfl,rfl,rfl,rfl,rfl,rfl,rfl,rfl,rfl,rfl,rfl,rfl,rfl,rfl,rfl,rfl,rfl,rfl,trivial⟩⟩⟩,⟨3,_,_,_,_,rfl,rfl,.inl ⟨ag_68,rfl⟩⟩,trivial⟩ rfl rfl ?_ h
  clear h
  exact ⟨m43,s43,0,⟨fun _ => by rw [wdecF,hs43,Option.bind_some]; exact if_pos ⟨List.eq_nil_of_length_eq_zero (by show L43.length = 0; omega),hok,by assumption⟩,fun h => absurd rfl h⟩,rfl,rfl,rfl⟩
 skip
 refine GC.region ?_;refine GL.ln_ 0 28 ?_;refine GL.cl Tryz.call42 [] (up 0 8) rfl rfl rfl (by exact wbodyo_long m43 s43 hM.len hok hM.nonce (hlog _ _ hs43) hlen) ?_
 rintro _ _ _ ⟨⟨A59,n59,cp59,rfl⟩,rfl,rfl⟩
 refine GL.rn 5 ?_
 refine GL.nil (?_ : GC _ _ _ _)
 refine GC.rr 6 ?_
 skip
 refine GL.rz 3 ?_;refine GC.cond_true rfl ?_;refine GC.sr_ ?_;refine GL.pure rfl (p_build ze_64 of_64 rfl rfl) ?_;refine GL.sn_ 4 ?_;refine GL.so_ 3 ?_;refine GL.nl_ ?_;refine GC.ret ?_
 refine fun a w h => FinD.back1 Tryz.call48 (decode_idle _ _) (rs := [.cell 2 64,.cell 3 68]) (vs := [_,_]) (is := []) (js := [14,14,14,13,12,11,13,10]) rfl ⟨⟨4,_,_,_,_,rfl,rfl,.inr ⟨[_,_,_,_,_,_,_,_,_,_,_,_,_,_,_,_,_,_,_,_,_,_,_,_,_,_,_,_],rfl,ag_64,sz_64,⟨rfl,rfl,rfl,rfl,rfl,rfl,rfl,rfl,rfl,rfl,rfl,rfl,rfl,rfl,rfl,rfl,rfl,rfl,rfl,rfl,rfl,rfl,rfl,rfl,rfl,rfl,rfl,rfl,trivial⟩⟩⟩,⟨3,_,_,_,_,rfl,rfl,.inl ⟨ag_68,rfl⟩⟩,trivial⟩ rfl rfl ?_ h
 clear h
 exact zq61_
theorem wnum_app {n v : Nat} {L : List UInt8} (h : v < 256 ^ n) : wnumF n (leN n v ++ L) = some ((v : Int),L) := by
  have hl := leN_length n v
  have e1 : seg (leN n v ++ L) 0 n = leN n v := by rw [seg,List.drop_zero,List.take_append_of_le_length (by omega)]; exact List.take_of_length_le (by omega)
  have e2 : (leN n v ++ L).drop n = L := List.drop_left' hl
  rw [wnumF,if_pos (by rw [List.length_append]; omega),e1,e2,valN_leN _ _ h]
theorem wsm_app {v : Int} {L : List UInt8} (h : in62 v) : wsmF (leN 8 (u64 v) ++ L) = some (v,L) := by
  obtain ⟨h0,h1⟩ := h
  have e : u64 v = v.toNat := by unfold u64; omega
  have h8 : v.toNat < 256 ^ 8 := by rw [p256_8]; omega
  rw [wsmF,e,wnum_app h8,Option.bind_some]
  have : ((v.toNat : Nat) : Int) = v := by omega
  dsimp only
  rw [this,if_pos h1]
theorem wrap_u64 {v : Int} (h : -9223372036854775808 ≤ v) (h' : v ≤ 9223372036854775807) : IntKind.i64.wrap ((u64 v : Nat) : Int) = v := by
  unfold u64
  simp [IntKind.wrap,IntKind.bits,IntKind.signed]
  omega
theorem bit1 (m : Msg) : bitN (partsN m) 1 = 0 ↔ m.op = zop := by rw [bitN,partsN,and_b1,bi1]; simp
theorem bit2 (m : Msg) : bitN (partsN m) 2 = 0 ↔ m.res = rz := by rw [bitN,partsN,and_b2,bi2]; simp
theorem bit4 (m : Msg) : bitN (partsN m) 4 = 0 ↔ m.grp = zgr := by rw [bitN,partsN,and_b4,bi4]; simp
theorem bit8 (m : Msg) : bitN (partsN m) 8 = 0 ↔ m.stt = zst := by rw [bitN,partsN,and_b8,bi8]; simp
theorem wpO_app {m : Msg} {L : List UInt8} (hr : MsgR m) : wpO (partsN m) (pO m ++ L) = some (m.op,L) := by
  unfold wpO pO
  by_cases h : m.op = zop
  · rw [if_pos ((bit1 m).2 h),if_pos h,h]; rfl
  · rw [if_neg (fun g => h ((bit1 m).1 g)),if_neg h]
    obtain ⟨u,e,g⟩ := decOp_at (b := opB m.op ++ L) rfl (hr.op h)
    rw [e,Option.map_some,g.2]
theorem wpR_app {m : Msg} {L : List UInt8} (hr : MsgR m) : wpR (partsN m) (pR m ++ L) = some (m.res,L) := by
  unfold wpR pR
  by_cases h : m.res = rz
  · rw [if_pos ((bit2 m).2 h),if_pos h,h]; rfl
  · rw [if_neg (fun g => h ((bit2 m).1 g)),if_neg h]
    obtain ⟨u,e,g⟩ := decRes_at (b := resB m.res ++ L) rfl (hr.res h)
    rw [e,Option.map_some,g.2]
theorem wgrp_app {g : Grp} {L : List UInt8} (hg : groupOk g.epoch g.members = true) : wgrpF (grpB g ++ L) = some (g,L) := by
  obtain ⟨r1,r2,r3,r4,r5⟩ := grp_rng hg
  have e8 : u64 g.epoch = g.epoch.toNat := by unfold u64; omega
  rw [grpB,flZ_single,flZ_single,← e8,List.append_assoc,List.append_assoc,wgrpF,wsm_app ⟨r4,r5⟩,Option.bind_some,wnum_app (by rw [p256_1]; omega),Option.bind_some]
  obtain ⟨u,e1,e2⟩ := manyF_enc (f := wnumF 1) (enc := fun x : Int => leN 1 x.toNat) (fun t M => t = M) L (xs := g.members) (t := flZ 1 g.members ++ L) (fun x hx t M h => by
    have := r1 x hx
    refine ⟨M,?_,rfl⟩
    rw [h,wnum_app (by rw [p256_1]; omega)]
    have : ((x.toNat : Nat) : Int) = x := by omega
    rw [this]) rfl
  subst e2
  rw [show ((((g.members.length : Int)).toNat : Nat) : Int).toNat = g.members.length by omega,e1]
  rfl
theorem wpG_app {m : Msg} {L : List UInt8} (hr : MsgR m) : wpG (partsN m) (pG m ++ L) = some (m.grp,L) := by
  unfold wpG pG
  by_cases h : m.grp = zgr
  · rw [if_pos ((bit4 m).2 h),if_pos h,h]; rfl
  · rw [if_neg (fun g => h ((bit4 m).1 g)),if_neg h,wgrp_app (hr.grp h)]
theorem wpS_app {m : Msg} {L : List UInt8} (hr : MsgR m) (hl : (pS m ++ L).length ≤ 33554432) : wpS (partsN m) (pS m ++ L) = some (m.stt,L) := by
  unfold wpS
  by_cases h : m.stt = zst
  · rw [if_pos ((bit8 m).2 h),pS,if_pos h,h]; rfl
  · rw [if_neg (fun g => h ((bit8 m).1 g))]
    rw [pS,if_neg h] at hl ⊢
    obtain ⟨u,e,g⟩ := mstF_at (At.zero (sttB m.stt ++ L)) (hr.stt h) hl
    rw [e,Option.map_some,g.2]
theorem went_app {e : Entry} {L : List UInt8} (he : entOk e) : went (entB e ++ L) = some (e,L) := by
  obtain ⟨u,h,g⟩ := mentF_at (At.zero (entB e ++ L)) he
  rw [went,h,Option.map_some,g.2]
theorem wmsg_back {m : Msg} (hok : msgOk m) (hn : 0 ≤ m.nonce ∧ m.nonce < 18446744073709551616) (hlog : m.log.length < 100000) (hB : (bodyB m).length ≤ 16777216) : wmsgF (bodyB m) = some (m,[]) := by
  have hr := msg_rng hok
  have hpn := partsN_rng m
  obtain ⟨⟨n1,n2,n3,n4,n5,n6,n7⟩,k1,k2,w1,w2,_,_⟩ := hok
  have p8 : (256 : Nat) ^ 8 = 18446744073709551616 := p256_8
  have p4 : (256 : Nat) ^ 4 = 4294967296 := p256_4
  have p1 : (256 : Nat) ^ 1 = 256 := p256_1
  have hl : (pS m ++ (leN 4 m.log.length ++ m.log.flatMap entB)).length ≤ 33554432 := by
    simp only [bodyB,preB,List.length_append] at hB
    simp only [List.length_append]; omega
  have hs : -4611686018427387904 ≤ m.src ∧ m.src < 64 := w1
  have hd : -4611686018427387904 ≤ m.dst ∧ m.dst < 64 := w2
  obtain ⟨u,e1,e2⟩ := manyF_enc (f := went) (enc := entB) (fun t M => t = M) [] (xs := m.log) (t := m.log.flatMap entB ++ []) (fun x hx t M h => ⟨M,by rw [h,went_app (hr.log x hx)],rfl⟩) rfl
  subst e2
  rw [List.append_nil] at e1
  rw [bodyB,preB,hdB,byI_le (by omega) (by omega),byI_le hpn.1 hpn.2]
  simp only [flI,List.flatMap_cons,List.flatMap_nil,List.append_assoc,List.append_nil,List.nil_append]
  rw [wmsgF,wnum_app (by omega),Option.bind_some,wnum_app (by rw [p8]; exact u64_lt _),Option.bind_some,wnum_app (by rw [p8]; exact u64_lt _),Option.bind_some,wsm_app n1,Option.bind_some,wsm_app n2,Option.bind_some,wsm_app n3,Option.bind_some,wsm_app n4,Option.bind_some,wsm_app n5,Option.bind_some,wnum_app (by rw [p8]; exact u64_lt _),Option.bind_some,wsm_app n6,Option.bind_some,wsm_app n7,Option.bind_some]
  rw [wprtF,wnum_app (by omega),Option.bind_some]
  dsimp only
  rw [show ((m.kind.toNat : Nat) : Int) = m.kind by omega,show (((partsN m).toNat : Nat) : Int) = partsN m by omega,wpO_app hr,Option.bind_some,wpR_app hr,Option.bind_some,wpG_app hr,Option.bind_some,wpS_app hr hl,Option.map_some,Option.bind_some]
  dsimp only
  rw [wnum_app (by omega),Option.bind_some]
  dsimp only
  rw [show ((m.log.length : Nat) : Int).toNat = m.log.length from rfl,e1,Option.map_some,wrap_u64 (by omega) (by omega),wrap_u64 (by omega) (by omega),← u64_eq hn.1 hn.2]
theorem wdec_back {m : Msg} (hok : msgOk m) (hn : 0 ≤ m.nonce ∧ m.nonce < 18446744073709551616) (hlog : m.log.length < 100000) (hB : (bodyB m).length ≤ 16777216) : wdecF (bodyB m) = some m := by
  rw [wdecF,wmsg_back hok hn hlog hB,Option.bind_some]
  exact if_pos ⟨rfl,hok,rfl⟩
structure FrB (b : List UInt8) (m : Msg) : Prop where
  ok : msgOk m
  non : 0 ≤ m.nonce ∧ m.nonce < 18446744073709551616
  log : m.log.length < 100000
  len : (bodyB m).length ≤ 16777216
  eq : b = frameB (bodyB m)
theorem FrB.short {b : List UInt8} {m : Msg} (h : FrB b m) : b.length ≤ 140737488355328 := by
  rw [h.eq,frameB_len]; have := h.len; omega
theorem FrB.log' {b : List UInt8} {m : Msg} (h : FrB b m) (x : Msg) (M : List UInt8) (hx : wmsgF (bodyB m) = some (x,M)) : x.log.length < 100000 := by
  rw [wmsg_back h.ok h.non h.log h.len] at hx
  rw [← (Prod.mk.inj (Option.some.inj hx)).1]; exact h.log
theorem FrB.two {b : List UInt8} {m x : Msg} {k : Int} (g : FrB b m) (h : (k = 0 → wdecF (bodyB m) = some x) ∧ (k ≠ 0 → wdecF (bodyB m) = none ∧ x = zms ∧ k = 160)) : k = 0 ∧ m = x := by
  have e := wdec_back g.ok g.non g.log g.len
  by_cases hk : k = 0
  · have := h.1 hk
    rw [e] at this
    exact ⟨hk,Option.some.inj this⟩
  · have := (h.2 hk).1
    rw [e] at this; cases this
def NX.take (x : NX) (i : Int) (keep : Bool) : NX := if keep then x else x.drop i
end Go.Proofs.YtliacpkblicnhaaGreat
namespace Go.Proofs.YtliacpkblicnhaaGreat
open Go Go.Sx Go.Proofs
section
variable (p : Nat) (K : List Nat) (x : NX)
theorem ntake_ct (i : Int) (keep : Bool) (m : Msg) (hi : 0 ≤ i ∧ i < (x.ps.length : Int)) (hF : FrB (gt x.ps i).b m) : Ct Tryz.prog 11 [.pointer (some ⟨p,0,none⟩),.int .i64 i,.bool keep] [netO p K x] [] (fun u G Q => ∃ K s,u = .tuple #[msgV m s,.int .i64 0] ∧ G = [netO p K (x.take i keep)] ∧ Q = msgQ m s) := by
 refine Ct.intro Tryz.func11 rfl rfl rfl (fun c hc => ?_)
 refine GC.sr_ ?_;refine GL.step rfl (t_alloc rfl ze_64) (GL.ex fun b_t6 => ?_);refine GL.rz 1 ?_;refine GC.rr 2 ?_;refine GL.cl Tryz.call18 [1] [] rfl rfl rfl (by exact nbytes_ct _ _ _ _ hi hF.short) ?_
 rintro _ _ _ ⟨K13,A13,cp13,l13,k13,rfl,rfl,rfl⟩
 refine GL.rz 5 ?_;refine GC.seq' ?_;refine GC.rg 2 ?_;refine GC.cond_false rfl ?_
 refine GC.skip (?_ : GC _ _ _ _)
 refine GC.seq' ?_;refine GC.rg 2 ?_;refine GC.co ?_ ?_
 ·intro h1; try simp only [tst_] at h1
  refine GC.region ?_;refine GL.rn 2 ?_;refine GL.cl Tryz.call13 [0] [] rfl rfl rfl (by exact ndrop_ct _ _ _ _) ?_
  rintro _ _ _ ⟨K24,rfl,rfl,rfl⟩
  refine GL.nil (?_ : GC _ _ _ _)
  refine GC.sr_ ?_;refine GL.freezeB (i := 1) rfl ?_;refine GL.rn 1 ?_;refine GL.cl Tryz.call24 [] [0] rfl rfl rfl (by exact wdec_ct _ (bodyB m) (gt x.ps i).b _ hF.eq hF.len hF.log' l13 k13) ?_
  rintro _ _ _ ⟨m26,s26,k26,hd26,rfl,rfl,rfl⟩
  obtain ⟨rfl,rfl⟩ := hF.two hd26
  refine GL.rn 2 ?_;refine GL.sn_ 1 ?_;refine GL.rz 1 ?_;refine GC.ret (Fin.c1 6 64 7 1 28 [0] (up 0 8) ?_)
  exact ⟨_,_,rfl,by subst keep; rfl,rfl⟩
 intro h1; try simp only [tst_] at h1
 refine GC.skip (?_ : GC _ _ _ _)
 refine GC.sr_ ?_;refine GL.freezeB (i := 1) rfl ?_;refine GL.rn 1 ?_;refine GL.cl Tryz.call24 [] [0] rfl rfl rfl (by exact wdec_ct _ (bodyB m) (gt x.ps i).b _ hF.eq hF.len hF.log' l13 k13) ?_
 rintro _ _ _ ⟨m26,s26,k26,hd26,rfl,rfl,rfl⟩
 obtain ⟨rfl,rfl⟩ := hF.two hd26
 refine GL.rn 2 ?_;refine GL.sn_ 1 ?_;refine GL.rz 1 ?_;refine GC.ret (Fin.c1 6 64 7 1 28 [0] (up 0 8) ?_)
 exact ⟨_,_,rfl,by subst keep; rfl,rfl⟩
end
end Go.Proofs.YtliacpkblicnhaaGreat
namespace Go.Proofs.YtliacpkblicnhaaGreat
open Go Go.Sx Go.Proofs
section
theorem atnil_ct (i : Int) : Ct Tryz.prog 30 [.pointer none,.int .i64 i] [] [] (fun u G Q => u = .int .i64 4 ∧ G = [] ∧ Q = []) := by
 refine Ct.intro Tryz.func30 rfl rfl rfl (fun c hc => ?_)
 refine GC.rg 1 ?_;refine GC.seq' ?_;refine GC.block ?_;refine GC.rr 1 ?_;refine GL.pure rfl (p_pnil_eql Tryz.underlying87 rfl rfl) ?_;refine GL.rz 1 ?_;refine GC.cond_true rfl ?_;refine GC.rg 1 ?_;refine GC.ret (Fin.b1 4 [] [] ?_)
 exact ⟨rfl,rfl,rfl⟩
theorem bytesnil_ct (i : Int) : Ct Tryz.prog 18 [.pointer none,.int .i64 i] [] [] (fun u G Q => u = .tuple #[.slice none 0 0,.int .i64 4] ∧ G = [] ∧ Q = []) := by
 refine Ct.intro Tryz.func18 rfl rfl rfl (fun c hc => ?_)
 refine GC.rg 2 ?_;refine GC.seq' ?_;refine GC.rr 2 ?_;refine GL.cl Tryz.call30 [] [] rfl rfl rfl (by exact atnil_ct _) ?_
 rintro _ _ _ ⟨rfl,rfl,rfl⟩
 refine GL.rz 1 ?_;refine GC.rg 2 ?_;refine GC.cond_true rfl ?_;refine GC.rg 3 ?_;refine GC.ret (Fin.b2 4 5 [] [] ?_)
 exact ⟨rfl,rfl,rfl⟩
theorem dropnil_ct (i : Int) : Ct Tryz.prog 13 [.pointer none,.int .i64 i] [] [] (fun u G Q => u = .int .i64 4 ∧ G = [] ∧ Q = []) := by
 refine Ct.intro Tryz.func13 rfl rfl rfl (fun c hc => ?_)
 refine GC.rg 1 ?_;refine GC.seq' ?_;refine GC.rr 2 ?_;refine GL.cl Tryz.call30 [] [] rfl rfl rfl (by exact atnil_ct _) ?_
 rintro _ _ _ ⟨rfl,rfl,rfl⟩
 refine GL.rz 1 ?_;refine GC.rg 2 ?_;refine GC.cond_true rfl ?_;refine GC.rg 2 ?_;refine GC.ret (Fin.b1 4 [] [] ?_)
 exact ⟨rfl,rfl,rfl⟩
theorem spoilnil_ct (i j k : Int) : Ct Tryz.prog 19 [.pointer none,.int .i64 i,.int .i64 j,.int .u8 k] [] [] (fun u G Q => u = .int .i64 4 ∧ G = [] ∧ Q = []) := by
 refine Ct.intro Tryz.func19 rfl rfl rfl (fun c hc => ?_)
 refine GC.rg 1 ?_;refine GC.seq' ?_;refine GC.rr 2 ?_;refine GL.cl Tryz.call30 [] [] rfl rfl rfl (by exact atnil_ct _) ?_
 rintro _ _ _ ⟨rfl,rfl,rfl⟩
 refine GL.rz 1 ?_;refine GC.rg 2 ?_;refine GC.cond_true rfl ?_;refine GC.rg 2 ?_;refine GC.ret (Fin.b1 8 [] [] ?_)
 exact ⟨rfl,rfl,rfl⟩
theorem cutnil_ct (i j : Int) (on : Bool) : Ct Tryz.prog 14 [.pointer none,.int .i64 i,.int .i64 j,.bool on] [] [] (fun u G Q => u = .int .i64 4 ∧ G = [] ∧ Q = []) := by
 refine Ct.intro Tryz.func14 rfl rfl rfl (fun c hc => ?_)
 refine GC.rg 1 ?_;refine GC.seq' ?_;refine GC.rr 1 ?_;refine GL.pure rfl (p_pnil_eql Tryz.underlying87 rfl rfl) ?_;refine GL.nl_ ?_;refine GC.cond_true rfl ?_;refine GC.rg 1 ?_;refine GC.ret (Fin.b1 8 [] [] ?_)
 exact ⟨rfl,rfl,rfl⟩
theorem isnil_ct (i j : Int) : Ct Tryz.prog 20 [.pointer none,.int .i64 i,.int .i64 j] [] [] (fun u G Q => u = .bool false ∧ G = [] ∧ Q = []) := by
 refine Ct.intro Tryz.func20 rfl rfl rfl (fun c hc => ?_)
 refine GC.rg 1 ?_;refine GC.seq' ?_;refine GC.rr 1 ?_;refine GL.pure rfl (p_pnil_eql Tryz.underlying87 rfl rfl) ?_;refine GL.nl_ ?_;refine GC.cond_true rfl ?_;refine GC.rg 1 ?_;refine GC.ret (Fin.b1 6 [] [] ?_)
 exact ⟨rfl,rfl,rfl⟩
theorem lennil_ct : Ct Tryz.prog 15 [.pointer none] [] [] (fun u G Q => u = .int .i64 0 ∧ G = [] ∧ Q = []) := by
 refine Ct.intro Tryz.func15 rfl rfl rfl (fun c hc => ?_)
 refine GC.rg 1 ?_;refine GC.seq' ?_;refine GC.rr 1 ?_;refine GL.pure rfl (p_pnil_eql Tryz.underlying87 rfl rfl) ?_;refine GL.nl_ ?_;refine GC.cond_true rfl ?_;refine GC.rg 1 ?_;refine GC.ret (Fin.b1 2 [] [] ?_)
 exact ⟨rfl,rfl,rfl⟩
theorem countsnil_ct : Ct Tryz.prog 16 [.pointer none] [] [] (fun u G Q => u = .tuple #[.int .i64 0,.int .i64 0] ∧ G = [] ∧ Q = []) := by
 refine Ct.intro Tryz.func16 rfl rfl rfl (fun c hc => ?_)
 refine GC.rg 2 ?_;refine GC.seq' ?_;refine GC.rr 1 ?_;refine GL.pure rfl (p_pnil_eql Tryz.underlying87 rfl rfl) ?_;refine GL.nl_ ?_;refine GC.cond_true rfl ?_;refine GC.rg 2 ?_;refine GC.ret (Fin.b2 2 3 [] [] ?_)
 exact ⟨rfl,rfl,rfl⟩
theorem sendnil_ct (m : Msg) (s : Lie) : Ct Tryz.prog 10 [.pointer none,msgV m s] [] (msgQ m s) (fun u G Q => u = .int .i64 4 ∧ G = [] ∧ Q = []) := by
 refine Ct.intro Tryz.func10 rfl rfl rfl (fun c hc => ?_)
 refine GC.sr_ ?_;refine GL.step rfl (t_box rfl rfl rfl) (GL.ex fun b_t3 => ?_);refine GL.rz 1 ?_;refine GC.seq' ?_;refine GC.rr 1 ?_;refine GL.pure rfl (p_pnil_eql Tryz.underlying87 rfl rfl) ?_;refine GL.nl_ ?_;refine GC.cond_true rfl ?_
 refine GC.rg 1 ?_;refine GC.ret (Fin.b1 4 [] [] ?_)
 exact ⟨rfl,rfl,rfl⟩
theorem takenil_ct (i : Int) (keep : Bool) : Ct Tryz.prog 11 [.pointer none,.int .i64 i,.bool keep] [] [] (fun u G Q => u = .tuple #[msgZ,.int .i64 4] ∧ G = [] ∧ Q = []) := by
 refine Ct.intro Tryz.func11 rfl rfl rfl (fun c hc => ?_)
 refine GC.sr_ ?_;refine GL.step rfl (t_alloc rfl ze_64) (GL.ex fun b_t6 => ?_);refine GL.rz 1 ?_;refine GC.rr 2 ?_;refine GL.cl Tryz.call18 [] [] rfl rfl rfl (by exact bytesnil_ct _) ?_
 rintro _ _ _ ⟨rfl,rfl,rfl⟩
 refine GL.rz 5 ?_;refine GC.seq' ?_;refine GC.rg 2 ?_;refine GC.cond_true rfl ?_;refine GC.sr_ ?_;refine GL.pure rfl (p_build ze_64 of_64 rfl rfl) ?_;refine GL.rn 1 ?_;refine GL.sn_ 0 ?_;refine GL.rz 1 ?_;refine GC.ret (Fin.c1 6 64 7 0 28 [] [] ?_)
 exact ⟨rfl,rfl,rfl⟩
end
end Go.Proofs.YtliacpkblicnhaaGreat
namespace Go.Proofs.YtliacpkblicnhaaGreat
open Go Go.Sx Go.Proofs
def nx0 : NX := ⟨[],[],0,0⟩
abbrev netZ : List Value := [.int .u32 0,.int .i32 0,.int .u32 0,.slice none 0 0,.map none,.int .i64 0,.int .i64 0]
theorem net0_rg (b : Nat) : RG [netO b [b] nx0] [.cells b netZ 42] :=
  ⟨SubK.eq rfl,fun w h o ho => by
    rw [List.mem_singleton.1 ho]
    refine ⟨⟨⟨0,none,0,[],.map none,[]⟩,rfl,.inl ⟨rfl,rfl,rfl,rfl⟩⟩,rfl,fun o ho => ?_⟩
    rcases List.mem_cons.1 ho with rfl | ho
    · exact h _ (List.mem_cons_self ..)
    · rw [List.mem_singleton.1 (show o ∈ [rowP none 0 []] from ho)]
      exact ⟨rfl,.inl ⟨rfl,rfl⟩⟩⟩
theorem GL.net0 {P : Program} {c : Cx} {n : Nat} {env : List (Nat × Value)} {G Gr : List Own} {Q : List Pers} {X : Exit → Asr} {ops : Array Oper} {rest : List Oper} {b : Nat} (is : List Nat) (hsel : sel G is = some ([.cells b netZ 42],Gr)) (k : GL P ops X rest (St c n env (netO b [b] nx0 :: Gr) Q)) : GL P ops X rest (St c n env G Q) :=
  GL.regroup0 is [netO b [b] nx0] hsel (net0_rg b).1 (net0_rg b).2 k
def nwM : Msg := ⟨5,0,1,0,5,0,0,0,0,0,0,zop,rz,zgr,zst,[]⟩
abbrev nwV : Value := .agg #[.int .u8 5,.int .i64 0,.int .i64 1,.int .i64 0,.int .i64 5,.int .i64 0,.int .i64 0,.int .i64 0,.int .u64 0,.int .i64 0,.int .i64 0,.int .u8 0,.int .i64 0,.int .i64 0,.slice none 0 0,.slice none 0 0,.int .u8 0,.slice none 0 0,.int .i64 0,.slice none 0 0,.int .i64 0,.int .i64 0,.int .i64 0,.slice none 0 0,.slice none 0 0,.int .i64 0,.slice none 0 0,.slice none 0 0]
theorem nwM_len : MsgLen nwM := ⟨by decide,by decide,by decide,by decide,⟨by decide,by decide,by decide,by simp [nwM,zst],by simp [nwM,zst]⟩,by decide,by simp [nwM]⟩
theorem nwM_ok : msgOk nwM := by rw [← msgE_iff]; decide +kernel
theorem nwM_body : (bodyB nwM).length ≤ 16777216 := by
  have : (bodyB nwM).length = 86 := by decide +kernel
  omega
def nwF : List UInt8 := frameB (bodyB nwM)
theorem nwM_enc : encFo nwM = (0,nwF) := by rw [encFo,if_pos nwM_ok,if_pos nwM_body]; rfl
theorem nw_nil {q : Pers} (h : q ∈ msgQ nwM lie0) : ∀ w S,q.h w S := by
  intro w S
  simp only [List.mem_cons,List.not_mem_nil,or_false] at h
  rcases h with rfl | rfl | rfl | rfl | rfl | rfl | rfl | rfl <;> exact .inl rfl
def nx1 : NX := ⟨[⟨nwF,false⟩],[],1,0⟩
def nx2 : NX := ⟨[⟨nwF,false⟩],[(0,1)],1,0⟩
def nx3 : NX := ⟨[⟨nwF,false⟩],[(0,1)],2,1⟩
def nx4 : NX := ⟨[],[(0,1)],2,1⟩
theorem nw_send (p : Nat) (K : List Nat) (x : NX) (ha : -4611686018427387904 ≤ x.sent ∧ x.sent ≤ 4611686018427387904) (hb : -4611686018427387904 ≤ x.lost ∧ x.lost ≤ 4611686018427387904) (y : NX) (hy : x.send nwM = y) : Ct Tryz.prog 10 [.pointer (some ⟨p,0,none⟩),nwV] [netO p K x] [] (NetS p (.int .i64 0) y) := by
  have h := nsend_ct p K x nwM lie0 nwM_len ⟨by decide,by decide⟩ (by decide) ha hb
  rw [hy,nwM_enc] at h
  exact Ct.qperm h (fun q hq => .inr (nw_nil hq))
theorem nw1 : nx0.send nwM = nx1 := by rw [NX.send,nwM_enc,if_pos rfl,if_neg (by simp [nx0])]; rfl
theorem nw3 : nx2.send nwM = nx3 := by rw [NX.send,nwM_enc,if_pos rfl,if_pos (by simp [nx2,nwM])]; rfl
theorem nw2 (p : Nat) (K : List Nat) : Ct Tryz.prog 14 [.pointer (some ⟨p,0,none⟩),.int .i64 0,.int .i64 1,.bool true] [netO p K nx1] [] (NetS p (.int .i64 0) nx2) := ncut_ct p K nx1 0 1 true (by omega) (by omega)
theorem nw4 (p : Nat) (K : List Nat) : Ct Tryz.prog 11 [.pointer (some ⟨p,0,none⟩),.int .i64 0,.bool false] [netO p K nx3] [] (fun u G Q => ∃ K s,u = .tuple #[msgV nwM s,.int .i64 0] ∧ G = [netO p K nx4] ∧ Q = msgQ nwM s) :=
  ntake_ct p K nx3 0 false nwM ⟨by decide,by decide⟩ ⟨nwM_ok,⟨by decide,by decide⟩,by decide,nwM_body,rfl⟩
theorem nawake_ct : Ct Tryz.prog 8 [] [] [] (fun u G Q => u = .bool true ∧ G = [] ∧ Q = []) := by
 refine Ct.intro Tryz.func8 rfl rfl rfl (fun c hc => ?_)
 refine GC.rg 1 ?_;refine GC.sr_ ?_;refine GL.step rfl (t_alloc rfl ze_42) (GL.ex fun b_t1 => ?_);refine GL.nl_ ?_;refine GC.sr_ ?_;refine GL.net0 [0] rfl ?_;refine GL.pure rfl (p_build ze_64 of_64 rfl rfl) ?_;refine GL.step rfl (t_alloc rfl ze_64) (GL.ex fun b_t2 => ?_)
 refine GL.sn_ 0 ?_;refine GL.nl_ ?_;refine GC.sr_ ?_;refine GL.ln_ 0 28 ?_;refine GL.cl Tryz.call10 [1] [] rfl rfl rfl (by exact nw_send _ _ nx0 ⟨by decide,by decide⟩ ⟨by decide,by decide⟩ _ nw1) ?_
 rintro _ _ _ ⟨K12,rfl,rfl,rfl⟩
 refine GL.rz 1 ?_;refine GC.sr_ ?_;refine GL.cl Tryz.call14 [0] [] rfl rfl rfl (by exact nw2 _ _) ?_
 rintro _ _ _ ⟨K13,rfl,rfl,rfl⟩
 refine GL.rz 1 ?_;refine GC.sr_ ?_;refine GL.ln_ 1 28 ?_;refine GL.cl Tryz.call10 [0] [] rfl rfl rfl (by exact nw_send _ _ nx2 ⟨by decide,by decide⟩ ⟨by decide,by decide⟩ _ nw3) ?_
 rintro _ _ _ ⟨K15,rfl,rfl,rfl⟩
 refine GL.rz 1 ?_;refine GC.sr_ ?_;refine GL.cl Tryz.call11 [0] [] rfl rfl rfl (by exact nw4 _ _) ?_
 rintro _ _ _ ⟨K17,s17,rfl,rfl,rfl⟩
 refine GL.rn 3 ?_;refine GL.step rfl (t_alloc rfl ze_64) (GL.ex fun b_t6 => ?_);refine GL.sn_ 0 ?_;refine GL.rz 1 ?_;refine GC.sr_ ?_;refine GL.cl Tryz.call16 [1] [] rfl rfl rfl (by exact ncounts_ct _ _ _) ?_
 rintro _ _ _ ⟨K21,rfl,rfl,rfl⟩
 refine GL.rz 5 ?_;refine GC.rr 16 ?_;refine GL.dg_ 1 ?_;refine GL.rn 3 ?_;refine GL.stepG rfl (s := 43) rfl rfl (t_call rfl Tryz.call15 rfl (is := [0]) (js := []) rfl rfl (by exact nlen_ct _ _ _)) (GL.ret ?_)
 rintro _ _ _ ⟨K44,rfl,rfl,rfl⟩
 refine GL.rn 11 ?_;refine GL.stepG rfl (s := 55) rfl rfl (t_call rfl Tryz.call20 rfl (is := [0]) (js := []) rfl rfl (by exact nis_ct _ _ _ _ _)) (GL.ret ?_)
 rintro _ _ _ ⟨K56,rfl,rfl,rfl⟩
 refine GL.rn 2 ?_;refine GL.stepG rfl (s := 58) rfl rfl (t_call rfl Tryz.call20 rfl (is := [0]) (js := []) rfl rfl (by exact nis_ct _ _ _ _ _)) (GL.ret ?_)
 rintro _ _ _ ⟨K59,rfl,rfl,rfl⟩
 refine GL.rz 3 ?_;refine GC.ret (Fin.b1 0 [] [] ?_)
 exact ⟨rfl,rfl,rfl⟩
theorem same_zz : Ct Tryz.prog 12 [msgZ,msgZ] [] [] (fun u G Q => u = .bool true ∧ G = [] ∧ Q = []) :=
  Ct.qperm (Ct.mono (rmsame_ct zms zms lie0 lie0 ⟨by decide,by decide,by decide,by decide,⟨by decide,by decide,by decide,by simp [zms,zst],by simp [zms,zst]⟩,by decide,by simp [zms]⟩) fun u G Q h => ⟨h.1.trans (by simp),h.2⟩) fun q hq => .inr (by
    intro w S
    rcases List.mem_append.1 hq with hq | hq <;>
      (simp only [List.mem_cons,List.not_mem_nil,or_false] at hq
       rcases hq with rfl | rfl | rfl | rfl | rfl | rfl | rfl | rfl <;> exact .inl rfl))
theorem netNobody_ct (m : Msg) (s : Lie) (i : Int) : Ct Tryz.prog 7 [msgV m s,.int .i64 i] [] (msgQ m s) (fun u G Q => u = .bool true ∧ G = [] ∧ Q = []) := by
 refine Ct.intro Tryz.func7 rfl rfl rfl (fun c hc => ?_)
 refine GC.sr_ ?_;refine GL.step rfl (t_box rfl rfl rfl) (GL.ex fun b_t2 => ?_);refine GL.rz 1 ?_;refine GC.rg 1 ?_;refine GC.rr 2 ?_;refine GL.cl Tryz.call18 [] [] rfl rfl rfl (by exact bytesnil_ct _) ?_
 rintro _ _ _ ⟨rfl,rfl,rfl⟩
 refine GL.rz 5 ?_;refine GC.rr 2 ?_;refine GL.cl Tryz.call11 [] [] rfl rfl rfl (by exact takenil_ct _ _) ?_
 rintro _ _ _ ⟨rfl,rfl,rfl⟩
 refine GL.rn 3 ?_;refine GL.step rfl (t_alloc rfl ze_64) (GL.ex fun b_t8 => ?_);refine GL.sn_ 0 ?_;refine GL.rz 1 ?_;refine GC.rr 1 ?_;refine GL.cl Tryz.call16 [] [] rfl rfl rfl (by exact countsnil_ct) ?_
 rintro _ _ _ ⟨rfl,rfl,rfl⟩
 refine GL.rz 5 ?_;refine GC.rr 1 ?_;refine GL.ln_ 1 28 ?_;refine GL.cl Tryz.call10 [] (up 0 8) rfl rfl rfl (by exact sendnil_ct _ _) ?_
 rintro _ _ _ ⟨rfl,rfl,rfl⟩
 refine GL.rn 12 ?_;refine GL.stepG rfl (s := 41) rfl rfl (t_call rfl Tryz.call13 rfl (is := []) (js := []) rfl rfl (by exact dropnil_ct _)) (GL.ret ?_)
 rintro _ _ _ ⟨rfl,rfl,rfl⟩
 refine GL.rn 6 ?_;refine GL.stepG rfl (s := 47) rfl rfl (t_call rfl Tryz.call19 rfl (is := []) (js := []) rfl rfl (by exact spoilnil_ct _ _ _)) (GL.ret ?_)
 rintro _ _ _ ⟨rfl,rfl,rfl⟩
 refine GL.rn 6 ?_;refine GL.stepG rfl (s := 54) rfl rfl (t_call rfl Tryz.call14 rfl (is := []) (js := []) rfl rfl (by exact cutnil_ct _ _ _)) (GL.ret ?_)
 rintro _ _ _ ⟨rfl,rfl,rfl⟩
 refine GL.rn 6 ?_;refine GL.stepG rfl (s := 61) rfl rfl (t_call rfl Tryz.call20 rfl (is := []) (js := []) rfl rfl (by exact isnil_ct _ _)) (GL.ret ?_)
 rintro _ _ _ ⟨rfl,rfl,rfl⟩
 refine GL.rn 3 ?_;refine GL.lg_ 0 28 ?_;refine GL.pureG (s := 68) rfl rfl rfl (p_build ze_64 of_64 rfl rfl) ?_;refine GL.stepG rfl (s := 68) rfl rfl (t_call rfl Tryz.call12 rfl (is := []) (js := []) rfl rfl (by exact same_zz)) (GL.ret ?_)
 rintro _ _ _ ⟨rfl,rfl,rfl⟩
 refine GL.rn 5 ?_;refine GL.stepG rfl (s := 73) rfl rfl (t_call rfl Tryz.call15 rfl (is := []) (js := []) rfl rfl (by exact lennil_ct)) (GL.ret ?_)
 rintro _ _ _ ⟨rfl,rfl,rfl⟩
 refine GL.pureG (s := 73) rfl rfl rfl (p_add rfl rfl (w64 (by omega) (by omega))) ?_;refine GL.rn 1 ?_;refine GL.pureG (s := 73) rfl rfl rfl (p_add rfl rfl (w64 (by omega) (by omega))) ?_;refine GL.rn 1 ?_;refine GL.pureG (s := 73) rfl rfl rfl (p_add rfl rfl (w64 (by omega) (by omega))) ?_
 refine GL.rn 3 ?_;refine GL.stepG rfl (s := 85) rfl rfl (t_call rfl Tryz.call8 rfl (is := []) (js := []) rfl rfl (by exact nawake_ct)) (GL.ret ?_)
 rintro _ _ _ ⟨rfl,rfl,rfl⟩
 refine GL.rz 2 ?_;refine GC.ret (Fin.b1 4 [] [] ?_)
 exact ⟨rfl,rfl,rfl⟩
end Go.Proofs.YtliacpkblicnhaaGreat
