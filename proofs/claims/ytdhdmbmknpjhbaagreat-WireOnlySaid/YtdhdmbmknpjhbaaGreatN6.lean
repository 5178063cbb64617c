/- Texts of this claim, in one: what the law leans on (part 6). -/
import Derived.Test.YtdhdmbmknpjhbaaGreatN5
set_option linter.unusedVariables false
set_option linter.unusedSimpArgs false
set_option maxRecDepth 100000
namespace Go.Proofs.YtdhdmbmknpjhbaaGreat
open Go Go.Sx Go.Proofs
theorem wenco_long (m : Msg) (s : Lie) (hm : MsgLen m) (hn : 0 ≤ m.nonce ∧ m.nonce < 18446744073709551616) (hlog : m.log.length < 100000) (h : msgOk m) (hf : ¬ (bodyB m).length ≤ 16777216) : Ct Tryz.prog 16 [msgV m s] [] (msgQ m s) (EncO 2 []) := by
 refine Ct.intro Tryz.func16 rfl rfl rfl (fun c hc => ?_)
 refine GC.sr_ ?_; refine GL.step rfl (t_box rfl rfl rfl) (GL.ex fun b_t1 => ?_)
 iterate 2 refine GL.as_ rfl rfl ?_
 refine GL.nl_ ?_; refine GC.seq' ?_; refine GC.sr_ ?_; refine GL.step rfl (t_mem rfl (m_loadN (i := 0) rfl rfl ag_42 (vs := [_, _, _, _, _, _, _, _, _, _, _, _, _, _, _, _, _, _, _, _, _, _, _, _, _, _, _, _]) sz_42 ⟨rfl, rfl, rfl, rfl, rfl, rfl, rfl, rfl, rfl, rfl, rfl, rfl, rfl, rfl, rfl, rfl, rfl, rfl, rfl, rfl, rfl, rfl, rfl, rfl, rfl, rfl, rfl, rfl, trivial⟩)) ?_
 refine GL.step rfl (t_call rfl fn_12 rfl (is := []) (js := [0, 1, 2, 3, 4, 5, 6, 7]) rfl rfl (by exact wchko_ok m s hm h)) (GL.ret ?_)
 rintro _ _ _ ⟨rfl, rfl, rfl⟩
 refine GL.as_ rfl rfl ?_; refine GL.nl_ ?_; refine GC.sr_ ?_; refine GL.mv_ rfl rfl ?_; refine GL.pure rfl (p_neq rfl rfl) ?_; refine GL.nl_ ?_; refine GC.cond_false rfl ?_
 refine GC.skip (?_ : GC _ _ _ _)
 refine GC.sr_ ?_; refine GL.step rfl (t_mem rfl (m_loadN (i := 0) rfl rfl ag_42 (vs := [_, _, _, _, _, _, _, _, _, _, _, _, _, _, _, _, _, _, _, _, _, _, _, _, _, _, _, _]) sz_42 ⟨rfl, rfl, rfl, rfl, rfl, rfl, rfl, rfl, rfl, rfl, rfl, rfl, rfl, rfl, rfl, rfl, rfl, rfl, rfl, rfl, rfl, rfl, rfl, rfl, rfl, rfl, rfl, rfl, trivial⟩)) ?_
 refine GL.step rfl (t_call rfl fn_45 rfl (is := []) (js := [0, 1, 2, 3, 4, 5, 6, 7]) rfl rfl (by exact wbodyo_long m s hm h hn hlog hf)) (GL.ret ?_)
 rintro _ _ _ ⟨⟨A14, n14, cp14, rfl⟩, rfl, rfl⟩
 refine GL.mv_ rfl rfl ?_
 iterate 2 refine GL.pure rfl (p_extract rfl rfl) ?_
 iterate 2 refine GL.as_ rfl rfl ?_
 refine GL.nl_ ?_; refine GC.seq' ?_; refine GC.sr_ ?_; refine GL.mv_ rfl rfl ?_; refine GL.pure rfl (p_not rfl) ?_; refine GL.nl_ ?_; refine GC.cond_true rfl ?_; refine GC.sr_ ?_
 iterate 2 refine GL.as_ rfl rfl ?_
 refine GL.nl_ ?_; refine GC.nilrow 5 1 ?_; refine GC.ret ?_
 refine fun a w h => Fin.back (rs := [.tmp 2, .tmp 3]) (vs := [_, _]) (is := [0]) (js := []) rfl ⟨rfl, rfl, trivial⟩ rfl rfl ?_ h
 clear h
 exact ⟨none, 0, by simp, by simp, rfl, rfl, rfl⟩
theorem wenco_ct (m : Msg) (s : Lie) (hm : MsgLen m) (hn : 0 ≤ m.nonce ∧ m.nonce < 18446744073709551616) (hlog : m.log.length < 100000) : Ct Tryz.prog 16 [msgV m s] [] (msgQ m s) (EncO (encFo m).1 (encFo m).2) := by
  by_cases h : msgOk m
  · by_cases hf : (bodyB m).length ≤ 16777216
    · rw [show encFo m = (0, frameB (bodyB m)) by rw [encFo, if_pos h, if_pos hf]]; exact wenco_ok m s hm hn hlog h hf
    · rw [show encFo m = (2, []) by rw [encFo, if_pos h, if_neg hf]]; exact wenco_long m s hm hn hlog h hf
  · rw [show encFo m = (160, []) by rw [encFo, if_neg h]]; exact wenco_bad m s hm h
end Go.Proofs.YtdhdmbmknpjhbaaGreat
namespace Go.Proofs.YtdhdmbmknpjhbaaGreat
open Go Go.Sx Go.Proofs
theorem rd_fr0 {F B : List UInt8} (hF : F = frameB B) (hB : B.length ≤ 16777216) : rdN F = B.length ∧ rdE F = 0 ∧ (gt F 2).toNat = 4 ∧ valN (seg F 4 12) = 0 ∧ seg F 16 (B.length + 16) = B := by
  have hl : F.length = B.length + 20 := by rw [hF, frameB_len]
  have hn : rdN F = B.length := rdN_frame hF hB (fun i _ _ => rfl) (by omega)
  have hh : (headB B).length = B.length + 16 := headB_len B
  have h0 : gt F 0 = 80 ∧ gt F 1 = 76 ∧ gt F 2 = 4 ∧ gt F 3 = 0 := by rw [hF]; exact ⟨rfl, rfl, rfl, rfl⟩
  have e1 : seg F 0 (B.length + 16) = headB B := by
    rw [hF, frameB, sealB, seg, List.drop_zero, List.take_append_of_le_length (by omega), ← hh, List.take_length]
  have e2 : seg F 0 (B.length + 20) = F := by rw [← hl]; exact seg_all F
  refine ⟨hn, ?_, by rw [h0.2.2.1]; rfl, ?_, ?_⟩
  · rw [rdE, if_neg (by omega), if_neg (by rw [hn, h0.1, h0.2.1, h0.2.2.2]; exact fun h => h ⟨rfl, rfl, rfl, hB⟩), if_neg (by omega), if_neg (by rw [hn, e1, e2, hF]; exact fun h => h rfl)]
  · rw [hF]; rfl
  · have : seg F 16 (B.length + 16) = (headB B).drop 16 := by rw [← e1]; simp [seg]
    rw [this]; rfl
theorem rd_fr {F B : List UInt8} (hF : F = frameB B) (hB : B.length ≤ 16777216) {k s : Int} {bd : List UInt8} {n : Int} (h : rdR F k s bd n) : k = 4 ∧ s = 0 ∧ B = bd ∧ n = ((B.length + 20 : Nat) : Int) := by
  obtain ⟨g1, g2, g3, g4, g5⟩ := rd_fr0 hF hB
  obtain ⟨h1, h2, h3, h4, _⟩ := h g2
  rw [g3] at h1
  rw [g4] at h2
  rw [g1, g5] at h3
  rw [g1] at h4
  exact ⟨h1, h2, h3.symm, h4⟩
theorem recW_ct (p4 p5 : Nat) : CtR Tryz.prog 49 [.pointer (some ⟨p4, 0, none⟩), .pointer (some ⟨p5, 0, none⟩)] [.cells p4 (msgL zms ⟨none, 0, none, 0, none, 0, none, 0, none, 0, none, 0, none, 0, none, 0⟩) 42, .cells p5 [.int .i64 0] 45] [] wFt
    (fun u G Q => u = .tuple #[] ∧ G = [.cells p4 (msgL zms ⟨none, 0, none, 0, none, 0, none, 0, none, 0, none, 0, none, 0, none, 0⟩) 42, .cells p5 [.int .i64 160] 45] ∧ Q = []) := by
  refine CtR.intro Tryz.func49 rfl rfl rfl rfl rfl (fun c hc => ?_)
  refine GC.seq' ?_
  refine GC.seq' ?_
  refine GC.region ?_
  refine GL.pure rfl (p_move rfl) ?_
  refine GL.pure rfl (p_ifNil rfl Tryz.underlying20) ?_
  refine GL.nil (?_ : GC _ _ _ _)
  refine GC.cond_false rfl ?_
  refine GC.skip (?_ : GC _ _ _ _)
  refine GC.seq' ?_
  refine GC.seq' ?_
  refine GC.region ?_
  refine GL.pure rfl (p_move rfl) ?_
  refine GL.pure rfl (p_assert rfl Tryz.underlying90 (fun m h => by cases h)) ?_
  refine GL.pure rfl (p_move rfl) ?_
  refine GL.pure rfl (p_extract rfl rfl) ?_
  refine GL.pure rfl (p_extract rfl rfl) ?_
  refine GL.step rfl (t_alloc rfl ze_90) (GL.ex fun b_t3 => ?_)
  refine GL.step rfl (t_storeN (i := 0) rfl rfl rfl sz_90 rfl rfl rfl) ?_
  refine GL.pure rfl (p_assign rfl) ?_
  refine GL.nil (?_ : GC _ _ _ _)
  refine GC.seq' ?_
  refine GC.region ?_
  refine GL.pure rfl (p_move rfl) ?_
  refine GL.pure rfl (p_not rfl) ?_
  refine GL.nil (?_ : GC _ _ _ _)
  refine GC.cond_false rfl ?_
  refine GC.skip (?_ : GC _ _ _ _)
  refine GC.region ?_
  refine GL.pure rfl (p_build ze_42 of_42 rfl rfl) ?_
  refine GL.step rfl (t_storeN (i := 1) rfl rfl rfl sz_42 rfl rfl rfl) ?_
  refine GL.step rfl (t_store (i := 2) rfl rfl rfl rfl sz_45 rfl rfl rfl) ?_
  refine GL.nil ?_
  refine fun a w h => Fin.back0 rfl (is := [1, 1]) (js := []) rfl rfl ?_ h
  clear h
  exact ⟨rfl, rfl, rfl⟩
def wdecF (B : List UInt8) : Option Msg := (wmsgF B).bind fun r => if r.2 = [] ∧ msgOk r.1 ∧ bodyB r.1 = B then some r.1 else none
abbrev DecM (x : Option Msg) (u : Value) (G : List Own) (Q : List Pers) : Prop := ∃ (m : Msg) (s : Lie) (k : Int), ((k = 0 → x = some m) ∧ (k ≠ 0 → x = none ∧ m = zms)) ∧ u = .tuple #[msgV m s, .int .i64 k] ∧ G = [] ∧ Q = msgQ m s
theorem wdec_ct (A : Option Addr) (B F : List UInt8) (cp : Nat) (hF : F = frameB B) (hB : B.length ≤ 16777216) (hlog : ∀ m M, wmsgF B = some (m, M) → m.log.length < 100000) (hcp : F.length ≤ cp) (hcp' : cp ≤ 9223372036854775807) : Ct Tryz.prog 18 [.slice A F.length cp] [] [Pers.row Kd.u8 A F] (DecM (wdecF B)) := by
 have hfl : F.length = B.length + 20 := by rw [hF, frameB_len]
 refine Ct.introD Tryz.func18 rfl rfl rfl (fun c hc hcD => ?_)
 refine GC.sr_ ?_; refine GL.step rfl (t_alloc rfl ze_42) (GL.ex fun b_t2 => ?_); refine GL.step rfl (t_alloc rfl ze_45) (GL.ex fun b_t3 => ?_); refine GL.nl_ ?_; refine GC.sr_ ?_; refine GL.know (q := Pers.row Kd.u8 none []) (fun _ _ _ => .inl rfl) ?_
 refine GL.know (q := Pers.row kI none []) (fun _ _ _ => .inl rfl) ?_; refine GL.know (q := Pers.row kPage none []) (fun _ _ _ => .inl rfl) ?_; refine GL.know (q := Pers.row kRow none []) (fun _ _ _ => .inl rfl) ?_; refine GL.know (q := Pers.row kEntry none []) (fun _ _ _ => .inl rfl) ?_
 refine GL.mv_ rfl rfl ?_; refine GL.step rfl (t_call rfl fn_48 rfl (is := []) (js := [5]) rfl rfl (by exact fread_ct _ F _ (by omega) hcp hcp')) (GL.ret ?_)
 rintro _ _ _ ⟨k13, s13, A13, bd13, cp13, n13, l13, c13, hr13, rfl, rfl, rfl⟩
 obtain ⟨rfl, rfl, rfl, rfl⟩ := rd_fr hF hB hr13
 rw [(rd_fr0 hF hB).2.1]
 refine GL.mv_ rfl rfl ?_
 iterate 3 refine GL.pure rfl (p_extract rfl rfl) ?_
 refine GL.step rfl (t_alloc rfl ze_55) (GL.ex fun b_t4 => ?_); refine GL.step rfl (t_storeN (i := 0) rfl rfl rfl sz_55 rfl rfl rfl) ?_
 iterate 2 refine GL.as_ rfl rfl ?_
 refine GL.nl_ ?_; refine GC.seq' ?_; refine GC.sr_ ?_; refine GL.mv_ rfl rfl ?_; refine GL.pure rfl (p_neq rfl rfl) ?_; refine GL.nl_ ?_; refine GC.cond_false rfl ?_
 refine GC.skip (?_ : GC _ _ _ _)
 refine GC.seq' ?_; refine GC.sr_ ?_
 iterate 2 refine GL.mv_ rfl rfl ?_
 refine GL.pure rfl (p_len Tryz.underlying25 rfl) ?_; refine GL.pure rfl (p_neq rfl rfl) ?_; refine GL.mv_ rfl rfl ?_; refine GL.split (i := 25) rfl (fun h1 => ?_) (fun h1 => ?_)
 ·try simp only [tst_] at h1
  exfalso; exact h1 (by omega)
 ·try simp only [tst_] at h1
  refine GL.pureG (s := 25) rfl rfl rfl (p_fieldAddr fo_55_0 rfl) ?_; refine GL.stepG rfl (s := 25) rfl rfl (t_mem rfl (m_load (i := 0) rfl rfl ag_5 rfl)) ?_; refine GL.pureG (s := 25) rfl rfl rfl (p_neq rfl rfl) ?_; refine GL.pure rfl (p_pick_false rfl rfl) ?_
  refine GL.mv_ rfl rfl ?_; refine GL.split (i := 30) rfl (fun h2 => ?_) (fun h2 => ?_)
  ·try simp only [tst_] at h2
   exfalso; exact h2 trivial
  ·try simp only [tst_] at h2
   refine GL.pureG (s := 30) rfl rfl rfl (p_fieldAddr fo_55_1 rfl) ?_; refine GL.stepG rfl (s := 30) rfl rfl (t_mem rfl (m_load (i := 0) rfl rfl ag_23 rfl)) ?_; refine GL.pureG (s := 30) rfl rfl rfl (p_neq rfl rfl) ?_; refine GL.pure rfl (p_pick_false rfl rfl) ?_
   refine GL.nl_ ?_; refine GC.cond rfl (fun h3 => ?_) (fun h3 => ?_)
   ·try simp only [tst_] at h3
    exfalso; exact h3 trivial
   ·try simp only [tst_] at h3
    refine GC.skip (?_ : GC _ _ _ _)
    refine GC.sr_ ?_; refine GL.pure rfl (p_makeFunc rfl rfl) ?_; refine GL.defer (f := 49) (us := [_, _]) hcD rfl ?_; refine GL.nl_ ?_; refine GC.sr_ ?_; refine GL.pure rfl (p_fieldAddr fo_55_2 rfl) ?_; refine GL.step rfl (t_mem rfl (m_load (i := 0) rfl rfl ag_25 rfl)) ?_
    refine GL.pure rfl (p_build ze_94 of_94 rfl rfl) ?_; refine GL.pure rfl (p_build ze_96 of_96 rfl rfl) ?_; refine GL.step rfl (t_box rfl rfl rfl) (GL.ex fun b_t41 => ?_); refine GL.as_ rfl rfl ?_; refine GL.nl_ ?_; refine GC.sr_ ?_
    refine GL.mv_ rfl rfl ?_; refine GL.callP rfl fn_50 rfl (is := [0]) (js := [0]) rfl rfl (by exact wmsg_ct _ _ _ B _ l13 c13 (by omega)) (fun v a w he h => by obtain ⟨rfl, hno⟩ := he; exact FinD.catch fn_49 (recW_ct _ _) (isC := [2, 1]) (jsC := []) rfl rfl (fun u G2 Q2 a w hR h => by obtain ⟨rfl, rfl, rfl⟩ := hR; exact Fin.back (rs := [.cell 2 42, .cell 3 45]) (vs := [_, _]) (is := []) (js := [4, 4, 4, 3, 2, 1, 3, 0]) rfl ⟨⟨0, _, _, _, _, rfl, rfl, .inr ⟨[_, _, _, _, _, _, _, _, _, _, _, _, _, _, _, _, _, _, _, _, _, _, _, _, _, _, _, _], rfl, ag_42, sz_42, ⟨rfl, rfl, rfl, rfl, rfl, rfl, rfl, rfl, rfl, rfl, rfl, rfl, rfl, rfl, rfl, rfl, rfl, rfl, rfl, rfl, rfl, rfl, rfl, rfl, rfl, rfl, rfl, rfl, trivial⟩⟩⟩, ⟨1, _, _, _, _, rfl, rfl, .inl ⟨ag_45, rfl⟩⟩, trivial⟩ rfl rfl (by exact ⟨zms, ⟨none, 0, none, 0, none, 0, none, 0, none, 0, none, 0, none, 0, none, 0⟩, 160, ⟨fun h => absurd h (by decide), fun _ => ⟨by rw [wdecF, hno]; rfl, rfl⟩⟩, rfl, rfl, rfl⟩) (((((h.know (q := Pers.row Kd.u8 none []) (fun _ _ _ => .inl rfl)).know (q := Pers.row kI none []) (fun _ _ _ => .inl rfl)).know (q := Pers.row kPage none []) (fun _ _ _ => .inl rfl)).know (q := Pers.row kRow none []) (fun _ _ _ => .inl rfl)).know (q := Pers.row kEntry none []) (fun _ _ _ => .inl rfl))) h) (GL.ret ?_)
    rintro _ _ _ ⟨m43, s43, L43, A43, c43, hs43, l43, k43, rfl, rfl, rfl⟩
    have hM := wmsgF_all hs43
    refine GL.step rfl (t_alloc rfl ze_42) (GL.ex fun b_t8 => ?_); refine GL.step rfl (t_storeN (i := 0) rfl rfl rfl sz_42 rfl rfl rfl) ?_; refine GL.nl_ ?_; refine GC.seq' ?_; refine GC.sr_ ?_; refine GL.mv_ rfl rfl ?_; refine GL.pure rfl (p_nilCheck rfl) ?_
    refine GL.pure rfl (p_fieldAddr fo_96_0 rfl) ?_; refine GL.pure rfl (p_fieldAddr fo_94_0 rfl) ?_; refine GL.step rfl (t_mem rfl (m_load (i := 1) rfl rfl ag_25 rfl)) ?_; refine GL.pure rfl (p_len Tryz.underlying25 rfl) ?_
    refine GL.pure rfl (p_gtr rfl rfl) ?_; refine GL.mv_ rfl rfl ?_; refine GL.split (i := 51) rfl (fun h4 => ?_) (fun h4 => ?_)
    ·try simp only [tst_] at h4
     iterate 3 refine GL.pass (s := 51) rfl rfl rfl ?_
     refine GL.pure rfl (p_pick_true rfl rfl) ?_; refine GL.nl_ ?_; refine GC.cond_true rfl ?_; refine GC.sr_ ?_; refine GL.pure rfl (p_build ze_42 of_42 rfl rfl) ?_; refine GL.step rfl (t_storeN (i := 4) rfl rfl rfl sz_42 rfl rfl rfl) ?_
     refine GL.step rfl (t_store (i := 3) rfl rfl rfl rfl sz_45 rfl rfl rfl) ?_; refine GL.nl_ ?_; refine GC.ret ?_
     refine fun a w h => FinD.back1 fn_49 (decode_idle _ _) (rs := [.cell 2 42, .cell 3 45]) (vs := [_, _]) (is := []) (js := [14, 14, 14, 13, 12, 11, 13, 10]) rfl ⟨⟨4, _, _, _, _, rfl, rfl, .inr ⟨[_, _, _, _, _, _, _, _, _, _, _, _, _, _, _, _, _, _, _, _, _, _, _, _, _, _, _, _], rfl, ag_42, sz_42, ⟨rfl, rfl, rfl, rfl, rfl, rfl, rfl, rfl, rfl, rfl, rfl, rfl, rfl, rfl, rfl, rfl, rfl, rfl, rfl, rfl, rfl, rfl, rfl, rfl, rfl, rfl, rfl, rfl, trivial⟩⟩⟩, ⟨3, _, _, _, _, rfl, rfl, .inl ⟨ag_45, rfl⟩⟩, trivial⟩ rfl rfl ?_ h
     clear h
     exact ⟨zms, ⟨none, 0, none, 0, none, 0, none, 0, none, 0, none, 0, none, 0, none, 0⟩, 160, ⟨fun h => absurd h (by decide), fun _ => ⟨by rw [wdecF, hs43, Option.bind_some]; exact if_neg (fun hh => by have h0 := congrArg List.length hh.1; simp only [List.length_nil] at h0; first | omega | exact absurd (msgE_yes hh.2.1) (by assumption)), rfl⟩⟩, rfl, rfl, rfl⟩
    ·try simp only [tst_] at h4
     refine GL.stepG rfl (s := 51) rfl rfl (t_mem rfl (m_loadN (i := 0) rfl rfl ag_42 (vs := [_, _, _, _, _, _, _, _, _, _, _, _, _, _, _, _, _, _, _, _, _, _, _, _, _, _, _, _]) sz_42 ⟨rfl, rfl, rfl, rfl, rfl, rfl, rfl, rfl, rfl, rfl, rfl, rfl, rfl, rfl, rfl, rfl, rfl, rfl, rfl, rfl, rfl, rfl, rfl, rfl, rfl, rfl, rfl, rfl, trivial⟩)) ?_
     refine GL.stepG rfl (s := 51) rfl rfl (t_call rfl fn_12 rfl (is := []) (js := [0, 1, 2, 3, 4, 5, 6, 7]) rfl rfl (by exact wchk_ct m43 s43 hM.len)) (GL.ret ?_)
     rintro _ _ _ ⟨rfl, rfl, rfl⟩
     refine GL.pureG (s := 51) rfl rfl rfl (p_neq rfl rfl) ?_; refine GL.pure rfl (p_pick_false rfl rfl) ?_; refine GL.nl_ ?_; refine GC.cond rfl (fun h5 => ?_) (fun h5 => ?_)
     ·try simp only [tst_] at h5
      refine GC.sr_ ?_; refine GL.pure rfl (p_build ze_42 of_42 rfl rfl) ?_; refine GL.step rfl (t_storeN (i := 4) rfl rfl rfl sz_42 rfl rfl rfl) ?_; refine GL.step rfl (t_store (i := 3) rfl rfl rfl rfl sz_45 rfl rfl rfl) ?_
      refine GL.nl_ ?_; refine GC.ret ?_
      refine fun a w h => FinD.back1 fn_49 (decode_idle _ _) (rs := [.cell 2 42, .cell 3 45]) (vs := [_, _]) (is := []) (js := [14, 14, 14, 13, 12, 11, 13, 10]) rfl ⟨⟨4, _, _, _, _, rfl, rfl, .inr ⟨[_, _, _, _, _, _, _, _, _, _, _, _, _, _, _, _, _, _, _, _, _, _, _, _, _, _, _, _], rfl, ag_42, sz_42, ⟨rfl, rfl, rfl, rfl, rfl, rfl, rfl, rfl, rfl, rfl, rfl, rfl, rfl, rfl, rfl, rfl, rfl, rfl, rfl, rfl, rfl, rfl, rfl, rfl, rfl, rfl, rfl, rfl, trivial⟩⟩⟩, ⟨3, _, _, _, _, rfl, rfl, .inl ⟨ag_45, rfl⟩⟩, trivial⟩ rfl rfl ?_ h
      clear h
      exact ⟨zms, ⟨none, 0, none, 0, none, 0, none, 0, none, 0, none, 0, none, 0, none, 0⟩, 160, ⟨fun h => absurd h (by decide), fun _ => ⟨by rw [wdecF, hs43, Option.bind_some]; exact if_neg (fun hh => by have h0 := congrArg List.length hh.1; simp only [List.length_nil] at h0; first | omega | exact absurd (msgE_yes hh.2.1) (by assumption)), rfl⟩⟩, rfl, rfl, rfl⟩
     ·try simp only [tst_] at h5
      refine GC.skip (?_ : GC _ _ _ _)
      iterate 2 refine GC.seq' ?_
      have hok : msgOk m43 := by rw [← msgE_iff]; assumption
      by_cases hlen : (bodyB m43).length ≤ 16777216
      ·skip
       refine GC.region ?_; refine GL.step rfl (t_mem rfl (m_loadN (i := 0) rfl rfl ag_42 (vs := [_, _, _, _, _, _, _, _, _, _, _, _, _, _, _, _, _, _, _, _, _, _, _, _, _, _, _, _]) sz_42 ⟨rfl, rfl, rfl, rfl, rfl, rfl, rfl, rfl, rfl, rfl, rfl, rfl, rfl, rfl, rfl, rfl, rfl, rfl, rfl, rfl, rfl, rfl, rfl, rfl, rfl, rfl, rfl, rfl, trivial⟩)) ?_
       refine GL.step rfl (t_call rfl fn_45 rfl (is := []) (js := [0, 1, 2, 3, 4, 5, 6, 7]) rfl rfl (by exact wbodyo_ok m43 s43 hM.len hok hM.nonce (hlog _ _ hs43) hlen)) (GL.ret ?_)
       rintro _ _ _ ⟨A59, cp59, l59, k59, rfl, rfl, rfl⟩
       refine GL.mv_ rfl rfl ?_
       iterate 2 refine GL.pure rfl (p_extract rfl rfl) ?_
       iterate 2 refine GL.as_ rfl rfl ?_
       refine GL.nil (?_ : GC _ _ _ _)
       refine GC.sr_ ?_; refine GL.mv_ rfl rfl ?_; refine GL.pure rfl (p_not rfl) ?_; refine GL.mv_ rfl rfl ?_; refine GL.pureG (s := 64) rfl rfl rfl (p_move rfl) ?_; refine GL.pureG (s := 64) rfl rfl rfl (p_fieldAddr fo_55_2 rfl) ?_
       refine GL.stepG rfl (s := 64) rfl rfl (t_mem rfl (m_load (i := 3) rfl rfl ag_25 rfl)) ?_; refine GL.freezeB (i := 0) rfl ?_; refine GL.stepG rfl (s := 64) rfl rfl (t_call rfl fn_35 rfl (is := []) (js := [0, 10]) rfl rfl (by exact equal_ct _ (bodyB m43) _ _ B _)) (GL.ret ?_)
       rintro _ _ _ ⟨rfl, rfl, rfl⟩
       refine GL.pureG (s := 64) rfl rfl rfl (p_not rfl) ?_; refine GL.pure rfl (p_pick_false rfl rfl) ?_; refine GL.nl_ ?_; refine GC.cond rfl (fun h6 => ?_) (fun h6 => ?_)
       ·try simp only [tst_] at h6
        refine GC.sr_ ?_; refine GL.pure rfl (p_build ze_42 of_42 rfl rfl) ?_; refine GL.step rfl (t_storeN (i := 4) rfl rfl rfl sz_42 rfl rfl rfl) ?_; refine GL.step rfl (t_store (i := 3) rfl rfl rfl rfl sz_45 rfl rfl rfl) ?_
        refine GL.nl_ ?_; refine GC.ret ?_
        refine fun a w h => FinD.back1 fn_49 (decode_idle _ _) (rs := [.cell 2 42, .cell 3 45]) (vs := [_, _]) (is := []) (js := [15, 15, 15, 14, 13, 12, 14, 11]) rfl ⟨⟨4, _, _, _, _, rfl, rfl, .inr ⟨[_, _, _, _, _, _, _, _, _, _, _, _, _, _, _, _, _, _, _, _, _, _, _, _, _, _, _, _], rfl, ag_42, sz_42, ⟨rfl, rfl, rfl, rfl, rfl, rfl, rfl, rfl, rfl, rfl, rfl, rfl, rfl, rfl, rfl, rfl, rfl, rfl, rfl, rfl, rfl, rfl, rfl, rfl, rfl, rfl, rfl, rfl, trivial⟩⟩⟩, ⟨3, _, _, _, _, rfl, rfl, .inl ⟨ag_45, rfl⟩⟩, trivial⟩ rfl rfl ?_ h
        clear h
        exact ⟨zms, ⟨none, 0, none, 0, none, 0, none, 0, none, 0, none, 0, none, 0, none, 0⟩, 160, ⟨fun h => absurd h (by decide), fun _ => ⟨by rw [wdecF, hs43, Option.bind_some]; exact if_neg (fun hh => by first | exact absurd hh.2.2 (by assumption) | exact hlen (by rw [hh.2.2]; exact hB)), rfl⟩⟩, rfl, rfl, rfl⟩
       ·try simp only [tst_] at h6
        refine GC.skip (?_ : GC _ _ _ _)
        refine GC.sr_ ?_; refine GL.step rfl (t_mem rfl (m_loadN (i := 0) rfl rfl ag_42 (vs := [_, _, _, _, _, _, _, _, _, _, _, _, _, _, _, _, _, _, _, _, _, _, _, _, _, _, _, _]) sz_42 ⟨rfl, rfl, rfl, rfl, rfl, rfl, rfl, rfl, rfl, rfl, rfl, rfl, rfl, rfl, rfl, rfl, rfl, rfl, rfl, rfl, rfl, rfl, rfl, rfl, rfl, rfl, rfl, rfl, trivial⟩)) ?_
        refine GL.step rfl (t_storeN (i := 4) rfl rfl rfl sz_42 rfl rfl rfl) ?_; refine GL.step rfl (t_store (i := 3) rfl rfl rfl rfl sz_45 rfl rfl rfl) ?_; refine GL.nl_ ?_; refine GC.ret ?_
        refine fun a w h => FinD.back1 fn_49 (decode_idle _ _) (rs := [.cell 2 42, .cell 3 45]) (vs := [_, _]) (is := []) (js := [1, 2, 3, 4, 5, 6, 7, 8]) rfl ⟨⟨4, _, _, _, _, rfl, rfl, .inr ⟨[_, _, _, _, _, _, _, _, _, _, _, _, _, _, _, _, _, _, _, _, _, _, _, _, _, _, _, _], rfl, ag_42, sz_42, ⟨rfl, rfl, rfl, rfl, rfl, rfl, rfl, rfl, rfl, rfl, rfl, rfl, rfl, rfl, rfl, rfl, rfl, rfl, rfl, rfl, rfl, rfl, rfl, rfl, rfl, rfl, rfl, rfl, trivial⟩⟩⟩, ⟨3, _, _, _, _, rfl, rfl, .inl ⟨ag_45, rfl⟩⟩, trivial⟩ rfl rfl ?_ h
        clear h
        exact ⟨m43, s43, 0, ⟨fun _ => by rw [wdecF, hs43, Option.bind_some]; exact if_pos ⟨List.eq_nil_of_length_eq_zero (by show L43.length = 0; omega), hok, by assumption⟩, fun h => absurd rfl h⟩, rfl, rfl, rfl⟩
      ·skip
       refine GC.region ?_; refine GL.step rfl (t_mem rfl (m_loadN (i := 0) rfl rfl ag_42 (vs := [_, _, _, _, _, _, _, _, _, _, _, _, _, _, _, _, _, _, _, _, _, _, _, _, _, _, _, _]) sz_42 ⟨rfl, rfl, rfl, rfl, rfl, rfl, rfl, rfl, rfl, rfl, rfl, rfl, rfl, rfl, rfl, rfl, rfl, rfl, rfl, rfl, rfl, rfl, rfl, rfl, rfl, rfl, rfl, rfl, trivial⟩)) ?_
       refine GL.step rfl (t_call rfl fn_45 rfl (is := []) (js := [0, 1, 2, 3, 4, 5, 6, 7]) rfl rfl (by exact wbodyo_long m43 s43 hM.len hok hM.nonce (hlog _ _ hs43) hlen)) (GL.ret ?_)
       rintro _ _ _ ⟨⟨A59, n59, cp59, rfl⟩, rfl, rfl⟩
       refine GL.mv_ rfl rfl ?_
       iterate 2 refine GL.pure rfl (p_extract rfl rfl) ?_
       iterate 2 refine GL.as_ rfl rfl ?_
       refine GL.nil (?_ : GC _ _ _ _)
       refine GC.sr_ ?_; refine GL.mv_ rfl rfl ?_; refine GL.pure rfl (p_not rfl) ?_; refine GL.mv_ rfl rfl ?_
       iterate 3 refine GL.pass (s := 64) rfl rfl rfl ?_
       skip
       iterate 2 refine GL.pass (s := 64) rfl rfl rfl ?_
       refine GL.pure rfl (p_pick_true rfl rfl) ?_; refine GL.nl_ ?_; refine GC.cond_true rfl ?_; refine GC.sr_ ?_; refine GL.pure rfl (p_build ze_42 of_42 rfl rfl) ?_; refine GL.step rfl (t_storeN (i := 4) rfl rfl rfl sz_42 rfl rfl rfl) ?_
       refine GL.step rfl (t_store (i := 3) rfl rfl rfl rfl sz_45 rfl rfl rfl) ?_; refine GL.nl_ ?_; refine GC.ret ?_
       refine fun a w h => FinD.back1 fn_49 (decode_idle _ _) (rs := [.cell 2 42, .cell 3 45]) (vs := [_, _]) (is := []) (js := [14, 14, 14, 13, 12, 11, 13, 10]) rfl ⟨⟨4, _, _, _, _, rfl, rfl, .inr ⟨[_, _, _, _, _, _, _, _, _, _, _, _, _, _, _, _, _, _, _, _, _, _, _, _, _, _, _, _], rfl, ag_42, sz_42, ⟨rfl, rfl, rfl, rfl, rfl, rfl, rfl, rfl, rfl, rfl, rfl, rfl, rfl, rfl, rfl, rfl, rfl, rfl, rfl, rfl, rfl, rfl, rfl, rfl, rfl, rfl, rfl, rfl, trivial⟩⟩⟩, ⟨3, _, _, _, _, rfl, rfl, .inl ⟨ag_45, rfl⟩⟩, trivial⟩ rfl rfl ?_ h
       clear h
       exact ⟨zms, ⟨none, 0, none, 0, none, 0, none, 0, none, 0, none, 0, none, 0, none, 0⟩, 160, ⟨fun h => absurd h (by decide), fun _ => ⟨by rw [wdecF, hs43, Option.bind_some]; exact if_neg (fun hh => by first | exact absurd hh.2.2 (by assumption) | exact hlen (by rw [hh.2.2]; exact hB)), rfl⟩⟩, rfl, rfl, rfl⟩
end Go.Proofs.YtdhdmbmknpjhbaaGreat
namespace Go.Proofs.YtdhdmbmknpjhbaaGreat
open Go Go.Sx Go.Proofs
theorem wnum_app {n v : Nat} {L : List UInt8} (h : v < 256 ^ n) : wnumF n (leN n v ++ L) = some ((v : Int), L) := by
  have hl := leN_length n v
  have e1 : seg (leN n v ++ L) 0 n = leN n v := by rw [seg, List.drop_zero, List.take_append_of_le_length (by omega)]; exact List.take_of_length_le (by omega)
  have e2 : (leN n v ++ L).drop n = L := List.drop_left' hl
  rw [wnumF, if_pos (by rw [List.length_append]; omega), e1, e2, valN_leN _ _ h]
theorem wsm_app {v : Int} {L : List UInt8} (h : in62 v) : wsmF (leN 8 (u64 v) ++ L) = some (v, L) := by
  obtain ⟨h0, h1⟩ := h
  have e : u64 v = v.toNat := by unfold u64; omega
  have h8 : v.toNat < 256 ^ 8 := by rw [p256_8]; omega
  rw [wsmF, e, wnum_app h8, Option.bind_some]
  have : ((v.toNat : Nat) : Int) = v := by omega
  dsimp only
  rw [this, if_pos h1]
theorem wrap_u64 {v : Int} (h : -9223372036854775808 ≤ v) (h' : v ≤ 9223372036854775807) : IntKind.i64.wrap ((u64 v : Nat) : Int) = v := by
  unfold u64
  simp [IntKind.wrap, IntKind.bits, IntKind.signed]
  omega
theorem bit1 (m : Msg) : bitN (partsN m) 1 = 0 ↔ m.op = zop := by rw [bitN, partsN, and_b1, bi1]; simp
theorem bit2 (m : Msg) : bitN (partsN m) 2 = 0 ↔ m.res = rz := by rw [bitN, partsN, and_b2, bi2]; simp
theorem bit4 (m : Msg) : bitN (partsN m) 4 = 0 ↔ m.grp = zgr := by rw [bitN, partsN, and_b4, bi4]; simp
theorem bit8 (m : Msg) : bitN (partsN m) 8 = 0 ↔ m.stt = zst := by rw [bitN, partsN, and_b8, bi8]; simp
theorem wpO_app {m : Msg} {L : List UInt8} (hr : MsgR m) : wpO (partsN m) (pO m ++ L) = some (m.op, L) := by
  unfold wpO pO
  by_cases h : m.op = zop
  · rw [if_pos ((bit1 m).2 h), if_pos h, h]; rfl
  · rw [if_neg (fun g => h ((bit1 m).1 g)), if_neg h]
    obtain ⟨u, e, g⟩ := decOp_at (b := opB m.op ++ L) rfl (hr.op h)
    rw [e, Option.map_some, g.2]
theorem wpR_app {m : Msg} {L : List UInt8} (hr : MsgR m) : wpR (partsN m) (pR m ++ L) = some (m.res, L) := by
  unfold wpR pR
  by_cases h : m.res = rz
  · rw [if_pos ((bit2 m).2 h), if_pos h, h]; rfl
  · rw [if_neg (fun g => h ((bit2 m).1 g)), if_neg h]
    obtain ⟨u, e, g⟩ := decRes_at (b := resB m.res ++ L) rfl (hr.res h)
    rw [e, Option.map_some, g.2]
theorem wgrp_app {g : Grp} {L : List UInt8} (hg : groupOk g.epoch g.members = true) : wgrpF (grpB g ++ L) = some (g, L) := by
  obtain ⟨r1, r2, r3, r4, r5⟩ := grp_rng hg
  have e8 : u64 g.epoch = g.epoch.toNat := by unfold u64; omega
  rw [grpB, flZ_single, flZ_single, ← e8, List.append_assoc, List.append_assoc, wgrpF, wsm_app ⟨r4, r5⟩, Option.bind_some, wnum_app (by rw [p256_1]; omega), Option.bind_some]
  obtain ⟨u, e1, e2⟩ := manyF_enc (f := wnumF 1) (enc := fun x : Int => leN 1 x.toNat) (fun t M => t = M) L (xs := g.members) (t := flZ 1 g.members ++ L) (fun x hx t M h => by
    have := r1 x hx
    refine ⟨M, ?_, rfl⟩
    rw [h, wnum_app (by rw [p256_1]; omega)]
    have : ((x.toNat : Nat) : Int) = x := by omega
    rw [this]) rfl
  subst e2
  rw [show ((((g.members.length : Int)).toNat : Nat) : Int).toNat = g.members.length by omega, e1]
  rfl
theorem wpG_app {m : Msg} {L : List UInt8} (hr : MsgR m) : wpG (partsN m) (pG m ++ L) = some (m.grp, L) := by
  unfold wpG pG
  by_cases h : m.grp = zgr
  · rw [if_pos ((bit4 m).2 h), if_pos h, h]; rfl
  · rw [if_neg (fun g => h ((bit4 m).1 g)), if_neg h, wgrp_app (hr.grp h)]
theorem wpS_app {m : Msg} {L : List UInt8} (hr : MsgR m) (hl : (pS m ++ L).length ≤ 33554432) : wpS (partsN m) (pS m ++ L) = some (m.stt, L) := by
  unfold wpS
  by_cases h : m.stt = zst
  · rw [if_pos ((bit8 m).2 h), pS, if_pos h, h]; rfl
  · rw [if_neg (fun g => h ((bit8 m).1 g))]
    rw [pS, if_neg h] at hl ⊢
    obtain ⟨u, e, g⟩ := mstF_at (At.zero (sttB m.stt ++ L)) (hr.stt h) hl
    rw [e, Option.map_some, g.2]
theorem went_app {e : Entry} {L : List UInt8} (he : entOk e) : went (entB e ++ L) = some (e, L) := by
  obtain ⟨u, h, g⟩ := mentF_at (At.zero (entB e ++ L)) he
  rw [went, h, Option.map_some, g.2]
theorem wmsg_back {m : Msg} (hok : msgOk m) (hn : 0 ≤ m.nonce ∧ m.nonce < 18446744073709551616) (hlog : m.log.length < 100000) (hB : (bodyB m).length ≤ 16777216) : wmsgF (bodyB m) = some (m, []) := by
  have hr := msg_rng hok
  have hpn := partsN_rng m
  obtain ⟨⟨n1, n2, n3, n4, n5, n6, n7⟩, k1, k2, w1, w2, _, _⟩ := hok
  have p8 : (256 : Nat) ^ 8 = 18446744073709551616 := p256_8
  have p4 : (256 : Nat) ^ 4 = 4294967296 := p256_4
  have p1 : (256 : Nat) ^ 1 = 256 := p256_1
  have hl : (pS m ++ (leN 4 m.log.length ++ m.log.flatMap entB)).length ≤ 33554432 := by
    simp only [bodyB, preB, List.length_append] at hB
    simp only [List.length_append]; omega
  have hs : -4611686018427387904 ≤ m.src ∧ m.src < 64 := w1
  have hd : -4611686018427387904 ≤ m.dst ∧ m.dst < 64 := w2
  obtain ⟨u, e1, e2⟩ := manyF_enc (f := went) (enc := entB) (fun t M => t = M) [] (xs := m.log) (t := m.log.flatMap entB ++ []) (fun x hx t M h => ⟨M, by rw [h, went_app (hr.log x hx)], rfl⟩) rfl
  subst e2
  rw [List.append_nil] at e1
  rw [bodyB, preB, hdB, byI_le (by omega) (by omega), byI_le hpn.1 hpn.2]
  simp only [flI, List.flatMap_cons, List.flatMap_nil, List.append_assoc, List.append_nil, List.nil_append]
  rw [wmsgF, wnum_app (by omega), Option.bind_some, wnum_app (by rw [p8]; exact u64_lt _), Option.bind_some, wnum_app (by rw [p8]; exact u64_lt _), Option.bind_some, wsm_app n1, Option.bind_some, wsm_app n2, Option.bind_some, wsm_app n3, Option.bind_some, wsm_app n4, Option.bind_some, wsm_app n5, Option.bind_some, wnum_app (by rw [p8]; exact u64_lt _), Option.bind_some, wsm_app n6, Option.bind_some, wsm_app n7, Option.bind_some]
  rw [wprtF, wnum_app (by omega), Option.bind_some]
  dsimp only
  rw [show ((m.kind.toNat : Nat) : Int) = m.kind by omega, show (((partsN m).toNat : Nat) : Int) = partsN m by omega, wpO_app hr, Option.bind_some, wpR_app hr, Option.bind_some, wpG_app hr, Option.bind_some, wpS_app hr hl, Option.map_some, Option.bind_some]
  dsimp only
  rw [wnum_app (by omega), Option.bind_some]
  dsimp only
  rw [show ((m.log.length : Nat) : Int).toNat = m.log.length from rfl, e1, Option.map_some, wrap_u64 (by omega) (by omega), wrap_u64 (by omega) (by omega), ← u64_eq hn.1 hn.2]
theorem wdec_back {m : Msg} (hok : msgOk m) (hn : 0 ≤ m.nonce ∧ m.nonce < 18446744073709551616) (hlog : m.log.length < 100000) (hB : (bodyB m).length ≤ 16777216) : wdecF (bodyB m) = some m := by
  rw [wdecF, wmsg_back hok hn hlog hB, Option.bind_some]
  exact if_pos ⟨rfl, hok, rfl⟩
end Go.Proofs.YtdhdmbmknpjhbaaGreat
namespace Go.Proofs.YtdhdmbmknpjhbaaGreat
open Go Go.Sx Go.Proofs
theorem awM_ok : msgOk awM := by rw [← msgE_iff]; decide +kernel
theorem awM_body : bodyB awM = awB := by decide +kernel
theorem awM_enc : Ct Tryz.prog 16 [awV] [] [] (EncO 0 awF) := by
  have h := wenco_ct awM lie0 awM_len ⟨by decide, by decide⟩ (by decide)
  rw [show encFo awM = (0, awF) from by rw [encFo, if_pos awM_ok, awM_body, if_pos (by rw [awB_len]; omega)]; rfl] at h
  exact Ct.qperm h (fun q hq => .inr (nilq hq))
theorem awM_dec : wdecF awB = some awM := by
  rw [← awM_body]; exact wdec_back awM_ok ⟨by decide, by decide⟩ (by decide) (by rw [awM_body, awB_len]; omega)
theorem awM_log (m : Msg) (M : List UInt8) (h : wmsgF awB = some (m, M)) : m.log.length < 100000 := by
  have := (wmsgF_all h).log; rw [awB_len] at this; omega
theorem awM_two {m : Msg} {k : Int} (h : (k = 0 → wdecF awB = some m) ∧ (k ≠ 0 → wdecF awB = none ∧ m = zms)) : k = 0 ∧ m = awM := by
  by_cases hk : k = 0
  · have := h.1 hk
    rw [awM_dec] at this
    exact ⟨hk, (Option.some.inj this).symm⟩
  · have := (h.2 hk).1
    rw [awM_dec] at this; cases this
theorem awM_same (s : Lie) : Ct Tryz.prog 14 [awV, msgV awM s] [] (msgQ awM s) (fun u G Q => u = .bool true ∧ G = [] ∧ Q = []) :=
  Ct.qperm (Ct.mono (wsame_ct awM awM lie0 s awM_len) fun u G Q h => ⟨h.1.trans (by simp), h.2⟩) fun q hq => by
    rcases List.mem_append.1 hq with hq | hq
    · exact .inr (nilq hq)
    · exact .inl hq
theorem awk_ct : Ct Tryz.prog 11 [] [] [] (fun u G Q => u = .bool true ∧ G = [] ∧ Q = []) := by
 refine Ct.intro Tryz.func11 rfl rfl rfl (fun c hc => ?_)
 refine GC.sr_ ?_; refine GL.as_ rfl rfl ?_; refine GL.nl_ ?_; refine GC.sr_ ?_; refine GL.pure rfl (p_build ze_42 of_42 rfl rfl) ?_; refine GL.step rfl (t_alloc rfl ze_42) (GL.ex fun b_t1 => ?_); refine GL.step rfl (t_storeN (i := 0) rfl rfl rfl sz_42 rfl rfl rfl) ?_
 refine GL.nl_ ?_; refine GC.sr_ ?_; refine GL.step rfl (t_mem rfl (m_loadN (i := 0) rfl rfl ag_42 (vs := [_, _, _, _, _, _, _, _, _, _, _, _, _, _, _, _, _, _, _, _, _, _, _, _, _, _, _, _]) sz_42 ⟨rfl, rfl, rfl, rfl, rfl, rfl, rfl, rfl, rfl, rfl, rfl, rfl, rfl, rfl, rfl, rfl, rfl, rfl, rfl, rfl, rfl, rfl, rfl, rfl, rfl, rfl, rfl, rfl, trivial⟩)) ?_
 refine GL.step rfl (t_call rfl fn_16 rfl (is := []) (js := []) rfl rfl (by exact awM_enc)) (GL.ret ?_)
 rintro _ _ _ ⟨A9, cp9, l9, k9, rfl, rfl, rfl⟩
 refine GL.mv_ rfl rfl ?_
 iterate 2 refine GL.pure rfl (p_extract rfl rfl) ?_
 iterate 2 refine GL.as_ rfl rfl ?_
 refine GL.nl_ ?_; refine GC.sr_ ?_; refine GL.mv_ rfl rfl ?_; refine GL.freezeB (i := 0) rfl ?_; refine GL.step rfl (t_call rfl fn_18 rfl (is := []) (js := [0]) rfl rfl (by exact wdec_ct _ awB awF _ rfl (by rw [awB_len]; omega) awM_log l9 k9)) (GL.ret ?_)
 rintro _ _ _ ⟨m14, s14, k14, hd14, rfl, rfl, rfl⟩
 obtain ⟨rfl, rfl⟩ := awM_two hd14
 refine GL.mv_ rfl rfl ?_
 iterate 2 refine GL.pure rfl (p_extract rfl rfl) ?_
 refine GL.step rfl (t_alloc rfl ze_42) (GL.ex fun b_t4 => ?_); refine GL.step rfl (t_storeN (i := 0) rfl rfl rfl sz_42 rfl rfl rfl) ?_; refine GL.as_ rfl rfl ?_; refine GL.nl_ ?_; refine GC.sr_ ?_; refine GL.mv_ rfl rfl ?_
 refine GL.pure rfl (p_eql rfl rfl) ?_; refine GL.mv_ rfl rfl ?_; refine GL.pureG (s := 19) rfl rfl rfl (p_move rfl) ?_; refine GL.pureG (s := 19) rfl rfl rfl (p_eql rfl rfl) ?_; refine GL.pure rfl (p_pick_true rfl rfl) ?_
 refine GL.mv_ rfl rfl ?_; refine GL.pureG (s := 23) rfl rfl rfl (p_move rfl) ?_; refine GL.pureG (s := 23) rfl rfl rfl (p_len Tryz.underlying25 rfl) ?_; refine GL.pureG (s := 23) rfl rfl rfl (p_eql rfl rfl) ?_; refine GL.pure rfl (p_pick_true rfl rfl) ?_
 refine GL.mv_ rfl rfl ?_; refine GL.split (i := 28) rfl (fun h1 => ?_) (fun h1 => ?_)
 ·try simp only [tst_] at h1
  first
  | (exfalso; first | exact h1 rfl | exact h1 trivial | exact h1 (by rw [awF_len]; rfl) | exact absurd h1 (by decide))
  |(skip
    refine GL.stepG rfl (s := 28) rfl rfl (t_mem rfl (m_loadN (i := 1) rfl rfl ag_42 (vs := [_, _, _, _, _, _, _, _, _, _, _, _, _, _, _, _, _, _, _, _, _, _, _, _, _, _, _, _]) sz_42 ⟨rfl, rfl, rfl, rfl, rfl, rfl, rfl, rfl, rfl, rfl, rfl, rfl, rfl, rfl, rfl, rfl, rfl, rfl, rfl, rfl, rfl, rfl, rfl, rfl, rfl, rfl, rfl, rfl, trivial⟩)) ?_
    refine GL.stepG rfl (s := 28) rfl rfl (t_mem rfl (m_loadN (i := 0) rfl rfl ag_42 (vs := [_, _, _, _, _, _, _, _, _, _, _, _, _, _, _, _, _, _, _, _, _, _, _, _, _, _, _, _]) sz_42 ⟨rfl, rfl, rfl, rfl, rfl, rfl, rfl, rfl, rfl, rfl, rfl, rfl, rfl, rfl, rfl, rfl, rfl, rfl, rfl, rfl, rfl, rfl, rfl, rfl, rfl, rfl, rfl, rfl, trivial⟩)) ?_
    refine GL.stepG rfl (s := 28) rfl rfl (t_call rfl fn_14 rfl (is := []) (js := [0, 1, 2, 3, 4, 5, 6, 7]) rfl rfl (by exact awM_same s14)) (GL.ret ?_)
    rintro _ _ _ ⟨rfl, rfl, rfl⟩
    refine GL.pure rfl (p_pick_true rfl rfl) ?_; refine GL.mv_ rfl rfl ?_; refine GL.pureG (s := 33) rfl rfl rfl (p_fieldAddr fo_42_2 rfl) ?_; refine GL.stepG rfl (s := 33) rfl rfl (t_mem rfl (m_load (i := 0) rfl rfl ag_3 rfl)) ?_
    refine GL.pureG (s := 33) rfl rfl rfl (p_eql rfl rfl) ?_; refine GL.pure rfl (p_pick_true rfl rfl) ?_; refine GL.as_ rfl rfl ?_; refine GL.nl_ ?_; refine GC.ret ?_
    refine fun a w h => Fin.back (rs := [.tmp 0]) (vs := [_]) (is := []) (js := []) rfl ⟨rfl, trivial⟩ rfl rfl ?_ h
    clear h
    exact ⟨by first | rfl | decide, rfl, rfl⟩)
 ·try simp only [tst_] at h1
  first
  | (exfalso; first | exact h1 rfl | exact h1 trivial | exact h1 (by rw [awF_len]; rfl) | exact absurd h1 (by decide))
  |(skip
    iterate 3 refine GL.pass (s := 28) rfl rfl rfl ?_
    refine GL.pure rfl (p_pick_false rfl rfl) ?_; refine GL.mv_ rfl rfl ?_
    iterate 3 refine GL.pass (s := 33) rfl rfl rfl ?_
    refine GL.pure rfl (p_pick_false rfl rfl) ?_; refine GL.as_ rfl rfl ?_; refine GL.nl_ ?_; refine GC.ret ?_
    refine fun a w h => Fin.back (rs := [.tmp 0]) (vs := [_]) (is := []) (js := []) rfl ⟨rfl, trivial⟩ rfl rfl ?_ h
    clear h
    exact ⟨by first | rfl | decide, rfl, rfl⟩)
end Go.Proofs.YtdhdmbmknpjhbaaGreat
namespace Go.Proofs.YtdhdmbmknpjhbaaGreat
open Go Go.Sx Go.Proofs
theorem quo256 {v : Nat} (h : v < 18446744073709551616) : IntKind.u64.wrap ((v : Int).tdiv 256) = ((v / 256 : Nat) : Int) := by
  have e : (v : Int).tdiv 256 = ((v / 256 : Nat) : Int) := by
    rw [Int.tdiv_eq_ediv_of_nonneg (by omega)]; rfl
  rw [e]; exact wrap64 (by omega)
theorem rem256 (v : Nat) : (v : Int).tmod 256 = ((v % 256 : Nat) : Int) := by
  rw [Int.tmod_eq_emod_of_nonneg (by omega)]; rfl
theorem wrapB2 (m : Nat) : IntKind.u8.wrap ((m % 256 : Nat) : Int) = ((UInt8.ofNat (m % 256)).toNat : Int) := by
  have := wrapB (m % 256)
  rwa [Nat.mod_mod] at this
theorem div_lt64 {v k : Nat} (h : v < 18446744073709551616) : v / 256 ^ k < 18446744073709551616 := Nat.lt_of_le_of_lt (Nat.div_le_self ..) h
theorem div_succ (v k : Nat) : v / 256 ^ k / 256 = v / 256 ^ (k + 1) := by rw [Nat.div_div_eq_div_mul, Nat.pow_succ]
theorem rfits_ok (v n : Nat) (h' : n ≤ 8) (hv : v < 256 ^ n) : Ct Tryz.prog 106 [.int .u64 (v : Int), .int .i64 (n : Int)] [] [] (fun u G Q => u = .bool true ∧ G = [] ∧ Q = []) := by
 have h8 : 256 ^ n ≤ 256 ^ 8 := Nat.pow_le_pow_right (by decide) h'
 have h64 : v < 18446744073709551616 := by omega
 refine Ct.intro Tryz.func106 rfl rfl rfl (fun c hc => ?_)
 refine GC.sr_ ?_; refine GL.as_ rfl rfl ?_; refine GL.nl_ ?_; refine GC.seq' ?_; refine GC.sr_ ?_; refine GL.as_ rfl rfl ?_; refine GL.nl_ ?_; refine GC.block ?_; refine GC.loopK1 (ks := [1]) (is := []) (js := []) (fun (k : Nat) => k ≤ n) (fun (k : Nat) => [(0, .int .u64 ((v / 256 ^ k : Nat) : Int)), (5, .int .i64 (k : Int))]) (fun (k : Nat) => []) (fun (k : Nat) => []) (fun (k : Nat) => n - k) (0) rfl rfl rfl (fun a w h => ⟨by omega, by simp only [Nat.pow_zero, Nat.div_one]; exact h.cutK (is := []) (js := []) (ks := [1]) ⟨rfl, rfl, trivial⟩ rfl rfl rfl⟩) ?_
 intro k hk
 try dsimp only [List.cons_append, List.nil_append] at hk ⊢
 refine GC.seq' ?_; refine GC.sr_ ?_
 iterate 2 refine GL.mv_ rfl rfl ?_
 refine GL.pure rfl (p_lss rfl rfl) ?_; refine GL.nl_ ?_; refine GC.cond rfl (fun h1 => ?_) (fun h1 => ?_)
 ·try simp only [tst_] at h1
  refine GC.skip (?_ : GC _ _ _ _)
  refine GC.seq' ?_; refine GC.block ?_; refine GC.region ?_; refine GL.mv_ rfl rfl ?_; refine GL.pure rfl (p_quo (r := ((v / 256 ^ k / 256 : Nat) : Int)) rfl rfl (by decide) (quo256 (div_lt64 h64))) ?_; refine GL.as_ rfl rfl ?_
  refine GL.nil (?_ : GC _ _ _ _)
  refine GC.region ?_; refine GL.mv_ rfl rfl ?_; refine GL.pure rfl (p_add rfl rfl (w64 (by omega) (by omega))) ?_; refine GL.as_ rfl rfl ?_; refine GL.nil ?_
  exact fun a w h => ⟨(k + 1), (by omega), by omega, by rw [← div_succ]; exact h.cut (is := []) (js := []) ⟨rfl, rfl, rfl, trivial⟩ rfl rfl⟩
 ·try simp only [tst_] at h1
  refine GC.exit (?_ : GC _ _ _ _)
  refine GC.sr_ ?_; refine GL.mv_ rfl rfl ?_; refine GL.pure rfl (p_eql rfl rfl) ?_; refine GL.as_ rfl rfl ?_; refine GL.nl_ ?_; refine GC.ret ?_
  refine fun a w h => Fin.back (rs := [.tmp 4]) (vs := [_]) (is := []) (js := []) rfl ⟨rfl, trivial⟩ rfl rfl ?_ h
  clear h
  obtain rfl : k = n := by omega
  exact ⟨congrArg Value.bool (decide_eq_true (by rw [Nat.div_eq_of_lt hv]; rfl)), rfl, rfl⟩
theorem r1put_ct (A : Option Addr) (b : List UInt8) (cp v n : Nat) (hn : 1 ≤ n) (hn' : n ≤ 8) (hb : b.length ≤ 10000000000000) (hv : v < 256 ^ n) : Ct Tryz.prog 55 [.slice A b.length cp, .int .u64 (v : Int), .int .i64 (n : Int)] [] [Pers.row Kd.u8 A b]
    (fun u G Q => ∃ A' cp', (b ++ leN n v).length ≤ cp' ∧ cp' ≤ 9223372036854775807 ∧ u = .tuple #[.slice A' (b ++ leN n v).length cp', .int .i64 0] ∧ G = [rowOf A' cp' (b ++ leN n v)] ∧ Q = []) := by
 have h8 : 256 ^ n ≤ 256 ^ 8 := Nat.pow_le_pow_right (by decide) hn'
 have h64 : v < 18446744073709551616 := by omega
 refine Ct.intro Tryz.func55 rfl rfl rfl (fun c hc => ?_)
 refine GC.sr_ ?_
 iterate 2 refine GL.as_ rfl rfl ?_
 refine GL.nl_ ?_; refine GC.seq' ?_; refine GC.sr_ ?_; refine GL.mv_ rfl rfl ?_; refine GL.pure rfl (p_lss rfl rfl) ?_; refine GL.mv_ rfl rfl ?_; refine GL.split (i := 12) rfl (fun h1 => ?_) (fun h1 => ?_)
 ·try simp only [tst_] at h1
  first
  | (exfalso; omega)
  |(skip
    iterate 2 refine GL.pass (s := 12) rfl rfl rfl ?_
    refine GL.pure rfl (p_pick_true rfl rfl) ?_; refine GL.nl_ ?_; refine GC.cond_true rfl ?_; refine GC.sr_ ?_
    iterate 2 refine GL.as_ rfl rfl ?_
    refine GL.nl_ ?_; refine GC.ret ?_
    refine fun a w h => Fin.back (rs := [.tmp 6, .tmp 7]) (vs := [_, _]) (is := []) (js := []) rfl ⟨rfl, rfl, trivial⟩ rfl rfl ?_ h
    clear h
    skip)
 ·try simp only [tst_] at h1
  first
  | (exfalso; omega)
  |(skip
    refine GL.pureG (s := 12) rfl rfl rfl (p_move rfl) ?_; refine GL.pureG (s := 12) rfl rfl rfl (p_gtr rfl rfl) ?_; refine GL.pure rfl (p_pick_false rfl rfl) ?_; refine GL.nl_ ?_; refine GC.cond rfl (fun h2 => ?_) (fun h2 => ?_)
    ·try simp only [tst_] at h2
     first
     | (exfalso; omega)
     |(skip
       refine GC.sr_ ?_
       iterate 2 refine GL.as_ rfl rfl ?_
       refine GL.nl_ ?_; refine GC.ret ?_
       refine fun a w h => Fin.back (rs := [.tmp 6, .tmp 7]) (vs := [_, _]) (is := []) (js := []) rfl ⟨rfl, rfl, trivial⟩ rfl rfl ?_ h
       clear h
       skip)
    ·try simp only [tst_] at h2
     first
     | (exfalso; omega)
     |(skip
       refine GC.skip (?_ : GC _ _ _ _)
       refine GC.seq' ?_; refine GC.sr_ ?_
       iterate 2 refine GL.mv_ rfl rfl ?_
       refine GL.step rfl (t_call rfl fn_106 rfl (is := []) (js := []) rfl rfl (by exact rfits_ok v n hn' hv)) (GL.ret ?_)
       rintro _ _ _ ⟨rfl, rfl, rfl⟩
       refine GL.pure rfl (p_not rfl) ?_; refine GL.nl_ ?_; refine GC.cond_false rfl ?_
       refine GC.skip (?_ : GC _ _ _ _)
       refine GC.sr_ ?_; refine GL.step rfl (t_buildSlice rfl Tryz.underlying25 sz_5 ze_5 rfl rfl rfl rfl rfl rfl) (GL.ex fun b_t20 => ?_); refine GL.mv_ rfl rfl ?_; refine GL.torow (i := 0) (m := 0) (sz := 1) rfl rfl (by decide) rfl ?_
       refine GL.step rfl (t_appendS (i := 0) (k := 0) rfl el_25 rfl rfl rfl rfl (by simp; omega) (fun _ => rfl)) (GL.ex fun v22 => ?_); refine GL.rowIs (i := 0) (m' := (b).length) (cs' := (b).map u8v) rfl (by first | (simp only [List.length_append, List.length_cons, List.length_nil, List.append_assoc]; done) | (simp only [List.length_append, List.length_cons, List.length_nil, List.append_assoc]; omega) | (simp [leN_length]; done) | (simp [leN_length]; omega) | rfl) (by first | (simp only [List.map_append, List.map_cons, List.map_nil, List.append_assoc]; done) | (simp [leN_length]; done) | rfl) rfl ?_
       refine GL.as_ rfl rfl ?_; refine GL.nl_ ?_; refine GC.seq' ?_; refine GC.sr_ ?_; refine GL.as_ rfl rfl ?_; refine GL.nl_ ?_; refine GC.block ?_; refine GC.loopK2 (ks := [2]) (is := []) (js := [0]) (fun (k : Nat) (U : Value) => k ≤ n) (fun (k : Nat) (U : Value) => [(1, .int .u64 ((v / 256 ^ k : Nat) : Int)), (8, U), (9, .int .i64 (k : Int))]) (fun (k : Nat) (U : Value) => [.row U 5 1 (b.length + k) ((b ++ leN k v).map u8v)]) (fun (k : Nat) (U : Value) => []) (fun (k : Nat) (U : Value) => n - k) (0) (_) rfl rfl rfl (fun a w h => ⟨by omega, by simp only [leN, List.append_nil, Nat.pow_zero, Nat.div_one]; exact h.cutK (is := [0]) (js := [0]) (ks := [2]) ⟨rfl, rfl, rfl, trivial⟩ rfl rfl rfl⟩) ?_
       intro k U hk
       try dsimp only [List.cons_append, List.nil_append] at hk ⊢
       refine GC.seq' ?_; refine GC.sr_ ?_
       iterate 2 refine GL.mv_ rfl rfl ?_
       refine GL.pure rfl (p_lss rfl rfl) ?_; refine GL.nl_ ?_; refine GC.cond rfl (fun h3 => ?_) (fun h3 => ?_)
       ·try simp only [tst_] at h3
        first
        | (exfalso; omega)
        |(skip
          refine GC.skip (?_ : GC _ _ _ _)
          refine GC.seq' ?_; refine GC.block ?_; refine GC.sr_ ?_
          iterate 2 refine GL.mv_ rfl rfl ?_
          refine GL.pure rfl (p_rem (r := ((v / 256 ^ k % 256 : Nat) : Int)) rfl rfl (by decide) (rem256 _)) ?_; refine GL.pure rfl (p_convR (t := 23) (r := ((UInt8.ofNat (v / 256 ^ k % 256)).toNat : Int)) (by rw [Tryz.underlying23]; simp) Tryz.underlying5 rfl (wrapB2 _)) ?_
          refine GL.step rfl (t_buildSlice rfl Tryz.underlying25 sz_5 ze_5 rfl rfl rfl rfl rfl rfl) (GL.ex fun b_t32 => ?_); refine GL.step rfl (t_append (i := 1) (k := 0) rfl el_25 rfl rfl rfl rfl rfl (allOne_mem rfl) (by simp; omega) (fun _ => rfl)) (GL.ex fun v33 => ?_)
          refine GL.as_ rfl rfl ?_; refine GL.nl_ ?_; refine GC.region ?_; refine GL.mv_ rfl rfl ?_; refine GL.pure rfl (p_quo (r := ((v / 256 ^ k / 256 : Nat) : Int)) rfl rfl (by decide) (quo256 (div_lt64 h64))) ?_; refine GL.as_ rfl rfl ?_
          refine GL.nil (?_ : GC _ _ _ _)
          refine GC.region ?_; refine GL.mv_ rfl rfl ?_; refine GL.pure rfl (p_add rfl rfl (w64 (by omega) (by omega))) ?_; refine GL.as_ rfl rfl ?_; refine GL.nil ?_
          exact fun a w h => ⟨(k + 1), (v33), (by omega), by omega, by rw [leN_succ, ← List.append_assoc, List.map_append, ← div_succ]; exact h.cut (is := [1]) (js := [0]) ⟨rfl, rfl, rfl, rfl, trivial⟩ rfl rfl⟩)
       ·try simp only [tst_] at h3
        first
        | (exfalso; omega)
        |(skip
          refine GC.exit (?_ : GC _ _ _ _)
          refine GC.seq' ?_
          obtain rfl : k = n := by omega
          refine GC.rowIs (i := 0) (m' := ((b ++ leN k v)).length) (cs' := ((b ++ leN k v)).map u8v) rfl (by first | (simp only [List.length_append, List.length_cons, List.length_nil, List.append_assoc]; done) | (simp only [List.length_append, List.length_cons, List.length_nil, List.append_assoc]; omega) | (simp [leN_length]; done) | (simp [leN_length]; omega) | rfl) (by first | (simp only [List.map_append, List.map_cons, List.map_nil, List.append_assoc]; done) | (simp [leN_length]; done) | rfl) rfl ?_
          refine GC.shape (i := 0) rfl (fun A_t20 c_t20 e_t20 l_t20 k_t20 => ?_)
          subst e_t20
          refine GC.region ?_; refine GL.mv_ rfl rfl ?_
          iterate 2 refine GL.as_ rfl rfl ?_
          refine GL.nil (?_ : GC _ _ _ _)
          refine GC.ret ?_
          refine fun a w h => Fin.back (rs := [.tmp 6, .tmp 7]) (vs := [_, _]) (is := [0]) (js := []) rfl ⟨rfl, rfl, trivial⟩ rfl rfl ?_ h
          clear h
          exact ⟨_, _, l_t20, k_t20, rfl, rfl, rfl⟩)))
theorem rtext_ct (A : Option Addr) (b : List UInt8) (cp : Nat) (B : Option Addr) (s : List UInt8) (cq : Nat) (hb : b.length ≤ 1000000000000) (hs : s.length ≤ 16777216) : Ct Tryz.prog 56 [.slice A b.length cp, .slice B s.length cq] [] [Pers.row Kd.u8 A b, Pers.row Kd.u8 B s]
    (fun u G Q => ∃ A' cp', (b ++ leN 4 s.length ++ s).length ≤ cp' ∧ cp' ≤ 9223372036854775807 ∧ u = .tuple #[.slice A' (b ++ leN 4 s.length ++ s).length cp', .int .i64 0] ∧ G = [rowOf A' cp' (b ++ leN 4 s.length ++ s)] ∧ Q = []) := by
 refine Ct.intro Tryz.func56 rfl rfl rfl (fun c hc => ?_)
 refine GC.sr_ ?_
 iterate 2 refine GL.as_ rfl rfl ?_
 refine GL.nl_ ?_; refine GC.seq' ?_; refine GC.sr_ ?_; refine GL.mv_ rfl rfl ?_; refine GL.pure rfl (p_len Tryz.underlying25 rfl) ?_; refine GL.pure rfl (p_gtr rfl rfl) ?_; refine GL.nl_ ?_; refine GC.cond rfl (fun h1 => ?_) (fun h1 => ?_)
 ·try simp only [tst_] at h1
  first
  | (exfalso; omega)
  |(skip
    refine GC.sr_ ?_
    iterate 2 refine GL.as_ rfl rfl ?_
    refine GL.nl_ ?_; refine GC.ret ?_
    refine fun a w h => Fin.back (rs := [.tmp 4, .tmp 5]) (vs := [_, _]) (is := []) (js := []) rfl ⟨rfl, rfl, trivial⟩ rfl rfl ?_ h
    clear h
    skip)
 ·try simp only [tst_] at h1
  first
  | (exfalso; omega)
  |(skip
    refine GC.skip (?_ : GC _ _ _ _)
    refine GC.sr_ ?_
    iterate 2 refine GL.mv_ rfl rfl ?_
    refine GL.pure rfl (p_len Tryz.underlying25 rfl) ?_; refine GL.pure rfl (p_convR (t := 3) (r := ((s.length : Nat) : Int)) (by rw [Tryz.underlying3]; simp) Tryz.underlying23 rfl (cvU (by omega) (by omega))) ?_
    refine GL.step rfl (t_call rfl fn_55 rfl (is := []) (js := [0]) rfl rfl (by exact r1put_ct _ b _ s.length 4 (by omega) (by omega) (by omega) (by rw [p256_4]; omega))) (GL.ret ?_)
    rintro _ _ _ ⟨A16, cp16, l16, k16, rfl, rfl, rfl⟩
    refine GL.mv_ rfl rfl ?_
    iterate 2 refine GL.pure rfl (p_extract rfl rfl) ?_
    iterate 2 refine GL.as_ rfl rfl ?_
    refine GL.nl_ ?_; refine GC.sr_ ?_
    iterate 2 refine GL.mv_ rfl rfl ?_
    refine GL.step rfl (t_appendS (i := 0) (k := 1) rfl el_25 rfl rfl rfl rfl (by simp [leN_length]; omega) (fun _ => rfl)) (GL.ex fun v21 => ?_); refine GL.rowIs (i := 0) (m' := ((b ++ leN 4 s.length ++ s)).length) (cs' := ((b ++ leN 4 s.length ++ s)).map u8v) rfl (by first | (simp only [List.length_append, List.length_cons, List.length_nil, List.append_assoc]; done) | (simp only [List.length_append, List.length_cons, List.length_nil, List.append_assoc]; omega) | (simp [leN_length]; done) | (simp [leN_length]; omega) | rfl) (by first | (simp only [List.map_append, List.map_cons, List.map_nil, List.append_assoc]; done) | (simp [leN_length]; done) | rfl) rfl ?_
    refine GL.shape (i := 0) rfl (fun A_rp16 c_rp16 e_rp16 l_rp16 k_rp16 => ?_)
    subst e_rp16
    iterate 2 refine GL.as_ rfl rfl ?_
    refine GL.nl_ ?_; refine GC.ret ?_
    refine fun a w h => Fin.back (rs := [.tmp 4, .tmp 5]) (vs := [_, _]) (is := [0]) (js := []) rfl ⟨rfl, rfl, trivial⟩ rfl rfl ?_ h
    clear h
    exact ⟨_, _, l_rp16, k_rp16, rfl, rfl, rfl⟩)
end Go.Proofs.YtdhdmbmknpjhbaaGreat
namespace Go.Proofs.YtdhdmbmknpjhbaaGreat
open Go Go.Sx Go.Proofs
theorem rseal_ct (A : Option Addr) (b : List UInt8) (cp : Nat) (hb : b.length ≤ 10000000000000) : Ct Tryz.prog 57 [.slice A b.length cp] [] [Pers.row Kd.u8 A b]
    (fun u G Q => ∃ A' cp', (sealB b).length ≤ cp' ∧ cp' ≤ 9223372036854775807 ∧ u = .slice A' (sealB b).length cp' ∧ G = [rowOf A' cp' (sealB b)] ∧ Q = []) := by
 refine Ct.intro Tryz.func57 rfl rfl rfl (fun c hc => ?_)
 refine GC.sr_ ?_; refine GL.as_ rfl rfl ?_; refine GL.nl_ ?_; refine GC.sr_ ?_; refine GL.mv_ rfl rfl ?_; refine GL.step rfl (t_call rfl fn_107 rfl (is := []) (js := [0]) rfl rfl (by exact of_ct _ b _ (by omega))) (GL.ret ?_)
 rintro _ _ _ ⟨rfl, rfl, rfl⟩
 refine GL.as_ rfl rfl ?_; refine GL.nl_ ?_; refine GC.sr_ ?_; refine GL.step rfl (t_buildSlice rfl Tryz.underlying25 sz_5 ze_5 rfl rfl rfl rfl rfl rfl) (GL.ex fun b_t6 => ?_); refine GL.mv_ rfl rfl ?_; refine GL.torow (i := 0) (m := 0) (sz := 1) rfl rfl (by decide) rfl ?_
 refine GL.step rfl (t_appendS (i := 0) (k := 0) rfl el_25 rfl rfl rfl rfl (by simp; omega) (fun _ => rfl)) (GL.ex fun v8 => ?_); refine GL.mv_ rfl rfl ?_; refine GL.pure rfl (p_convR (t := 144) (by rw [Tryz.underlying144]; simp) Tryz.underlying5 rfl (wrapB _)) ?_
 refine GL.mv_ rfl rfl ?_; refine GL.pure rfl (p_shrR rfl rfl (by decide) (shr1 _)) ?_; refine GL.pure rfl (p_convR (t := 144) (by rw [Tryz.underlying144]; simp) Tryz.underlying5 rfl (wrapB _)) ?_
 refine GL.mv_ rfl rfl ?_; refine GL.pure rfl (p_shrR rfl rfl (by decide) (shr2 _)) ?_; refine GL.pure rfl (p_convR (t := 144) (by rw [Tryz.underlying144]; simp) Tryz.underlying5 rfl (wrapB _)) ?_
 refine GL.mv_ rfl rfl ?_; refine GL.pure rfl (p_shrR rfl rfl (by decide) (shr3 _)) ?_; refine GL.pure rfl (p_convR (t := 144) (by rw [Tryz.underlying144]; simp) Tryz.underlying5 rfl (wrapB _)) ?_
 refine GL.step rfl (t_buildSlice rfl Tryz.underlying25 sz_5 ze_5 rfl rfl rfl rfl rfl rfl) (GL.ex fun b_t20 => ?_); refine GL.step rfl (t_append (i := 1) (k := 0) rfl el_25 rfl rfl rfl rfl rfl (allOne_mem rfl) (by simp; omega) (fun _ => rfl)) (GL.ex fun v21 => ?_)
 refine GL.rowIs (i := 1) (m' := ((sealB b)).length) (cs' := ((sealB b)).map u8v) rfl (by first | (simp only [List.length_append, List.length_cons, List.length_nil, List.append_assoc]; done) | (simp only [List.length_append, List.length_cons, List.length_nil, List.append_assoc]; omega) | (simp [leN4, sealB]; done) | (simp [leN4, sealB]; omega) | rfl) (by first | (simp only [List.map_append, List.map_cons, List.map_nil, List.append_assoc]; done) | (simp [leN4, sealB]; done) | rfl) rfl ?_
 refine GL.shape (i := 1) rfl (fun A_t6 c_t6 e_t6 l_t6 k_t6 => ?_)
 subst e_t6
 refine GL.as_ rfl rfl ?_; refine GL.nl_ ?_; refine GC.ret ?_
 refine fun a w h => Fin.back (rs := [.tmp 2]) (vs := [_]) (is := [1]) (js := []) rfl ⟨rfl, trivial⟩ rfl rfl ?_ h
 clear h
 exact ⟨_, _, l_t6, k_t6, rfl, rfl, rfl⟩
theorem rwrite_ct (A : Option Addr) (b : List UInt8) (cp : Nat) (hb : b.length ≤ 16777216) : Ct Tryz.prog 20 [.agg #[.int .u8 4, .int .u64 0, .slice A b.length cp]] [] [Pers.row Kd.u8 A b]
    (fun u G Q => ∃ A' cp', (frameB b).length ≤ cp' ∧ cp' ≤ 9223372036854775807 ∧ u = .tuple #[.slice A' (frameB b).length cp', .int .i64 0] ∧ G = [rowOf A' cp' (frameB b)] ∧ Q = []) := by
 refine Ct.intro Tryz.func20 rfl rfl rfl (fun c hc => ?_)
 refine GC.sr_ ?_; refine GL.step rfl (t_box rfl rfl rfl) (GL.ex fun b_t1 => ?_)
 iterate 2 refine GL.as_ rfl rfl ?_
 refine GL.nl_ ?_; refine GC.seq' ?_; refine GC.sr_ ?_; refine GL.pure rfl (p_fieldAddr fo_55_2 rfl) ?_; refine GL.step rfl (t_mem rfl (m_load (i := 0) rfl rfl ag_25 rfl)) ?_; refine GL.pure rfl (p_len Tryz.underlying25 rfl) ?_
 refine GL.pure rfl (p_gtr rfl rfl) ?_; refine GL.nl_ ?_; refine GC.cond rfl (fun h1 => ?_) (fun h1 => ?_)
 ·try simp only [tst_] at h1
  first
  | (exfalso; omega)
  |(skip
    refine GC.sr_ ?_
    iterate 2 refine GL.as_ rfl rfl ?_
    refine GL.nl_ ?_; refine GC.ret ?_
    refine fun a w h => Fin.back (rs := [.tmp 2, .tmp 3]) (vs := [_, _]) (is := []) (js := []) rfl ⟨rfl, rfl, trivial⟩ rfl rfl ?_ h
    clear h
    skip)
 ·try simp only [tst_] at h1
  first
  | (exfalso; omega)
  |(skip
    refine GC.skip (?_ : GC _ _ _ _)
    refine GC.sr_ ?_; refine GL.pure rfl (p_fieldAddr fo_55_0 rfl) ?_; refine GL.step rfl (t_mem rfl (m_load (i := 0) rfl rfl ag_5 rfl)) ?_; refine GL.step rfl (t_buildSlice rfl Tryz.underlying25 sz_5 ze_5 rfl rfl rfl rfl rfl rfl) (GL.ex fun b_t11 => ?_)
    refine GL.freezeC (enc := u8v) (xs := [(80 : UInt8), 76, 4, 0]) (h1 := fun _ => rfl) (i := 0) rfl ?_; refine GL.as_ rfl rfl ?_; refine GL.nl_ ?_; refine GC.sr_ ?_; refine GL.mv_ rfl rfl ?_; refine GL.pure rfl (p_fieldAddr fo_55_1 rfl) ?_
    refine GL.step rfl (t_mem rfl (m_load (i := 0) rfl rfl ag_23 rfl)) ?_; refine GL.step rfl (t_call rfl fn_55 rfl (is := []) (js := [0]) rfl rfl (by exact r1put_ct _ [(80 : UInt8), 76, 4, 0] _ 0 8 (by omega) (by omega) (by simp) (by decide))) (GL.ret ?_)
    rintro _ _ _ ⟨A16, cp16, l16, k16, rfl, rfl, rfl⟩
    refine GL.mv_ rfl rfl ?_
    iterate 2 refine GL.pure rfl (p_extract rfl rfl) ?_
    refine GL.as_ rfl rfl ?_; refine GL.nl_ ?_; refine GC.sr_ ?_; refine GL.mv_ rfl rfl ?_; refine GL.pure rfl (p_fieldAddr fo_55_2 rfl) ?_; refine GL.step rfl (t_mem rfl (m_load (i := 1) rfl rfl ag_25 rfl)) ?_; refine GL.freezeB (i := 0) rfl ?_
    refine GL.step rfl (t_call rfl fn_56 rfl (is := []) (js := [0, 2]) rfl rfl (by exact rtext_ct _ ([(80 : UInt8), 76, 4, 0] ++ leN 8 0) _ _ b _ (by simp [leN_length]) hb)) (GL.ret ?_)
    rintro _ _ _ ⟨A23, cp23, l23, k23, rfl, rfl, rfl⟩
    refine GL.mv_ rfl rfl ?_
    iterate 2 refine GL.pure rfl (p_extract rfl rfl) ?_
    refine GL.as_ rfl rfl ?_; refine GL.nl_ ?_; refine GC.sr_ ?_; refine GL.mv_ rfl rfl ?_; refine GL.freezeB (i := 0) rfl ?_; refine GL.step rfl (t_call rfl fn_57 rfl (is := []) (js := [0]) rfl rfl (by exact rseal_ct _ (headB b) _ (by rw [headB_len]; omega))) (GL.ret ?_)
    rintro _ _ _ ⟨A27, cp27, l27, k27, rfl, rfl, rfl⟩
    iterate 2 refine GL.as_ rfl rfl ?_
    refine GL.nl_ ?_; refine GC.ret ?_
    refine fun a w h => Fin.back (rs := [.tmp 2, .tmp 3]) (vs := [_, _]) (is := [0]) (js := []) rfl ⟨rfl, rfl, trivial⟩ rfl rfl ?_ h
    clear h
    exact ⟨_, _, l27, k27, rfl, rfl, rfl⟩)
end Go.Proofs.YtdhdmbmknpjhbaaGreat
namespace Go.Proofs.YtdhdmbmknpjhbaaGreat
open Go Go.Sx Go.Proofs
theorem wdecF_some {B : List UInt8} {m : Msg} (h : wdecF B = some m) : msgOk m ∧ bodyB m = B ∧ MsgLen m ∧ (0 ≤ m.nonce ∧ m.nonce < 18446744073709551616) ∧ m.log.length ≤ B.length := by
  simp only [wdecF, Option.bind_eq_some_iff] at h
  obtain ⟨⟨m', M⟩, h1, h2⟩ := h
  split at h2
  · rename_i hh
    obtain rfl := Option.some.inj h2
    have := wmsgF_all h1
    exact ⟨hh.2.1, hh.2.2, this.len, this.nonce, this.log⟩
  · cases h2
abbrev lieN : Lie := ⟨none, 0, none, 0, none, 0, none, 0, none, 0, none, 0, none, 0, none, 0⟩
theorem zmsLen : MsgLen zms := ⟨by simp [zms, zop], by simp [zms, zop], by simp [zms, rz], by simp [zms, zgr], zstLen, by simp [zms], by simp [zms]⟩
theorem rms_zero (s : Lie) : Ct Tryz.prog 15 [msgV zms s, msgV zms lieN] [] (msgQ zms s) (fun u G Q => u = .bool true ∧ G = [] ∧ Q = []) := by
  have h := Ct.qperm (rmsame_ct zms zms s lieN zmsLen) (Q' := msgQ zms s) (fun q hq => by
    rcases List.mem_append.1 hq with h | h
    · exact .inl h
    · refine .inr fun w S => ?_
      simp only [List.mem_cons, List.not_mem_nil, or_false] at h
      rcases h with rfl | rfl | rfl | rfl | rfl | rfl | rfl | rfl <;> exact .inl rfl)
  simpa using h
theorem wireOnly_ct (A : Option Addr) (b : List UInt8) (cp : Nat) (hcp : b.length ≤ cp) (hcp' : cp ≤ 9223372036854775807) : Ct Tryz.prog 8 [.slice A b.length cp] [] [Pers.row Kd.u8 A b] (fun u G Q => u = .bool true ∧ G = [] ∧ Q = []) := by
 refine Ct.intro Tryz.func8 rfl rfl rfl (fun c hc => ?_)
 refine GC.sr_ ?_; refine GL.as_ rfl rfl ?_; refine GL.nl_ ?_; refine GC.seq' ?_; refine GC.sr_ ?_; refine GL.step rfl (t_call rfl fn_11 rfl (is := []) (js := []) rfl rfl (by exact awk_ct)) (GL.ret ?_)
 rintro _ _ _ ⟨rfl, rfl, rfl⟩
 refine GL.pure rfl (p_not rfl) ?_; refine GL.nl_ ?_; refine GC.cond_false rfl ?_
 refine GC.skip (?_ : GC _ _ _ _)
 refine GC.joinK3 (ks := [2]) (is := []) (js := [0]) (fun (B : List UInt8) (A1 : Option Addr) (c1 : Nat) => B.length ≤ 65536 ∧ B.length ≤ c1 ∧ c1 ≤ 9223372036854775807) (fun (B : List UInt8) (A1 : Option Addr) (c1 : Nat) => [(0, .slice A1 B.length c1)]) (fun (B : List UInt8) (A1 : Option Addr) (c1 : Nat) => []) (fun (B : List UInt8) (A1 : Option Addr) (c1 : Nat) => [Pers.row Kd.u8 A1 B]) rfl rfl rfl ?_ ?_
 ·refine GC.sr_ ?_; refine GL.mv_ rfl rfl ?_; refine GL.pure rfl (p_len Tryz.underlying25 rfl) ?_; refine GL.pure rfl (p_gtr rfl rfl) ?_; refine GL.nl_ ?_; refine GC.cond rfl (fun h1 => ?_) (fun h1 => ?_)
  ·try simp only [tst_] at h1
   first
   | (exfalso; first | exact h1 rfl | exact h1 trivial | omega | (simp at h1; done))
   |(skip
     refine GC.region ?_; refine GL.mv_ rfl rfl ?_; refine GL.step rfl (t_cut_h (j := 0) rfl rfl rfl rfl Tryz.underlying25 sz_5 (by omega) (by omega) (by omega)) ?_; refine GL.as_ rfl rfl ?_; refine GL.nil ?_
     exact fun a w h => ⟨(seg b 0 65536), (_), (_), ⟨by rw [seg_length (by omega)]; omega, by rw [seg_length (by omega)]; omega, by omega⟩, h.cut (is := []) (js := [0, 1]) ⟨rfl, rfl, trivial⟩ rfl rfl⟩)
  ·try simp only [tst_] at h1
   first
   | (exfalso; first | exact h1 rfl | exact h1 trivial | omega | (simp at h1; done))
   |(skip
     refine GC.skip ?_
     exact fun a w h => ⟨(b), (_), (_), ⟨by omega, hcp, hcp'⟩, h.cut (is := []) (js := [0, 0]) ⟨rfl, rfl, trivial⟩ rfl rfl⟩)
 ·intro B A1 c1 hB
  try dsimp only [List.cons_append, List.nil_append] at hB ⊢
  obtain ⟨hB, hB1, hB2⟩ := hB
  refine GC.sr_ ?_; refine GL.mv_ rfl rfl ?_; refine GL.pure rfl (p_build ze_55 of_55 rfl rfl) ?_; refine GL.step rfl (t_call rfl fn_20 rfl (is := []) (js := [0]) rfl rfl (by exact rwrite_ct _ B _ (by omega))) (GL.ret ?_)
  rintro _ _ _ ⟨A19, cp19, l19, k19, rfl, rfl, rfl⟩
  refine GL.mv_ rfl rfl ?_
  iterate 2 refine GL.pure rfl (p_extract rfl rfl) ?_
  iterate 2 refine GL.as_ rfl rfl ?_
  refine GL.nl_ ?_; refine GC.sr_ ?_; refine GL.mv_ rfl rfl ?_; refine GL.freezeB (i := 0) rfl ?_; refine GL.step rfl (t_call rfl fn_18 rfl (is := []) (js := [0]) rfl rfl (by exact wdec_ct _ B (frameB B) _ rfl (by omega) (fun m M h => by have := (wmsgF_all h).log; omega) l19 k19)) (GL.ret ?_)
  rintro _ _ _ ⟨m24, s24, k24, hd24, rfl, rfl, rfl⟩
  refine GL.mv_ rfl rfl ?_
  iterate 2 refine GL.pure rfl (p_extract rfl rfl) ?_
  refine GL.step rfl (t_alloc rfl ze_42) (GL.ex fun b_t5 => ?_); refine GL.step rfl (t_storeN (i := 0) rfl rfl rfl sz_42 rfl rfl rfl) ?_; refine GL.as_ rfl rfl ?_; refine GL.nl_ ?_; refine GC.seq' ?_; refine GC.sr_ ?_; refine GL.mv_ rfl rfl ?_
  refine GL.pure rfl (p_neq rfl rfl) ?_; refine GL.nl_ ?_; refine GC.cond rfl (fun h2 => ?_) (fun h2 => ?_)
  ·try simp only [tst_] at h2
   first
   | (exfalso; first | exact h2 rfl | exact h2 trivial | omega | (simp at h2; done))
   |(skip
     refine GC.sr_ ?_
     obtain ⟨_, rfl⟩ := hd24.2 (by assumption)
     refine GL.step rfl (t_mem rfl (m_loadN (i := 0) rfl rfl ag_42 (vs := [_, _, _, _, _, _, _, _, _, _, _, _, _, _, _, _, _, _, _, _, _, _, _, _, _, _, _, _]) sz_42 ⟨rfl, rfl, rfl, rfl, rfl, rfl, rfl, rfl, rfl, rfl, rfl, rfl, rfl, rfl, rfl, rfl, rfl, rfl, rfl, rfl, rfl, rfl, rfl, rfl, rfl, rfl, rfl, rfl, trivial⟩)) ?_
     refine GL.pure rfl (p_build ze_42 of_42 rfl rfl) ?_; refine GL.step rfl (t_call rfl fn_15 rfl (is := []) (js := [0, 1, 2, 3, 4, 5, 6, 7]) rfl rfl (by exact rms_zero s24)) (GL.ret ?_)
     rintro _ _ _ ⟨rfl, rfl, rfl⟩
     refine GL.as_ rfl rfl ?_; refine GL.nl_ ?_; refine GC.ret ?_
     refine fun a w h => Fin.back (rs := [.tmp 2]) (vs := [_]) (is := []) (js := []) rfl ⟨rfl, trivial⟩ rfl rfl ?_ h
     clear h
     exact ⟨by first | rfl | exact congrArg Value.bool (by simp), rfl, rfl⟩)
  ·try simp only [tst_] at h2
   first
   | (exfalso; first | exact h2 rfl | exact h2 trivial | omega | (simp at h2; done))
   |(skip
     refine GC.skip (?_ : GC _ _ _ _)
     refine GC.sr_ ?_
     obtain ⟨hok, hbd, hml, hno, hlg⟩ := wdecF_some (hd24.1 (by omega))
     have he0 : encFo m24 = (0, frameB B) := by rw [encFo, if_pos hok, hbd, if_pos (by omega)]
     refine GL.step rfl (t_mem rfl (m_loadN (i := 0) rfl rfl ag_42 (vs := [_, _, _, _, _, _, _, _, _, _, _, _, _, _, _, _, _, _, _, _, _, _, _, _, _, _, _, _]) sz_42 ⟨rfl, rfl, rfl, rfl, rfl, rfl, rfl, rfl, rfl, rfl, rfl, rfl, rfl, rfl, rfl, rfl, rfl, rfl, rfl, rfl, rfl, rfl, rfl, rfl, rfl, rfl, rfl, rfl, trivial⟩)) ?_
     refine GL.step rfl (t_call rfl fn_16 rfl (is := []) (js := [0, 1, 2, 3, 4, 5, 6, 7]) rfl rfl (by exact (by have h_ := wenco_ct m24 s24 hml hno (by omega); rw [he0] at h_; exact h_))) (GL.ret ?_)
     rintro _ _ _ ⟨A34, cp34, l34, k34, rfl, rfl, rfl⟩
     refine GL.mv_ rfl rfl ?_
     iterate 2 refine GL.pure rfl (p_extract rfl rfl) ?_
     iterate 2 refine GL.as_ rfl rfl ?_
     refine GL.nl_ ?_; refine GC.sr_ ?_; refine GL.mv_ rfl rfl ?_; refine GL.pure rfl (p_eql rfl rfl) ?_; refine GL.mv_ rfl rfl ?_; refine GL.freezeB (i := 0) rfl ?_; refine GL.pureG (s := 39) rfl rfl rfl (p_move rfl) ?_
     refine GL.stepG rfl (s := 39) rfl rfl (t_mem rfl (m_str (i := 0) rfl rfl Tryz.underlying25 Tryz.underlying5 Tryz.underlying9)) ?_; refine GL.pureG (s := 39) rfl rfl rfl (p_move rfl) ?_; refine GL.stepG rfl (s := 39) rfl rfl (t_mem rfl (m_str (i := 9) rfl rfl Tryz.underlying25 Tryz.underlying5 Tryz.underlying9)) ?_
     refine GL.pureG (s := 39) rfl rfl rfl (p_seql rfl rfl) ?_; refine GL.pure rfl (p_pick_true rfl rfl) ?_; refine GL.as_ rfl rfl ?_; refine GL.nl_ ?_; refine GC.ret ?_
     refine fun a w h => Fin.back (rs := [.tmp 2]) (vs := [_]) (is := []) (js := []) rfl ⟨rfl, trivial⟩ rfl rfl ?_ h
     clear h
     exact ⟨by first | rfl | exact congrArg Value.bool (by simp), rfl, rfl⟩)
end Go.Proofs.YtdhdmbmknpjhbaaGreat
