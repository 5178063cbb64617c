/- Texts of this claim, in one: what the law leans on (part 5). -/
import Derived.Test.YtdhdmbmknpjhbaaGreatU4
set_option linter.unusedVariables false
set_option linter.unusedSimpArgs false
set_option maxRecDepth 100000
namespace Go.Proofs.YtdhdmbmknpjhbaaGreat
open Go Go.Sx Go.Proofs
theorem wdec_bad (A : Option Addr) (b : List UInt8) (cp : Nat) (hb : b.length ≤ 200000000000000) (hcp : b.length ≤ cp) (hcp' : cp ≤ 9223372036854775807) (hbad : rdBad b) : Ct Tryz.prog 18 [.slice A b.length cp] [] [Pers.row Kd.u8 A b] (fun u G Q => ∃ e : Int, e ≠ 0 ∧ u = .tuple #[msgZ, .int .i64 e] ∧ G = [] ∧ Q = []) := by
 refine Ct.introD Tryz.func18 rfl rfl rfl (fun c hc hcD => ?_)
 refine GC.sr_ ?_; refine GL.step rfl (t_alloc rfl ze_42) (GL.ex fun b_t2 => ?_); refine GL.step rfl (t_alloc rfl ze_45) (GL.ex fun b_t3 => ?_); refine GL.nl_ ?_; refine GC.sr_ ?_; refine GL.mv_ rfl rfl ?_; refine GL.step rfl (t_call rfl fn_48 rfl (is := []) (js := [0]) rfl rfl (by exact fread_ct _ b _ hb hcp hcp')) (GL.ret ?_)
 rintro _ _ _ ⟨k13, s13, A13, bd13, cp13, n13, l13, c13, hr13, rfl, rfl, rfl⟩
 refine GL.mv_ rfl rfl ?_
 iterate 3 refine GL.pure rfl (p_extract rfl rfl) ?_
 refine GL.step rfl (t_alloc rfl ze_55) (GL.ex fun b_t4 => ?_); refine GL.step rfl (t_storeN (i := 0) rfl rfl rfl sz_55 rfl rfl rfl) ?_
 iterate 2 refine GL.as_ rfl rfl ?_
 refine GL.nl_ ?_; refine GC.seq' ?_; refine GC.sr_ ?_; refine GL.mv_ rfl rfl ?_; refine GL.pure rfl (p_neq rfl rfl) ?_; refine GL.nl_ ?_; refine GC.cond rfl (fun h1 => ?_) (fun h1 => ?_)
 ·try simp only [tst_] at h1
  refine GC.sr_ ?_; refine GL.pure rfl (p_build ze_42 of_42 rfl rfl) ?_; refine GL.mv_ rfl rfl ?_; refine GL.step rfl (t_storeN (i := 2) rfl rfl rfl sz_42 rfl rfl rfl) ?_; refine GL.step rfl (t_store (i := 1) rfl rfl rfl rfl sz_45 rfl rfl rfl) ?_
  refine GL.nl_ ?_; refine GC.ret ?_
  refine fun a w h => FinD.back hcD (rs := [.cell 2 42, .cell 3 45]) (vs := [_, _]) (is := []) (js := []) rfl ⟨⟨2, _, _, _, _, rfl, rfl, .inr ⟨[_, _, _, _, _, _, _, _, _, _, _, _, _, _, _, _, _, _, _, _, _, _, _, _, _, _, _, _], rfl, ag_42, sz_42, ⟨rfl, rfl, rfl, rfl, rfl, rfl, rfl, rfl, rfl, rfl, rfl, rfl, rfl, rfl, rfl, rfl, rfl, rfl, rfl, rfl, rfl, rfl, rfl, rfl, rfl, rfl, rfl, rfl, trivial⟩⟩⟩, ⟨1, _, _, _, _, rfl, rfl, .inl ⟨ag_45, rfl⟩⟩, trivial⟩ rfl rfl ?_ h
  clear h
  exact ⟨_, by assumption, rfl, rfl, rfl⟩
 ·try simp only [tst_] at h1
  refine GC.skip (?_ : GC _ _ _ _)
  refine GC.seq' ?_; refine GC.sr_ ?_
  iterate 2 refine GL.mv_ rfl rfl ?_
  refine GL.pure rfl (p_len Tryz.underlying25 rfl) ?_; refine GL.pure rfl (p_neq rfl rfl) ?_; refine GL.mv_ rfl rfl ?_; refine GL.split (i := 25) rfl (fun h2 => ?_) (fun h2 => ?_)
  ·try simp only [tst_] at h2
   iterate 3 refine GL.pass (s := 25) rfl rfl rfl ?_
   refine GL.pure rfl (p_pick_true rfl rfl) ?_; refine GL.mv_ rfl rfl ?_
   iterate 3 refine GL.pass (s := 30) rfl rfl rfl ?_
   refine GL.pure rfl (p_pick_true rfl rfl) ?_; refine GL.nl_ ?_; refine GC.cond_true rfl ?_; refine GC.sr_ ?_; refine GL.pure rfl (p_build ze_42 of_42 rfl rfl) ?_; refine GL.step rfl (t_storeN (i := 2) rfl rfl rfl sz_42 rfl rfl rfl) ?_
   refine GL.step rfl (t_store (i := 1) rfl rfl rfl rfl sz_45 rfl rfl rfl) ?_; refine GL.nl_ ?_; refine GC.ret ?_
   refine fun a w h => FinD.back hcD (rs := [.cell 2 42, .cell 3 45]) (vs := [_, _]) (is := []) (js := []) rfl ⟨⟨2, _, _, _, _, rfl, rfl, .inr ⟨[_, _, _, _, _, _, _, _, _, _, _, _, _, _, _, _, _, _, _, _, _, _, _, _, _, _, _, _], rfl, ag_42, sz_42, ⟨rfl, rfl, rfl, rfl, rfl, rfl, rfl, rfl, rfl, rfl, rfl, rfl, rfl, rfl, rfl, rfl, rfl, rfl, rfl, rfl, rfl, rfl, rfl, rfl, rfl, rfl, rfl, rfl, trivial⟩⟩⟩, ⟨1, _, _, _, _, rfl, rfl, .inl ⟨ag_45, rfl⟩⟩, trivial⟩ rfl rfl ?_ h
   clear h
   exact ⟨160, by decide, rfl, rfl, rfl⟩
  ·try simp only [tst_] at h2
   exact absurd h2 (rdBad_n hbad hr13 (by first | assumption | omega))
theorem wdec_bad' (A : Option Addr) (b : List UInt8) (n cp : Nat) (hn : b.length = n) (hb : n ≤ 200000000000000) (hcp : n ≤ cp) (hcp' : cp ≤ 9223372036854775807) (hbad : rdBad b) : Ct Tryz.prog 18 [.slice A n cp] [] [Pers.row Kd.u8 A b] (fun u G Q => ∃ e : Int, e ≠ 0 ∧ u = .tuple #[msgZ, .int .i64 e] ∧ G = [] ∧ Q = []) := by
  subst hn; exact wdec_bad A b cp hb hcp hcp' hbad
theorem wbodyo_ok (m : Msg) (s : Lie) (hm : MsgLen m) (hok : msgOk m) (hn : 0 ≤ m.nonce ∧ m.nonce < 18446744073709551616) (hlog : m.log.length < 100000) (hf : (bodyB m).length ≤ 16777216) : Ct Tryz.prog 45 [msgV m s] [] (msgQ m s)
    (fun u G Q => ∃ A cp, (bodyB m).length ≤ cp ∧ cp ≤ 9223372036854775807 ∧ u = .tuple #[.slice A (bodyB m).length cp, .bool true] ∧ G = [rowOf A cp (bodyB m)] ∧ Q = []) :=
  Ct.mono (wbody_all m s hm hok hn hlog) fun u G Q h => h.elim (fun h => h.2) (fun h => by omega)
theorem wbodyo_long (m : Msg) (s : Lie) (hm : MsgLen m) (hok : msgOk m) (hn : 0 ≤ m.nonce ∧ m.nonce < 18446744073709551616) (hlog : m.log.length < 100000) (hf : ¬ (bodyB m).length ≤ 16777216) : Ct Tryz.prog 45 [msgV m s] [] (msgQ m s)
    (fun u G Q => (∃ A n cp, u = .tuple #[.slice A n cp, .bool false]) ∧ G = [] ∧ Q = []) :=
  Ct.mono (wbody_all m s hm hok hn hlog) fun u G Q h => h.elim (fun h => by omega) (fun h => h.2)
theorem wchko_ok (m : Msg) (s : Lie) (hm : MsgLen m) (h : msgOk m) : Ct Tryz.prog 12 [msgV m s] [] (msgQ m s) (fun u G Q => u = .int .i64 0 ∧ G = [] ∧ Q = []) := by
  have := wchk_ct m s hm; rw [msgE_yes h] at this; exact this
theorem wchko_no (m : Msg) (s : Lie) (hm : MsgLen m) (h : ¬ msgOk m) : Ct Tryz.prog 12 [msgV m s] [] (msgQ m s) (fun u G Q => u = .int .i64 160 ∧ G = [] ∧ Q = []) := by
  have := wchk_ct m s hm; rw [msgE_no h] at this; exact this
def encFo (m : Msg) : Int × List UInt8 := if msgOk m then (if (bodyB m).length ≤ 16777216 then (0, frameB (bodyB m)) else (2, [])) else (160, [])
abbrev EncO (e : Int) (F : List UInt8) (u : Value) (G : List Own) (Q : List Pers) : Prop := ∃ A cp, F.length ≤ cp ∧ cp ≤ 9223372036854775807 ∧ u = .tuple #[.slice A F.length cp, .int .i64 e] ∧ G = [rowOf A cp F] ∧ Q = []
theorem wenco_bad (m : Msg) (s : Lie) (hm : MsgLen m) (h : ¬ msgOk m) : Ct Tryz.prog 16 [msgV m s] [] (msgQ m s) (EncO 160 []) := by
 refine Ct.intro Tryz.func16 rfl rfl rfl (fun c hc => ?_)
 refine GC.sr_ ?_; refine GL.step rfl (t_box rfl rfl rfl) (GL.ex fun b_t1 => ?_)
 iterate 2 refine GL.as_ rfl rfl ?_
 refine GL.nl_ ?_; refine GC.seq' ?_; refine GC.sr_ ?_; refine GL.step rfl (t_mem rfl (m_loadN (i := 0) rfl rfl ag_42 (vs := [_, _, _, _, _, _, _, _, _, _, _, _, _, _, _, _, _, _, _, _, _, _, _, _, _, _, _, _]) sz_42 ⟨rfl, rfl, rfl, rfl, rfl, rfl, rfl, rfl, rfl, rfl, rfl, rfl, rfl, rfl, rfl, rfl, rfl, rfl, rfl, rfl, rfl, rfl, rfl, rfl, rfl, rfl, rfl, rfl, trivial⟩)) ?_
 refine GL.step rfl (t_call rfl fn_12 rfl (is := []) (js := [0, 1, 2, 3, 4, 5, 6, 7]) rfl rfl (by exact wchko_no m s hm h)) (GL.ret ?_)
 rintro _ _ _ ⟨rfl, rfl, rfl⟩
 refine GL.as_ rfl rfl ?_; refine GL.nl_ ?_; refine GC.sr_ ?_; refine GL.mv_ rfl rfl ?_; refine GL.pure rfl (p_neq rfl rfl) ?_; refine GL.nl_ ?_; refine GC.cond_true rfl ?_; refine GC.sr_ ?_; refine GL.mv_ rfl rfl ?_
 iterate 2 refine GL.as_ rfl rfl ?_
 refine GL.nl_ ?_; refine GC.nilrow 5 1 ?_; refine GC.ret ?_
 refine fun a w h => Fin.back (rs := [.tmp 2, .tmp 3]) (vs := [_, _]) (is := [0]) (js := []) rfl ⟨rfl, rfl, trivial⟩ rfl rfl ?_ h
 clear h
 exact ⟨none, 0, by simp, by simp, rfl, rfl, rfl⟩
theorem wenco_ok (m : Msg) (s : Lie) (hm : MsgLen m) (hn : 0 ≤ m.nonce ∧ m.nonce < 18446744073709551616) (hlog : m.log.length < 100000) (h : msgOk m) (hf : (bodyB m).length ≤ 16777216) : Ct Tryz.prog 16 [msgV m s] [] (msgQ m s) (EncO 0 (frameB (bodyB m))) := by
 refine Ct.intro Tryz.func16 rfl rfl rfl (fun c hc => ?_)
 refine GC.sr_ ?_; refine GL.step rfl (t_box rfl rfl rfl) (GL.ex fun b_t1 => ?_)
 iterate 2 refine GL.as_ rfl rfl ?_
 refine GL.nl_ ?_; refine GC.seq' ?_; refine GC.sr_ ?_; refine GL.step rfl (t_mem rfl (m_loadN (i := 0) rfl rfl ag_42 (vs := [_, _, _, _, _, _, _, _, _, _, _, _, _, _, _, _, _, _, _, _, _, _, _, _, _, _, _, _]) sz_42 ⟨rfl, rfl, rfl, rfl, rfl, rfl, rfl, rfl, rfl, rfl, rfl, rfl, rfl, rfl, rfl, rfl, rfl, rfl, rfl, rfl, rfl, rfl, rfl, rfl, rfl, rfl, rfl, rfl, trivial⟩)) ?_
 refine GL.step rfl (t_call rfl fn_12 rfl (is := []) (js := [0, 1, 2, 3, 4, 5, 6, 7]) rfl rfl (by exact wchko_ok m s hm h)) (GL.ret ?_)
 rintro _ _ _ ⟨rfl, rfl, rfl⟩
 refine GL.as_ rfl rfl ?_; refine GL.nl_ ?_; refine GC.sr_ ?_; refine GL.mv_ rfl rfl ?_; refine GL.pure rfl (p_neq rfl rfl) ?_; refine GL.nl_ ?_; refine GC.cond_false rfl ?_
 refine GC.skip (?_ : GC _ _ _ _)
 refine GC.sr_ ?_; refine GL.step rfl (t_mem rfl (m_loadN (i := 0) rfl rfl ag_42 (vs := [_, _, _, _, _, _, _, _, _, _, _, _, _, _, _, _, _, _, _, _, _, _, _, _, _, _, _, _]) sz_42 ⟨rfl, rfl, rfl, rfl, rfl, rfl, rfl, rfl, rfl, rfl, rfl, rfl, rfl, rfl, rfl, rfl, rfl, rfl, rfl, rfl, rfl, rfl, rfl, rfl, rfl, rfl, rfl, rfl, trivial⟩)) ?_
 refine GL.step rfl (t_call rfl fn_45 rfl (is := []) (js := [0, 1, 2, 3, 4, 5, 6, 7]) rfl rfl (by exact wbodyo_ok m s hm h hn hlog hf)) (GL.ret ?_)
 rintro _ _ _ ⟨A14, cp14, l14, k14, rfl, rfl, rfl⟩
 refine GL.mv_ rfl rfl ?_
 iterate 2 refine GL.pure rfl (p_extract rfl rfl) ?_
 iterate 2 refine GL.as_ rfl rfl ?_
 refine GL.nl_ ?_; refine GC.seq' ?_; refine GC.sr_ ?_; refine GL.mv_ rfl rfl ?_; refine GL.pure rfl (p_not rfl) ?_; refine GL.nl_ ?_; refine GC.cond_false rfl ?_
 refine GC.skip (?_ : GC _ _ _ _)
 refine GC.sr_ ?_; refine GL.freezeB (i := 0) rfl ?_; refine GL.mv_ rfl rfl ?_; refine GL.pure rfl (p_build ze_55 of_55 rfl rfl) ?_; refine GL.step rfl (t_call rfl fn_46 rfl (is := []) (js := [0]) rfl rfl (by exact fwrite_ct _ (bodyB m) _ hf)) (GL.ret ?_)
 rintro _ _ _ ⟨A21, cp21, l21, k21, rfl, rfl, rfl⟩
 iterate 2 refine GL.pure rfl (p_extract rfl rfl) ?_
 iterate 2 refine GL.as_ rfl rfl ?_
 refine GL.nl_ ?_; refine GC.ret ?_
 refine fun a w h => Fin.back (rs := [.tmp 2, .tmp 3]) (vs := [_, _]) (is := [0]) (js := []) rfl ⟨rfl, rfl, trivial⟩ rfl rfl ?_ h
 clear h
 exact ⟨_, _, l21, k21, rfl, rfl, rfl⟩
theorem wenco_long (m : Msg) (s : Lie) (hm : MsgLen m) (hn : 0 ≤ m.nonce ∧ m.nonce < 18446744073709551616) (hlog : m.log.length < 100000) (h : msgOk m) (hf : ¬ (bodyB m).length ≤ 16777216) : Ct Tryz.prog 16 [msgV m s] [] (msgQ m s) (EncO 2 []) := by
 refine Ct.intro Tryz.func16 rfl rfl rfl (fun c hc => ?_)
 refine GC.sr_ ?_; refine GL.step rfl (t_box rfl rfl rfl) (GL.ex fun b_t1 => ?_)
 iterate 2 refine GL.as_ rfl rfl ?_
 refine GL.nl_ ?_; refine GC.seq' ?_; refine GC.sr_ ?_; refine GL.step rfl (t_mem rfl (m_loadN (i := 0) rfl rfl ag_42 (vs := [_, _, _, _, _, _, _, _, _, _, _, _, _, _, _, _, _, _, _, _, _, _, _, _, _, _, _, _]) sz_42 ⟨rfl, rfl, rfl, rfl, rfl, rfl, rfl, rfl, rfl, rfl, rfl, rfl, rfl, rfl, rfl, rfl, rfl, rfl, rfl, rfl, rfl, rfl, rfl, rfl, rfl, rfl, rfl, rfl, trivial⟩)) ?_
 refine GL.step rfl (t_call rfl fn_12 rfl (is := []) (js := [0, 1, 2, 3, 4, 5, 6, 7]) rfl rfl (by exact wchko_ok m s hm h)) (GL.ret ?_)
 rintro _ _ _ ⟨rfl, rfl, rfl⟩
 refine GL.as_ rfl rfl ?_; refine GL.nl_ ?_; refine GC.sr_ ?_; refine GL.mv_ rfl rfl ?_; refine GL.pure rfl (p_neq rfl rfl) ?_; refine GL.nl_ ?_; refine GC.cond_false rfl ?_
 refine GC.skip (?_ : GC _ _ _ _)
 refine GC.sr_ ?_; refine GL.step rfl (t_mem rfl (m_loadN (i := 0) rfl rfl ag_42 (vs := [_, _, _, _, _, _, _, _, _, _, _, _, _, _, _, _, _, _, _, _, _, _, _, _, _, _, _, _]) sz_42 ⟨rfl, rfl, rfl, rfl, rfl, rfl, rfl, rfl, rfl, rfl, rfl, rfl, rfl, rfl, rfl, rfl, rfl, rfl, rfl, rfl, rfl, rfl, rfl, rfl, rfl, rfl, rfl, rfl, trivial⟩)) ?_
 refine GL.step rfl (t_call rfl fn_45 rfl (is := []) (js := [0, 1, 2, 3, 4, 5, 6, 7]) rfl rfl (by exact wbodyo_long m s hm h hn hlog hf)) (GL.ret ?_)
 rintro _ _ _ ⟨⟨A14, n14, cp14, rfl⟩, rfl, rfl⟩
 refine GL.mv_ rfl rfl ?_
 iterate 2 refine GL.pure rfl (p_extract rfl rfl) ?_
 iterate 2 refine GL.as_ rfl rfl ?_
 refine GL.nl_ ?_; refine GC.seq' ?_; refine GC.sr_ ?_; refine GL.mv_ rfl rfl ?_; refine GL.pure rfl (p_not rfl) ?_; refine GL.nl_ ?_; refine GC.cond_true rfl ?_; refine GC.sr_ ?_
 iterate 2 refine GL.as_ rfl rfl ?_
 refine GL.nl_ ?_; refine GC.nilrow 5 1 ?_; refine GC.ret ?_
 refine fun a w h => Fin.back (rs := [.tmp 2, .tmp 3]) (vs := [_, _]) (is := [0]) (js := []) rfl ⟨rfl, rfl, trivial⟩ rfl rfl ?_ h
 clear h
 exact ⟨none, 0, by simp, by simp, rfl, rfl, rfl⟩
theorem wenco_ct (m : Msg) (s : Lie) (hm : MsgLen m) (hn : 0 ≤ m.nonce ∧ m.nonce < 18446744073709551616) (hlog : m.log.length < 100000) : Ct Tryz.prog 16 [msgV m s] [] (msgQ m s) (EncO (encFo m).1 (encFo m).2) := by
  by_cases h : msgOk m
  · by_cases hf : (bodyB m).length ≤ 16777216
    · rw [show encFo m = (0, frameB (bodyB m)) by rw [encFo, if_pos h, if_pos hf]]; exact wenco_ok m s hm hn hlog h hf
    · rw [show encFo m = (2, []) by rw [encFo, if_pos h, if_neg hf]]; exact wenco_long m s hm hn hlog h hf
  · rw [show encFo m = (160, []) by rw [encFo, if_neg h]]; exact wenco_bad m s hm h
theorem nonceo_of {m : Msg} (h : okMsg m) : 0 ≤ m.nonce ∧ m.nonce < 18446744073709551616 := by
  have := h.2.2.2.2.2.2.2.2.1
  simp [Lit.wf] at this
  have e1 : IntKind.u64.min = 0 := by decide
  have e2 : IntKind.u64.max = 18446744073709551615 := by decide
  omega
end Go.Proofs.YtdhdmbmknpjhbaaGreat
namespace Go.Proofs.YtdhdmbmknpjhbaaGreat
open Go Go.Sx Go.Proofs
theorem tmodN (a b : Nat) : ((a : Nat) : Int).tmod ((b : Nat) : Int) = ((a % b : Nat) : Int) := rfl
theorem encFo_zero {m : Msg} {e : Int} {F : List UInt8} (h : encFo m = (e, F)) (h0 : e = 0) : ∃ B : List UInt8, B.length ≤ 16777216 ∧ F = frameB B := by
  unfold encFo at h
  split at h
  · split at h
    · rename_i hf
      exact ⟨_, hf, (Prod.mk.inj h).2.symm⟩
    · have := (Prod.mk.inj h).1; omega
  · have := (Prod.mk.inj h).1; omega
theorem u16_of {n : Int} (h : (Lit.int .u16 n).wf = true) : ∃ k : Nat, n = (k : Int) ∧ k < 65536 := by
  have h2 : 0 ≤ n ∧ n ≤ 65535 := by
    simp [Lit.wf, IntKind.min, IntKind.max, IntKind.signed, IntKind.bits] at h
    exact h
  exact ⟨n.toNat, by omega, by omega⟩
theorem seg_set (F : List UInt8) (k : Nat) (c : UInt8) : seg (F.set k c) 0 F.length = F.set k c := by
  have := seg_all (F.set k c)
  rwa [List.length_set] at this
theorem wireSpoilt_in (m : Msg) (s : Lie) (at_ : Nat) (x : UInt8) (A : Option Addr) (mo : List UInt8) (cp : Nat) (hm : MsgLen m) (hat : at_ < 65536) (hmo : mo.length ≤ 140737488351232) (hcp : mo.length ≤ cp) (hcp' : cp ≤ 9223372036854775807) (e0 : Int) (F : List UInt8) (hz : e0 = 0 → ∃ B : List UInt8, B.length ≤ 16777216 ∧ F = frameB B)
    (hE : m.log.length < 100000 → Ct Tryz.prog 16 [msgV m s] [] (msgQ m s) (EncO e0 F)) : Ct Tryz.prog 9 [msgV m s, .int .u16 (at_ : Int), .int .u8 (x.toNat : Int), .slice A mo.length cp] [] (msgQ m s ++ [Pers.row Kd.u8 A mo]) (fun u G Q => u = .bool true ∧ G = [] ∧ Q = []) := by
 have hx8 := x.toNat_lt
 have hz20 : e0 = 0 → 20 ≤ F.length := fun h => by obtain ⟨B, hB, rfl⟩ := hz h; rw [frameB_len]; omega
 refine Ct.intro Tryz.func9 rfl rfl rfl (fun c hc => ?_)
 refine GC.sr_ ?_; refine GL.step rfl (t_box rfl rfl rfl) (GL.ex fun b_t4 => ?_); refine GL.as_ rfl rfl ?_; refine GL.nl_ ?_; refine GC.seq' ?_; refine GC.sr_ ?_; refine GL.step rfl (t_call rfl fn_11 rfl (is := []) (js := []) rfl rfl (by exact awake_ct)) (GL.ret ?_)
 rintro _ _ _ ⟨rfl, rfl, rfl⟩
 refine GL.pure rfl (p_not rfl) ?_; refine GL.nl_ ?_; refine GC.cond_false rfl ?_
 refine GC.skip (?_ : GC _ _ _ _)
 refine GC.seq' ?_; refine GC.sr_ ?_; refine GL.step rfl (t_mem rfl (m_loadN (i := 0) rfl rfl ag_42 (vs := [_, _, _, _, _, _, _, _, _, _, _, _, _, _, _, _, _, _, _, _, _, _, _, _, _, _, _, _]) sz_42 ⟨rfl, rfl, rfl, rfl, rfl, rfl, rfl, rfl, rfl, rfl, rfl, rfl, rfl, rfl, rfl, rfl, rfl, rfl, rfl, rfl, rfl, rfl, rfl, rfl, rfl, rfl, rfl, rfl, trivial⟩)) ?_
 refine GL.step rfl (t_call rfl fn_10 rfl (is := []) (js := [0, 1, 2, 3, 4, 5, 6, 7]) rfl rfl (by exact small_ct m s hm)) (GL.ret ?_)
 rintro _ _ _ ⟨b21, hb21, rfl, rfl, rfl⟩
 refine GL.pure rfl (p_not rfl) ?_; refine GL.nl_ ?_; refine GC.cond rfl (fun h1 => ?_) (fun h1 => ?_)
 ·try simp only [tst_] at h1
  first
  | (exfalso; first | exact h1 rfl | exact h1 trivial | omega | (simp at h1; done))
  |(skip
    refine GC.sr_ ?_; refine GL.as_ rfl rfl ?_; refine GL.nl_ ?_; refine GC.ret ?_
    refine fun a w h => Fin.back (rs := [.tmp 8]) (vs := [_]) (is := []) (js := []) rfl ⟨rfl, trivial⟩ rfl rfl ?_ h
    clear h
    exact ⟨congrArg Value.bool (by simp_all), rfl, rfl⟩)
 ·try simp only [tst_] at h1
  first
  | (exfalso; first | exact h1 rfl | exact h1 trivial | omega | (simp at h1; done))
  |(skip
    refine GC.skip (?_ : GC _ _ _ _)
    refine GC.sr_ ?_; refine GL.step rfl (t_mem rfl (m_loadN (i := 0) rfl rfl ag_42 (vs := [_, _, _, _, _, _, _, _, _, _, _, _, _, _, _, _, _, _, _, _, _, _, _, _, _, _, _, _]) sz_42 ⟨rfl, rfl, rfl, rfl, rfl, rfl, rfl, rfl, rfl, rfl, rfl, rfl, rfl, rfl, rfl, rfl, rfl, rfl, rfl, rfl, rfl, rfl, rfl, rfl, rfl, rfl, rfl, rfl, trivial⟩)) ?_
    refine GL.step rfl (t_call rfl fn_16 rfl (is := []) (js := [0, 1, 2, 3, 4, 5, 6, 7]) rfl rfl (by exact hE (hb21 (by assumption)))) (GL.ret ?_)
    rintro _ _ _ ⟨A25, cp25, l25, k25, rfl, rfl, rfl⟩
    refine GL.mv_ rfl rfl ?_
    iterate 2 refine GL.pure rfl (p_extract rfl rfl) ?_
    iterate 2 refine GL.as_ rfl rfl ?_
    refine GL.nl_ ?_; refine GC.seq' ?_; refine GC.sr_ ?_; refine GL.mv_ rfl rfl ?_; refine GL.pure rfl (p_neq rfl rfl) ?_; refine GL.mv_ rfl rfl ?_; refine GL.split (i := 30) rfl (fun h2 => ?_) (fun h2 => ?_)
    ·try simp only [tst_] at h2
     first
     | (exfalso; first | exact h2 rfl | exact h2 trivial | omega | (simp at h2; done))
     |(skip
       iterate 3 refine GL.pass (s := 30) rfl rfl rfl ?_
       refine GL.pure rfl (p_pick_true rfl rfl) ?_; refine GL.nl_ ?_; refine GC.cond_true rfl ?_; refine GC.sr_ ?_; refine GL.mv_ rfl rfl ?_; refine GL.pure rfl (p_neq rfl rfl) ?_; refine GL.as_ rfl rfl ?_; refine GL.nl_ ?_
       refine GC.ret ?_
       refine fun a w h => Fin.back (rs := [.tmp 8]) (vs := [_]) (is := []) (js := []) rfl ⟨rfl, trivial⟩ rfl rfl ?_ h
       clear h
       exact ⟨congrArg Value.bool (decide_eq_true (by omega)), rfl, rfl⟩)
    ·try simp only [tst_] at h2
     first
     | (exfalso; first | exact h2 rfl | exact h2 trivial | omega | (simp at h2; done))
     |(skip
       refine GL.pureG (s := 30) rfl rfl rfl (p_move rfl) ?_; refine GL.pureG (s := 30) rfl rfl rfl (p_len Tryz.underlying25 rfl) ?_; refine GL.pureG (s := 30) rfl rfl rfl (p_eql rfl rfl) ?_; refine GL.pure rfl (p_pick_false rfl rfl) ?_
       refine GL.nl_ ?_; refine GC.cond rfl (fun h3 => ?_) (fun h3 => ?_)
       ·try simp only [tst_] at h3
        first
        | (exfalso; first | exact h3 rfl | exact h3 trivial | omega | (simp at h3; done))
        |(skip
          refine GC.sr_ ?_; refine GL.mv_ rfl rfl ?_; refine GL.pure rfl (p_neq rfl rfl) ?_; refine GL.as_ rfl rfl ?_; refine GL.nl_ ?_; refine GC.ret ?_
          refine fun a w h => Fin.back (rs := [.tmp 8]) (vs := [_]) (is := []) (js := []) rfl ⟨rfl, trivial⟩ rfl rfl ?_ h
          clear h
          exact ⟨congrArg Value.bool (decide_eq_true (by omega)), rfl, rfl⟩)
       ·try simp only [tst_] at h3
        first
        | (exfalso; first | exact h3 rfl | exact h3 trivial | omega | (simp at h3; done))
        |(skip
          refine GC.skip (?_ : GC _ _ _ _)
          refine GC.seq' ?_
          obtain ⟨B, hB, hF⟩ := hz (by omega)
          have hFl : F.length = B.length + 20 := by rw [hF, frameB_len]
          have hk : at_ % F.length < F.length := Nat.mod_lt _ (by omega)
          refine GC.unrow (i := 0) rfl (by omega) (fun _ _ => rfl) (fun b_en sp_en e_en n_en l_en k_en => ?_)
          subst e_en
          refine GC.region ?_; refine GL.mv_ rfl rfl ?_; refine GL.pure rfl (p_convR (t := 56) (r := (at_ : Int)) (by rw [Tryz.underlying56]; simp) Tryz.underlying3 rfl (cvI (by omega) (by omega))) ?_
          refine GL.mv_ rfl rfl ?_; refine GL.pure rfl (p_len Tryz.underlying25 rfl) ?_; refine GL.pure rfl (p_rem (r := ((at_ % F.length : Nat) : Int)) rfl rfl (by omega) (tmodN _ _)) ?_; refine GL.as_ rfl rfl ?_
          refine GL.nil (?_ : GC _ _ _ _)
          refine GC.sr_ ?_
          iterate 2 refine GL.mv_ rfl rfl ?_
          refine GL.pure rfl (p_cut_h rfl rfl Tryz.underlying25 sz_5 (by omega) (by omega) rfl rfl (slA_blk (by omega))) ?_; refine GL.step rfl (t_lend rfl fn_18 rfl (is := []) (ls := [0]) (js := []) rfl rfl rfl (lendS) (by exact wdec_bad' _ (seg F 0 (at_ % F.length)) _ _ (by rw [seg_length (by omega)]; omega) (by omega) (by omega) (by omega) (dz_cut hF hB hk)) (by rintro _ _ _ ⟨e46, he46, rfl, rfl, rfl⟩; rfl)) (GL.retL ?_)
          rintro _ _ ⟨e46, he46, rfl, rfl, _⟩
          refine GL.mv_ rfl rfl ?_
          iterate 2 refine GL.pure rfl (p_extract rfl rfl) ?_
          refine GL.step rfl (t_alloc rfl ze_42) (GL.ex fun b_t12 => ?_); refine GL.step rfl (t_storeN (i := 0) rfl rfl rfl sz_42 rfl rfl rfl) ?_; refine GL.as_ rfl rfl ?_; refine GL.nl_ ?_; refine GC.seq' ?_; refine GC.sr_ ?_
          refine GL.mv_ rfl rfl ?_; refine GL.pure rfl (p_eql rfl rfl) ?_; refine GL.nl_ ?_; refine GC.cond rfl (fun h4 => ?_) (fun h4 => ?_)
          ·try simp only [tst_] at h4
           first
           | (exfalso; first | exact h4 rfl | exact h4 trivial | omega | (simp at h4; done))
           |(skip
             refine GC.sr_ ?_; refine GL.as_ rfl rfl ?_; refine GL.nl_ ?_; refine GC.ret ?_
             refine fun a w h => Fin.back (rs := [.tmp 8]) (vs := [_]) (is := []) (js := []) rfl ⟨rfl, trivial⟩ rfl rfl ?_ h
             clear h
             exact ⟨congrArg Value.bool (by simp_all), rfl, rfl⟩)
          ·try simp only [tst_] at h4
           first
           | (exfalso; first | exact h4 rfl | exact h4 trivial | omega | (simp at h4; done))
           |(skip
             refine GC.skip (?_ : GC _ _ _ _)
             refine GC.seq' ?_; refine GC.sr_ ?_; refine GL.mv_ rfl rfl ?_; refine GL.pure rfl (p_len Tryz.underlying25 rfl) ?_; refine GL.pure rfl (p_gtr rfl rfl) ?_; refine GL.nl_ ?_; refine GC.cond rfl (fun h5 => ?_) (fun h5 => ?_)
             ·try simp only [tst_] at h5
              first
              | (exfalso; first | exact h5 rfl | exact h5 trivial | omega | (simp at h5; done))
              |(skip
                refine GC.sr_ ?_; refine GL.step rfl (t_buildSlice rfl Tryz.underlying25 sz_5 ze_5 rfl rfl rfl rfl rfl rfl) (GL.ex fun b_t55 => ?_); refine GL.mv_ rfl rfl ?_; refine GL.torow (i := 0) (m := 0) (sz := 1) rfl rfl (by decide) rfl ?_
                refine GL.step rfl (t_appendP (i := 0) (k := 2) rfl el_25 rfl rfl rfl rfl (by simp) (fun u hu => by obtain ⟨x, _, rfl⟩ := List.mem_map.1 hu; rfl) (by simp; omega) (fun _ => rfl)) (GL.ex fun v57 => ?_); refine GL.mv_ rfl rfl ?_
                refine GL.step rfl (t_appendSB (i := 0) (k := 8) rfl el_25 rfl rfl rfl rfl (by omega) (by omega) (by omega) (by omega) (fun _ => rfl)) (GL.ex fun v59 => ?_); refine GL.rowIs (i := 0) (m' := ((F ++ mo)).length) (cs' := ((F ++ mo)).map u8v) rfl (by first | (simp only [List.length_append, List.length_cons, List.length_nil, List.append_assoc]; done) | (simp only [List.length_append, List.length_cons, List.length_nil, List.append_assoc]; omega) | (simp; done) | (simp; omega) | rfl) (by first | (simp only [List.map_append, List.map_cons, List.map_nil, List.append_assoc]; done) | (simp; done) | rfl) rfl ?_
                refine GL.shape (i := 0) rfl (fun A_t55 c_t55 e_t55 l_t55 k_t55 => ?_)
                subst e_t55
                refine GL.freezeB (i := 0) rfl ?_; refine GL.step rfl (t_call rfl fn_18 rfl (is := []) (js := [0]) rfl rfl (by exact wdec_bad _ (F ++ mo) _ (by simp; omega) (by assumption) (by assumption) (dz_more hF hB (by omega)))) (GL.ret ?_)
                rintro _ _ _ ⟨e60, he60, rfl, rfl, rfl⟩
                refine GL.mv_ rfl rfl ?_
                iterate 2 refine GL.pure rfl (p_extract rfl rfl) ?_
                refine GL.step rfl (t_alloc rfl ze_42) (GL.ex fun b_t14 => ?_); refine GL.step rfl (t_storeN (i := 0) rfl rfl rfl sz_42 rfl rfl rfl) ?_; refine GL.as_ rfl rfl ?_; refine GL.nl_ ?_; refine GC.sr_ ?_; refine GL.mv_ rfl rfl ?_
                refine GL.pure rfl (p_eql rfl rfl) ?_; refine GL.nl_ ?_; refine GC.cond rfl (fun h6 => ?_) (fun h6 => ?_)
                ·try simp only [tst_] at h6
                 first
                 | (exfalso; first | exact h6 rfl | exact h6 trivial | omega | (simp at h6; done))
                 |(skip
                   refine GC.sr_ ?_; refine GL.as_ rfl rfl ?_; refine GL.nl_ ?_; refine GC.ret ?_
                   refine fun a w h => Fin.back (rs := [.tmp 8]) (vs := [_]) (is := []) (js := []) rfl ⟨rfl, trivial⟩ rfl rfl ?_ h
                   clear h
                   exact ⟨congrArg Value.bool (by simp_all), rfl, rfl⟩)
                ·try simp only [tst_] at h6
                 first
                 | (exfalso; first | exact h6 rfl | exact h6 trivial | omega | (simp at h6; done))
                 |(skip
                   refine GC.skip (?_ : GC _ _ _ _)
                   refine GC.seq' ?_; refine GC.sr_ ?_; refine GL.mv_ rfl rfl ?_; refine GL.pure rfl (p_eql rfl rfl) ?_; refine GL.nl_ ?_; refine GC.cond rfl (fun h7 => ?_) (fun h7 => ?_)
                   ·try simp only [tst_] at h7
                    first
                    | (exfalso; first | exact h7 rfl | exact h7 trivial | omega | (simp at h7; done))
                    |(skip
                      refine GC.sr_ ?_; refine GL.as_ rfl rfl ?_; refine GL.nl_ ?_; refine GC.ret ?_
                      refine fun a w h => Fin.back (rs := [.tmp 8]) (vs := [_]) (is := []) (js := []) rfl ⟨rfl, trivial⟩ rfl rfl ?_ h
                      clear h
                      exact ⟨congrArg Value.bool (by simp_all), rfl, rfl⟩)
                   ·try simp only [tst_] at h7
                    first
                    | (exfalso; first | exact h7 rfl | exact h7 trivial | omega | (simp at h7; done))
                    |(skip
                      refine GC.skip (?_ : GC _ _ _ _)
                      refine GC.sr_ ?_
                      iterate 4 refine GL.mv_ rfl rfl ?_
                      refine GL.pure rfl (p_indexB rfl rfl Tryz.underlying25 sz_5 (by omega) (by omega)) ?_; refine GL.step rfl (t_mem rfl (m_load (i := 2) rfl rfl ag_5 (nth_mapS _ (by omega) (by omega)))) ?_; refine GL.mv_ rfl rfl ?_
                      refine GL.pure rfl (p_xor8 rfl rfl) ?_; refine GL.pure rfl (p_indexB rfl rfl Tryz.underlying25 sz_5 (by omega) (by omega)) ?_; refine GL.step rfl (t_store (i := 2) rfl rfl rfl rfl sz_5 rfl (upd_mapS _ (by omega) (by omega)) rfl) ?_
                      refine GL.nl_ ?_; refine GC.sr_ ?_; refine GL.mv_ rfl rfl ?_; refine GL.step rfl (t_lend rfl fn_18 rfl (is := []) (ls := [2]) (js := []) rfl rfl rfl (lendS (h := F.length)) (by exact wdec_bad' _ (seg (F.set (at_ % F.length) (gt F ((at_ % F.length : Nat) : Int) ^^^ x)) 0 F.length) _ _ (by rw [seg_length (by rw [List.length_set]; omega)]; omega) (by omega) (by omega) (by omega) (by rw [seg_set]; exact dz_turn hF hB hk (fun e => by subst e; simp at *))) (by rintro _ _ _ ⟨e78, he78, rfl, rfl, rfl⟩; rfl)) (GL.retL ?_)
                      rintro _ _ ⟨e78, he78, rfl, rfl, _⟩
                      refine GL.mv_ rfl rfl ?_
                      iterate 2 refine GL.pure rfl (p_extract rfl rfl) ?_
                      refine GL.step rfl (t_alloc rfl ze_42) (GL.ex fun b_t16 => ?_); refine GL.step rfl (t_storeN (i := 0) rfl rfl rfl sz_42 rfl rfl rfl) ?_; refine GL.as_ rfl rfl ?_; refine GL.nl_ ?_; refine GC.sr_ ?_; refine GL.mv_ rfl rfl ?_
                      refine GL.pure rfl (p_neq rfl rfl) ?_; refine GL.as_ rfl rfl ?_; refine GL.nl_ ?_; refine GC.ret ?_
                      refine fun a w h => Fin.back (rs := [.tmp 8]) (vs := [_]) (is := []) (js := []) rfl ⟨rfl, trivial⟩ rfl rfl ?_ h
                      clear h
                      exact ⟨congrArg Value.bool (by simp_all), rfl, rfl⟩)))
             ·try simp only [tst_] at h5
              first
              | (exfalso; first | exact h5 rfl | exact h5 trivial | omega | (simp at h5; done))
              |(skip
                refine GC.skip (?_ : GC _ _ _ _)
                refine GC.seq' ?_; refine GC.sr_ ?_; refine GL.mv_ rfl rfl ?_; refine GL.pure rfl (p_eql rfl rfl) ?_; refine GL.nl_ ?_; refine GC.cond rfl (fun h8 => ?_) (fun h8 => ?_)
                ·try simp only [tst_] at h8
                 first
                 | (exfalso; first | exact h8 rfl | exact h8 trivial | omega | (simp at h8; done))
                 |(skip
                   refine GC.sr_ ?_; refine GL.as_ rfl rfl ?_; refine GL.nl_ ?_; refine GC.ret ?_
                   refine fun a w h => Fin.back (rs := [.tmp 8]) (vs := [_]) (is := []) (js := []) rfl ⟨rfl, trivial⟩ rfl rfl ?_ h
                   clear h
                   exact ⟨congrArg Value.bool (by simp_all), rfl, rfl⟩)
                ·try simp only [tst_] at h8
                 first
                 | (exfalso; first | exact h8 rfl | exact h8 trivial | omega | (simp at h8; done))
                 |(skip
                   refine GC.skip (?_ : GC _ _ _ _)
                   refine GC.sr_ ?_
                   iterate 4 refine GL.mv_ rfl rfl ?_
                   refine GL.pure rfl (p_indexB rfl rfl Tryz.underlying25 sz_5 (by omega) (by omega)) ?_; refine GL.step rfl (t_mem rfl (m_load (i := 1) rfl rfl ag_5 (nth_mapS _ (by omega) (by omega)))) ?_; refine GL.mv_ rfl rfl ?_
                   refine GL.pure rfl (p_xor8 rfl rfl) ?_; refine GL.pure rfl (p_indexB rfl rfl Tryz.underlying25 sz_5 (by omega) (by omega)) ?_; refine GL.step rfl (t_store (i := 1) rfl rfl rfl rfl sz_5 rfl (upd_mapS _ (by omega) (by omega)) rfl) ?_
                   refine GL.nl_ ?_; refine GC.sr_ ?_; refine GL.mv_ rfl rfl ?_; refine GL.step rfl (t_lend rfl fn_18 rfl (is := []) (ls := [1]) (js := []) rfl rfl rfl (lendS (h := F.length)) (by exact wdec_bad' _ (seg (F.set (at_ % F.length) (gt F ((at_ % F.length : Nat) : Int) ^^^ x)) 0 F.length) _ _ (by rw [seg_length (by rw [List.length_set]; omega)]; omega) (by omega) (by omega) (by omega) (by rw [seg_set]; exact dz_turn hF hB hk (fun e => by subst e; simp at *))) (by rintro _ _ _ ⟨e78, he78, rfl, rfl, rfl⟩; rfl)) (GL.retL ?_)
                   rintro _ _ ⟨e78, he78, rfl, rfl, _⟩
                   refine GL.mv_ rfl rfl ?_
                   iterate 2 refine GL.pure rfl (p_extract rfl rfl) ?_
                   refine GL.step rfl (t_alloc rfl ze_42) (GL.ex fun b_t16 => ?_); refine GL.step rfl (t_storeN (i := 0) rfl rfl rfl sz_42 rfl rfl rfl) ?_; refine GL.as_ rfl rfl ?_; refine GL.nl_ ?_; refine GC.sr_ ?_; refine GL.mv_ rfl rfl ?_
                   refine GL.pure rfl (p_neq rfl rfl) ?_; refine GL.as_ rfl rfl ?_; refine GL.nl_ ?_; refine GC.ret ?_
                   refine fun a w h => Fin.back (rs := [.tmp 8]) (vs := [_]) (is := []) (js := []) rfl ⟨rfl, trivial⟩ rfl rfl ?_ h
                   clear h
                   exact ⟨congrArg Value.bool (by simp_all), rfl, rfl⟩))))))
theorem wireSpoilt_ct (m : Msg) (s : Lie) (at_ : Nat) (x : UInt8) (A : Option Addr) (mo : List UInt8) (cp : Nat) (hm : MsgLen m) (hn : 0 ≤ m.nonce ∧ m.nonce < 18446744073709551616) (hat : at_ < 65536) (hmo : mo.length ≤ 140737488351232) (hcp : mo.length ≤ cp) (hcp' : cp ≤ 9223372036854775807) :
    Ct Tryz.prog 9 [msgV m s, .int .u16 (at_ : Int), .int .u8 (x.toNat : Int), .slice A mo.length cp] [] (msgQ m s ++ [Pers.row Kd.u8 A mo]) (fun u G Q => u = .bool true ∧ G = [] ∧ Q = []) :=
  wireSpoilt_in m s at_ x A mo cp hm hat hmo hcp hcp' (encFo m).1 (encFo m).2 (fun h => encFo_zero (e := (encFo m).1) (F := (encFo m).2) rfl h) (fun h => wenco_ct m s hm hn h)
end Go.Proofs.YtdhdmbmknpjhbaaGreat
