/- Texts of this claim, in one: what the law leans on (part 5). -/
import Derived.Test.YtdhdmbmknpjhbaaGreatN4
set_option linter.unusedVariables false
set_option linter.unusedSimpArgs false
set_option maxRecDepth 100000
namespace Go.Proofs.YtdhdmbmknpjhbaaGreat
open Go Go.Sx Go.Proofs
theorem mltext_ct (p e_ : Nat) (A : Option Addr) (b : List UInt8) (cp at_ : Nat) (hb : b.length ≤ cp) (hcp' : cp ≤ 9223372036854775807) (hb' : b.length ≤ 10000000000000) (hat : at_ ≤ b.length) : CtP Tryz.prog 171 [.pointer (some ⟨p, 0, none⟩)] (mleftG p e_ A b cp at_) [Pers.row Kd.u8 A b]
    (fun u G Q => ∃ x t A' c', mtxF b at_ = some (x, t) ∧ x.length ≤ c' ∧ c' ≤ 9223372036854775807 ∧ u = .slice A' x.length c' ∧ G = mleftG p e_ A b cp t ∧ Q = [Pers.row Kd.u8 A' x]) (fun v => mFault v ∧ mtxF b at_ = none) := by
 refine CtP.intro Tryz.func171 rfl rfl rfl (fun c hc => ?_)
 refine GC.sr_ ?_; refine GL.as_ rfl rfl ?_; refine GL.nl_ ?_; refine GC.seq' ?_; refine GC.regionC (m := 16) (is := [0]) (js := [0]) wide_ rfl rfl rfl ?_; refine GA.take 0 rfl (by kernel_rfl) (by kernel_rfl) (by kernel_rfl) rfl (fun a w h => h.mem (is := [0]) (js := [0]) rfl rfl) (i_pure (p_move rfl)) ?_
 refine GA.take 1 rfl (by kernel_rfl) (by kernel_rfl) (by kernel_rfl) rfl (fun a w h => h.mem (is := [0]) (js := [0]) rfl rfl) (i_pure (p_nilCheck rfl)) ?_; refine GA.take 2 rfl (by kernel_rfl) (by kernel_rfl) (by kernel_rfl) rfl (fun a w h => h.mem (is := [0]) (js := [0]) rfl rfl) (i_pure (p_fieldAddr fo_203_0 rfl)) ?_
 refine GA.take 3 rfl (by kernel_rfl) (by kernel_rfl) (by kernel_rfl) rfl (fun a w h => h.mem (is := [0]) (js := [0]) rfl rfl) (i_mem (m_load (i := 0) rfl rfl ag_25 rfl)) ?_; refine GA.take 4 rfl (by kernel_rfl) (by kernel_rfl) (by kernel_rfl) rfl (fun a w h => h.mem (is := [0]) (js := [0]) rfl rfl) (i_pure (p_move rfl)) ?_
 refine GA.take 5 rfl (by kernel_rfl) (by kernel_rfl) (by kernel_rfl) rfl (fun a w h => h.mem (is := [0]) (js := [0]) rfl rfl) (i_pure (p_nilCheck rfl)) ?_; refine GA.take 6 rfl (by kernel_rfl) (by kernel_rfl) (by kernel_rfl) rfl (fun a w h => h.mem (is := [0]) (js := [0]) rfl rfl) (i_pure (p_fieldAddr fo_203_1 rfl)) ?_
 refine GA.take 7 rfl (by kernel_rfl) (by kernel_rfl) (by kernel_rfl) rfl (fun a w h => h.mem (is := [0]) (js := [0]) rfl rfl) (i_mem (m_load (i := 0) rfl rfl ag_3 rfl)) ?_; refine GA.all (rs := [8]) (by kernel_rfl) (by simp) ?_
 refine GAs.cons (i := 8) rfl rfl (t_call rfl fn_169 rfl (is := []) (js := [0]) rfl rfl (by exact gettext_ct _ _ _ _ (by omega) (by omega) (by omega) (by omega))) (by rintro a w ⟨_, _, _, ⟨x15, n15, e15, A15, c15, hs15, l15, k15, rfl, rfl, rfl⟩, h⟩; exact h.mem (is := [0]) (js := [1]) rfl rfl) (GA.ret ?_) ?_
 ·rintro _ _ _ ⟨x15, n15, e15, A15, c15, hs15, l15, k15, rfl, rfl, rfl⟩
  refine GA.take 9 rfl (by kernel_rfl) (by kernel_rfl) (by kernel_rfl) rfl (fun a w h => h.mem (is := [0]) (js := [1]) rfl rfl) (i_pure (p_move rfl)) ?_; refine GA.take 10 rfl (by kernel_rfl) (by kernel_rfl) (by kernel_rfl) rfl (fun a w h => h.mem (is := [0]) (js := [1]) rfl rfl) (i_pure (p_extract rfl rfl)) ?_
  refine GA.take 11 rfl (by kernel_rfl) (by kernel_rfl) (by kernel_rfl) rfl (fun a w h => h.mem (is := [0]) (js := [1]) rfl rfl) (i_pure (p_extract rfl rfl)) ?_; refine GA.take 12 rfl (by kernel_rfl) (by kernel_rfl) (by kernel_rfl) rfl (fun a w h => h.mem (is := [0]) (js := [1]) rfl rfl) (i_pure (p_extract rfl rfl)) ?_
  refine GA.take 13 rfl (by kernel_rfl) (by kernel_rfl) (by kernel_rfl) rfl (fun a w h => h.mem (is := [0]) (js := [1]) rfl rfl) (i_pure (p_assign rfl)) ?_; refine GA.take 14 rfl (by kernel_rfl) (by kernel_rfl) (by kernel_rfl) rfl (fun a w h => h.mem (is := [0]) (js := [1]) rfl rfl) (i_pure (p_assign rfl)) ?_
  refine GA.take 15 rfl (by kernel_rfl) (by kernel_rfl) (by kernel_rfl) rfl (fun a w h => h.mem (is := [0]) (js := [1]) rfl rfl) (i_pure (p_assign rfl)) ?_
  refine GA.done (by kernel_rfl) (?_ : GC _ _ _ _)
  refine GC.seq' ?_; refine GC.sr_ ?_; refine GL.mv_ rfl rfl ?_; refine GL.pure rfl (p_neq rfl rfl) ?_; refine GL.mv_ rfl rfl ?_; refine GL.split (i := 21) rfl (fun h1 => ?_) (fun h1 => ?_)
  ·try simp only [tst_] at h1
   first
   | (exfalso; first | omega | (simp at h1; done))
   |(skip
     refine GL.pureG (s := 21) rfl rfl rfl (p_move rfl) ?_; refine GL.pureG (s := 21) rfl rfl rfl (p_neq rfl rfl) ?_; refine GL.pure rfl (p_pick_true rfl rfl) ?_; refine GL.nl_ ?_; refine GC.cond rfl (fun h2 => ?_) (fun h2 => ?_)
     ·try simp only [tst_] at h2
      first
      | (exfalso; first | omega | (simp at h2; done))
      |(skip
        refine GC.region ?_; refine GL.as_ rfl rfl ?_
        refine GL.nil (?_ : GC _ _ _ _)
        refine GC.sr_ ?_; refine GL.mv_ rfl rfl ?_; refine GL.callP rfl fn_159 rfl (is := []) (js := []) rfl rfl (by exact must_ct _) (fun v a w he h => FinP.panic ⟨⟨_, he⟩, by rw [mtxF, hs15]; exact if_neg (by omega)⟩ h) (GL.ret ?_)
        rintro _ _ _ ⟨he26, rfl, rfl, rfl⟩
        refine GL.nl_ ?_; refine GC.sr_ ?_
        iterate 2 refine GL.mv_ rfl rfl ?_
        refine GL.pure rfl (p_nilCheck rfl) ?_; refine GL.pure rfl (p_fieldAddr fo_203_1 rfl) ?_; refine GL.step rfl (t_store (i := 0) rfl rfl rfl rfl sz_3 rfl rfl rfl) ?_; refine GL.nl_ ?_; refine GC.sr_ ?_; refine GL.mv_ rfl rfl ?_
        refine GL.as_ rfl rfl ?_; refine GL.nl_ ?_; refine GC.ret ?_
        refine fun a w h => FinP.back (rs := [.tmp 2]) (vs := [_]) (is := [0]) (js := [0]) rfl ⟨rfl, trivial⟩ rfl rfl ?_ h
        clear h
        have e0 : e15 = 0 := by omega
        exact ⟨_, _, _, _, by rw [mtxF, hs15]; exact if_pos e0, l15, k15, rfl, rfl, rfl⟩)
     ·try simp only [tst_] at h2
      first
      | (exfalso; first | omega | (simp at h2; done))
      |(skip
        refine GC.skip (?_ : GC _ _ _ _)
        refine GC.sr_ ?_; refine GL.mv_ rfl rfl ?_; refine GL.callP rfl fn_159 rfl (is := []) (js := []) rfl rfl (by exact must_ct _) (fun v a w he h => FinP.panic ⟨⟨_, he⟩, by rw [mtxF, hs15]; exact if_neg (by omega)⟩ h) (GL.ret ?_)
        rintro _ _ _ ⟨he26, rfl, rfl, rfl⟩
        refine GL.nl_ ?_; refine GC.sr_ ?_
        iterate 2 refine GL.mv_ rfl rfl ?_
        refine GL.pure rfl (p_nilCheck rfl) ?_; refine GL.pure rfl (p_fieldAddr fo_203_1 rfl) ?_; refine GL.step rfl (t_store (i := 0) rfl rfl rfl rfl sz_3 rfl rfl rfl) ?_; refine GL.nl_ ?_; refine GC.sr_ ?_; refine GL.mv_ rfl rfl ?_
        refine GL.as_ rfl rfl ?_; refine GL.nl_ ?_; refine GC.ret ?_
        refine fun a w h => FinP.back (rs := [.tmp 2]) (vs := [_]) (is := [0]) (js := [0]) rfl ⟨rfl, trivial⟩ rfl rfl ?_ h
        clear h
        have e0 : e15 = 0 := by omega
        exact ⟨_, _, _, _, by rw [mtxF, hs15]; exact if_pos e0, l15, k15, rfl, rfl, rfl⟩))
  ·try simp only [tst_] at h1
   first
   | (exfalso; first | omega | (simp at h1; done))
   |(skip
     iterate 2 refine GL.pass (s := 21) rfl rfl rfl ?_
     refine GL.pure rfl (p_pick_false rfl rfl) ?_; refine GL.nl_ ?_; refine GC.cond_false rfl ?_
     refine GC.skip (?_ : GC _ _ _ _)
     refine GC.sr_ ?_; refine GL.mv_ rfl rfl ?_; refine GL.callP rfl fn_159 rfl (is := []) (js := []) rfl rfl (by exact must_ct _) (fun v a w he h => FinP.panic ⟨⟨_, he⟩, by rw [mtxF, hs15]; exact if_neg (by omega)⟩ h) (GL.ret ?_)
     rintro _ _ _ ⟨he26, rfl, rfl, rfl⟩
     refine GL.nl_ ?_; refine GC.sr_ ?_
     iterate 2 refine GL.mv_ rfl rfl ?_
     refine GL.pure rfl (p_nilCheck rfl) ?_; refine GL.pure rfl (p_fieldAddr fo_203_1 rfl) ?_; refine GL.step rfl (t_store (i := 0) rfl rfl rfl rfl sz_3 rfl rfl rfl) ?_; refine GL.nl_ ?_; refine GC.sr_ ?_; refine GL.mv_ rfl rfl ?_
     refine GL.as_ rfl rfl ?_; refine GL.nl_ ?_; refine GC.ret ?_
     refine fun a w h => FinP.back (rs := [.tmp 2]) (vs := [_]) (is := [0]) (js := [0]) rfl ⟨rfl, trivial⟩ rfl rfl ?_ h
     clear h
     have e0 : e15 = 0 := by omega
     exact ⟨_, _, _, _, by rw [mtxF, hs15]; exact if_pos e0, l15, k15, rfl, rfl, rfl⟩)
 exact GAs.nil
end Go.Proofs.YtdhdmbmknpjhbaaGreat
namespace Go.Proofs.YtdhdmbmknpjhbaaGreat
open Go Go.Sx Go.Proofs
def manyF {α σ : Type} (f : σ → Option (α × σ)) (t : σ) : Nat → Option (List α × σ)
  | 0 => some ([], t)
  | k + 1 => (manyF f t k).bind fun r => (f r.2).map fun x => (r.1 ++ [x.1], x.2)
theorem manyF_none {α σ : Type} {f : σ → Option (α × σ)} {t : σ} {k : Nat} (h : manyF f t k = none) : ∀ {m : Nat}, k ≤ m → manyF f t m = none := by
  intro m hm
  induction m with
  | zero => obtain rfl : k = 0 := by omega
            exact h
  | succ m ih =>
    by_cases he : k = m + 1
    · subst he; exact h
    · rw [manyF, ih (by omega)]; rfl
theorem manyF_next {α σ : Type} {f : σ → Option (α × σ)} {t u v : σ} {k : Nat} {xs : List α} {x : α} (h : manyF f t k = some (xs, u)) (hx : f u = some (x, v)) : manyF f t (k + 1) = some (xs ++ [x], v) := by
  rw [manyF, h]; simp [hx]
theorem manyF_fail {α σ : Type} {f : σ → Option (α × σ)} {t u : σ} {k m : Nat} {xs : List α} (h : manyF f t k = some (xs, u)) (hx : f u = none) (hm : k < m) : manyF f t m = none :=
  manyF_none (k := k + 1) (by rw [manyF, h]; simp [hx]) hm
theorem mnumF_pos {b : List UInt8} {at_ n : Nat} {v : Int} {t : Nat} (h : mnumF b at_ n = some (v, t)) (hn : n ≤ 7) : 0 ≤ v := by
  unfold mnumF at h
  split at h
  · rename_i hq
    obtain ⟨h1, h2⟩ := Prod.mk.inj (Option.some.inj h)
    have hv : valN (seg b at_ (at_ + n)) < 256 ^ n := valN_rng hq (by omega)
    have hp : 256 ^ n ≤ 256 ^ 7 := Nat.pow_le_pow_right (by decide) hn
    have h7 : (256 : Nat) ^ 7 = 72057594037927936 := by decide
    split at h1 <;> omega
  · cases h
def mgrpF (b : List UInt8) (at_ : Nat) : Option (Grp × Nat) :=
  (mnumF b at_ 8).bind fun e => (mnumF b e.2 1).bind fun c => (manyF (fun t => mnumF b t 1) c.2 c.1.toNat).map fun r => (⟨e.1, r.1⟩, r.2)
theorem mgrp_ct (p e_ : Nat) (A : Option Addr) (b : List UInt8) (cp at_ : Nat) (hb : b.length ≤ cp) (hb' : b.length ≤ 10000000000000) (hat : at_ ≤ b.length) : CtP Tryz.prog 160 [.pointer (some ⟨p, 0, none⟩)] (mleftG p e_ A b cp at_) [Pers.row Kd.u8 A b]
    (fun u G Q => ∃ (g : Grp) (t : Nat) (A' : Option Addr) (c' : Nat), mgrpF b at_ = some (g, t) ∧ (t ≤ b.length ∧ g.members.length ≤ 255) ∧ g.members.length ≤ c' ∧ c' ≤ 9223372036854775807 ∧ u = .agg #[.int .i64 g.epoch, .slice A' g.members.length c'] ∧ G = mleftG p e_ A b cp t ∧ Q = [Pers.row kI A' g.members]) (fun v => mFault v ∧ mgrpF b at_ = none) := by
 have hp1 : (256 : Nat) ^ 1 = 256 := p256_1
 refine CtP.intro Tryz.func160 rfl rfl rfl (fun c hc => ?_)
 refine GC.sr_ ?_; refine GL.step rfl (t_alloc rfl ze_33) (GL.ex fun b_t2 => ?_); refine GL.nl_ ?_; refine GC.sr_ ?_; refine GL.mv_ rfl rfl ?_; refine GL.pure rfl (p_nilCheck rfl) ?_; refine GL.pure rfl (p_fieldAddr fo_205_0 rfl) ?_
 refine GL.callP rfl fn_158 rfl (is := [1]) (js := [0]) rfl rfl (by exact (mlnum_ct _ _ _ b _ at_ 8 (by omega) (by omega) (by omega) (by omega) (by omega)).mono (fun _ _ _ h => h) (fun _ h => ⟨h.1, by simp only [mgrpF, h.2, Option.bind_none]⟩)) (fun v a w he h => FinP.panic he h) (GL.ret ?_)
 rintro _ _ _ ⟨v7, t7, hs7, rfl, rfl, rfl⟩
 obtain ⟨ht7, hu7, hv7, hw7, hx7⟩ := mnumF_rng hs7
 refine GL.pure rfl (p_build ze_33 of_33 rfl rfl) ?_; refine GL.step rfl (t_alloc rfl ze_33) (GL.ex fun b_t3 => ?_); refine GL.step rfl (t_storeN (i := 0) rfl rfl rfl sz_33 rfl rfl rfl) ?_; refine GL.nl_ ?_; refine GC.seq' ?_
 refine GC.sr_ ?_; refine GL.mv_ rfl rfl ?_; refine GL.pure rfl (p_nilCheck rfl) ?_; refine GL.pure rfl (p_fieldAddr fo_205_0 rfl) ?_; refine GL.callP rfl fn_158 rfl (is := [1]) (js := [0]) rfl rfl (by exact (mlnum_ct _ _ _ b _ t7 1 (by omega) (by omega) (by omega) (by omega) (by omega)).mono (fun _ _ _ h => h) (fun _ h => ⟨h.1, by simp only [mgrpF, hs7, Option.bind_some, h.2, Option.bind_none]⟩)) (fun v a w he h => FinP.panic he h) (GL.ret ?_)
 rintro _ _ _ ⟨v12, t12, hs12, rfl, rfl, rfl⟩
 obtain ⟨ht12, hu12, hv12, hw12, hx12⟩ := mnumF_rng hs12
 have hpos := mnumF_pos hs12 (by omega)
 refine GL.nilrow 3 1 ?_; refine GL.mv_ rfl rfl ?_; refine GL.nl_ ?_; refine GC.block ?_; refine GC.loopK4 (ks := [0, 2, 3, 12]) (is := [3]) (js := [0]) (fun (k : Nat) (xs : List Int) (U : Value) (t : Nat) => (xs.length = k ∧ t ≤ b.length) ∧ (k : Int) ≤ v12 ∧ manyF (fun t => mnumF b t 1) t12 k = some (xs, t)) (fun (k : Nat) (xs : List Int) (U : Value) (t : Nat) => [(13, .int .i64 (k : Int))]) (fun (k : Nat) (xs : List Int) (U : Value) (t : Nat) => [.cells p [.slice A b.length cp, .int .i64 (t : Int)] e_, .cells b_t3 [.int .i64 v7, U] 33, .row U 3 1 xs.length (xs.map (Value.int .i64))]) (fun (k : Nat) (xs : List Int) (U : Value) (t : Nat) => []) (fun (k : Nat) (xs : List Int) (U : Value) (t : Nat) => v12.toNat - k) (0) ([]) (_) (t12) rfl rfl rfl (fun a w h => ⟨⟨⟨rfl, by omega⟩, by omega, rfl⟩, h.cutK (is := [1, 1, 0, 0]) (js := [0]) (ks := [0, 2, 3, 12]) ⟨rfl, trivial⟩ rfl rfl rfl⟩) ?_
 intro k xs U t hk
 try dsimp only [List.cons_append, List.nil_append] at hk ⊢
 refine GC.sr_ ?_; refine GL.pure rfl (p_lss rfl rfl) ?_; refine GL.nl_ ?_; refine GC.seq' ?_; refine GC.cond rfl (fun h1 => ?_) (fun h1 => ?_)
 ·try simp only [tst_] at h1
  refine GC.skip (?_ : GC _ _ _ _)
  refine GC.seq' ?_; refine GC.block ?_; refine GC.regionX (m := 10) (is := [3]) (js := [0]) wide_ rfl rfl rfl (fun _ _ _ hd hp hD => ⟨hd.trans hD, .inr hp⟩) ?_
  refine GX.take 0 rfl (by kernel_rfl) (by kernel_rfl) (by kernel_rfl) rfl (fun a w h => h.mem (is := [3]) (js := [0]) rfl rfl) (i_pure (p_fieldAddr fo_33_1 rfl)) ?_
  refine GX.take 2 rfl (by kernel_rfl) (by kernel_rfl) (by kernel_rfl) rfl (fun a w h => h.mem (is := [3]) (js := [0]) rfl rfl) (i_pure (p_move rfl)) ?_
  refine GX.take 3 rfl (by kernel_rfl) (by kernel_rfl) (by kernel_rfl) rfl (fun a w h => h.mem (is := [3]) (js := [0]) rfl rfl) (i_pure (p_nilCheck rfl)) ?_
  refine GX.take 4 rfl (by kernel_rfl) (by kernel_rfl) (by kernel_rfl) rfl (fun a w h => h.mem (is := [3]) (js := [0]) rfl rfl) (i_pure (p_fieldAddr fo_205_0 rfl)) ?_
  refine GX.all (rs := [1, 5]) (by kernel_rfl) (by simp) ?_
  refine GXs.cons (i := 1) rfl rfl (t_mem rfl (m_load (i := 1) rfl rfl ag_31 rfl)) (by rintro a w h; exact h.mem (is := [3]) (js := [0]) rfl rfl) ?_ ?_
  ·refine GX.all (rs := [5]) (by kernel_rfl) (by simp) ?_
   refine GXs.consP (i := 5) rfl rfl fn_158 rfl (is := [0]) (js := [0]) rfl rfl (by exact (mlnum_ct _ _ _ b _ t 1 (by omega) (by omega) (by omega) (by omega) (by omega)).mono (fun _ _ _ h => h) (fun _ h => ⟨h.1, by simp only [mgrpF, hs7, hs12, Option.bind_some]; rw [manyF_fail hk.2.2 h.2 (by omega)]; rfl⟩)) (by rintro a w ⟨_, _, _, ⟨v20, t20, hs20, rfl, rfl, rfl⟩, h⟩; exact h.mem (is := [3]) (js := [0]) rfl rfl) (GX.ret ?_) ?_
   ·rintro _ _ _ ⟨v20, t20, hs20, rfl, rfl, rfl⟩
    obtain ⟨ht20, hu20, hv20, hw20, hx20⟩ := mnumF_rng hs20
    refine GX.all (rs := [6]) (by kernel_rfl) (by simp) ?_
    refine GXs.cons (i := 6) rfl rfl (t_buildSlice rfl Tryz.underlying31 sz_3 ze_3 rfl rfl rfl rfl rfl rfl) (by rintro a w ⟨_, h⟩; exact h.mem (is := [4]) (js := [0]) rfl rfl) (GX.ex fun b_t21 => ?_) ?_
    ·refine GX.all (rs := [7]) (by kernel_rfl) (by simp) ?_
     refine GXs.cons (i := 7) rfl rfl (t_append (i := 3) (k := 0) rfl el_31 rfl rfl rfl rfl rfl (allOne_mem rfl) (by have := hk.1.1; omega) (fun _ => rfl)) (by rintro a w ⟨_, h⟩; exact h.mem (is := [4]) (js := [0]) rfl rfl) (GX.ex fun v22 => ?_) ?_
     ·refine GX.shape (i := 3) rfl (fun A_v22 c_v22 e_v22 l_v22 k_v22 => ?_)
      subst e_v22
      refine GX.take 8 rfl (by kernel_rfl) (by kernel_rfl) (by kernel_rfl) rfl (fun a w h => h.mem (is := [4]) (js := [0]) rfl rfl) (i_pure (p_fieldAddr fo_33_1 rfl)) ?_
      refine GX.all (rs := [9]) (by kernel_rfl) (by simp) ?_
      refine GXs.cons (i := 9) rfl rfl (t_store (i := 2) rfl rfl rfl rfl sz_31 rfl rfl rfl) (by rintro a w h; exact h.mem (is := [4]) (js := [0]) rfl rfl) ?_ ?_
      ·refine GX.done (by kernel_rfl) (?_ : GC _ _ _ _)
       refine GC.region ?_; refine GL.rowIs (i := 3) (m' := ((xs ++ [v20])).length) (cs' := ((xs ++ [v20])).map (Value.int .i64)) rfl (by first | rfl | (simp; done) | (simp; omega)) (by first | rfl | (simp; done)) rfl ?_
       refine GL.pure rfl (p_add rfl rfl (w64 (by omega) (by omega))) ?_; refine GL.mv_ rfl rfl ?_; refine GL.nil ?_
       exact fun a w h => ⟨(k + 1), (xs ++ [v20]), (_), (_), (by omega), ⟨⟨by simp; omega, by omega⟩, by omega, manyF_next hk.2.2 hs20⟩, h.cut (is := [1, 1, 1, 1]) (js := [0]) ⟨rfl, rfl, rfl, rfl, rfl, trivial⟩ rfl rfl⟩
      exact GXs.nil
     exact GXs.nil
    exact GXs.nil
   exact GXs.nil
  refine GXs.consP (i := 5) rfl rfl fn_158 rfl (is := [0]) (js := [0]) rfl rfl (by exact (mlnum_ct _ _ _ b _ t 1 (by omega) (by omega) (by omega) (by omega) (by omega)).mono (fun _ _ _ h => h) (fun _ h => ⟨h.1, by simp only [mgrpF, hs7, hs12, Option.bind_some]; rw [manyF_fail hk.2.2 h.2 (by omega)]; rfl⟩)) (by rintro a w ⟨_, _, _, ⟨v20, t20, hs20, rfl, rfl, rfl⟩, h⟩; exact h.mem (is := [3]) (js := [0]) rfl rfl) (GX.ret ?_) ?_
  ·rintro _ _ _ ⟨v20, t20, hs20, rfl, rfl, rfl⟩
   obtain ⟨ht20, hu20, hv20, hw20, hx20⟩ := mnumF_rng hs20
   refine GX.all (rs := [1, 6]) (by kernel_rfl) (by simp) ?_
   refine GXs.cons (i := 1) rfl rfl (t_mem rfl (m_load (i := 1) rfl rfl ag_31 rfl)) (by rintro a w h; exact h.mem (is := [3]) (js := [0]) rfl rfl) ?_ ?_
   ·refine GX.all (rs := [6]) (by kernel_rfl) (by simp) ?_
    refine GXs.cons (i := 6) rfl rfl (t_buildSlice rfl Tryz.underlying31 sz_3 ze_3 rfl rfl rfl rfl rfl rfl) (by rintro a w ⟨_, h⟩; exact h.mem (is := [4]) (js := [0]) rfl rfl) (GX.ex fun b_t21 => ?_) ?_
    ·refine GX.all (rs := [7]) (by kernel_rfl) (by simp) ?_
     refine GXs.cons (i := 7) rfl rfl (t_append (i := 3) (k := 0) rfl el_31 rfl rfl rfl rfl rfl (allOne_mem rfl) (by have := hk.1.1; omega) (fun _ => rfl)) (by rintro a w ⟨_, h⟩; exact h.mem (is := [4]) (js := [0]) rfl rfl) (GX.ex fun v22 => ?_) ?_
     ·refine GX.shape (i := 3) rfl (fun A_v22 c_v22 e_v22 l_v22 k_v22 => ?_)
      subst e_v22
      refine GX.take 8 rfl (by kernel_rfl) (by kernel_rfl) (by kernel_rfl) rfl (fun a w h => h.mem (is := [4]) (js := [0]) rfl rfl) (i_pure (p_fieldAddr fo_33_1 rfl)) ?_
      refine GX.all (rs := [9]) (by kernel_rfl) (by simp) ?_
      refine GXs.cons (i := 9) rfl rfl (t_store (i := 2) rfl rfl rfl rfl sz_31 rfl rfl rfl) (by rintro a w h; exact h.mem (is := [4]) (js := [0]) rfl rfl) ?_ ?_
      ·refine GX.done (by kernel_rfl) (?_ : GC _ _ _ _)
       refine GC.region ?_; refine GL.rowIs (i := 3) (m' := ((xs ++ [v20])).length) (cs' := ((xs ++ [v20])).map (Value.int .i64)) rfl (by first | rfl | (simp; done) | (simp; omega)) (by first | rfl | (simp; done)) rfl ?_
       refine GL.pure rfl (p_add rfl rfl (w64 (by omega) (by omega))) ?_; refine GL.mv_ rfl rfl ?_; refine GL.nil ?_
       exact fun a w h => ⟨(k + 1), (xs ++ [v20]), (_), (_), (by omega), ⟨⟨by simp; omega, by omega⟩, by omega, manyF_next hk.2.2 hs20⟩, h.cut (is := [1, 1, 1, 1]) (js := [0]) ⟨rfl, rfl, rfl, rfl, rfl, trivial⟩ rfl rfl⟩
      exact GXs.nil
     exact GXs.nil
    exact GXs.nil
   refine GXs.cons (i := 6) rfl rfl (t_buildSlice rfl Tryz.underlying31 sz_3 ze_3 rfl rfl rfl rfl rfl rfl) (by rintro a w ⟨_, h⟩; exact h.mem (is := [4]) (js := [0]) rfl rfl) (GX.ex fun b_t21 => ?_) ?_
   ·refine GX.all (rs := [1]) (by kernel_rfl) (by simp) ?_
    refine GXs.cons (i := 1) rfl rfl (t_mem rfl (m_load (i := 2) rfl rfl ag_31 rfl)) (by rintro a w h; exact h.mem (is := [4]) (js := [0]) rfl rfl) ?_ ?_
    ·refine GX.all (rs := [7]) (by kernel_rfl) (by simp) ?_
     refine GXs.cons (i := 7) rfl rfl (t_append (i := 3) (k := 0) rfl el_31 rfl rfl rfl rfl rfl (allOne_mem rfl) (by have := hk.1.1; omega) (fun _ => rfl)) (by rintro a w ⟨_, h⟩; exact h.mem (is := [4]) (js := [0]) rfl rfl) (GX.ex fun v22 => ?_) ?_
     ·refine GX.shape (i := 3) rfl (fun A_v22 c_v22 e_v22 l_v22 k_v22 => ?_)
      subst e_v22
      refine GX.take 8 rfl (by kernel_rfl) (by kernel_rfl) (by kernel_rfl) rfl (fun a w h => h.mem (is := [4]) (js := [0]) rfl rfl) (i_pure (p_fieldAddr fo_33_1 rfl)) ?_
      refine GX.all (rs := [9]) (by kernel_rfl) (by simp) ?_
      refine GXs.cons (i := 9) rfl rfl (t_store (i := 2) rfl rfl rfl rfl sz_31 rfl rfl rfl) (by rintro a w h; exact h.mem (is := [4]) (js := [0]) rfl rfl) ?_ ?_
      ·refine GX.done (by kernel_rfl) (?_ : GC _ _ _ _)
       refine GC.region ?_; refine GL.rowIs (i := 3) (m' := ((xs ++ [v20])).length) (cs' := ((xs ++ [v20])).map (Value.int .i64)) rfl (by first | rfl | (simp; done) | (simp; omega)) (by first | rfl | (simp; done)) rfl ?_
       refine GL.pure rfl (p_add rfl rfl (w64 (by omega) (by omega))) ?_; refine GL.mv_ rfl rfl ?_; refine GL.nil ?_
       exact fun a w h => ⟨(k + 1), (xs ++ [v20]), (_), (_), (by omega), ⟨⟨by simp; omega, by omega⟩, by omega, manyF_next hk.2.2 hs20⟩, h.cut (is := [1, 1, 1, 1]) (js := [0]) ⟨rfl, rfl, rfl, rfl, rfl, trivial⟩ rfl rfl⟩
      exact GXs.nil
     exact GXs.nil
    exact GXs.nil
   exact GXs.nil
  exact GXs.nil
 ·try simp only [tst_] at h1
  refine GC.exit (?_ : GC _ _ _ _)
  refine GC.sr_ ?_; refine GL.shape (i := 2) rfl (fun A_M c_M e_M l_M k_M => ?_)
  subst e_M
  refine GL.freezeI (i := 2) rfl ?_; refine GL.step rfl (t_mem rfl (m_loadN (i := 1) rfl rfl ag_33 (vs := [_, _]) sz_33 ⟨rfl, rfl, trivial⟩)) ?_; refine GL.step rfl (t_storeN (i := 2) rfl rfl rfl sz_33 rfl rfl rfl) ?_; refine GL.nl_ ?_
  refine GC.ret ?_
  refine fun a w h => FinP.back (rs := [.cell 2 33]) (vs := [_]) (is := [0]) (js := [0]) rfl ⟨⟨2, _, _, _, _, rfl, rfl, .inr ⟨[_, _], rfl, ag_33, sz_33, ⟨rfl, rfl, trivial⟩⟩⟩, trivial⟩ rfl rfl ?_ h
  clear h
  exact ⟨⟨v7, xs⟩, _, _, _, by simp only [mgrpF, hs7, hs12, Option.bind_some]; rw [show v12.toNat = k by omega, hk.2.2]; rfl, ⟨hk.1.2, by have := hk.1.1; show xs.length ≤ 255; omega⟩, l_M, k_M, rfl, rfl, rfl⟩
end Go.Proofs.YtdhdmbmknpjhbaaGreat
namespace Go.Proofs.YtdhdmbmknpjhbaaGreat
open Go Go.Sx Go.Proofs
def mentB (b : List UInt8) (k n v c s : Int) (t : Nat) : Option (Entry × Nat) :=
  if k = 1 then (decOp (seg b t b.length)).map fun o => (⟨k, n, v, c, s, o.1, zgr⟩, t + o.2)
  else if k = 2 then (mgrpF b t).map fun g => (⟨k, n, v, c, s, zop, g.1⟩, g.2)
  else some (⟨k, n, v, c, s, zop, zgr⟩, t)
def mentC (r : Entry × Nat) : Option (Entry × Nat) := if entE r.1 = 0 then some r else none
def mentF (b : List UInt8) (at_ : Nat) : Option (Entry × Nat) :=
  (mnumF b at_ 1).bind fun k => (mnumF b k.2 8).bind fun n => (mnumF b n.2 8).bind fun v => (mnumF b v.2 8).bind fun c => (mnumF b c.2 8).bind fun s => (mentB b k.1 n.1 v.1 c.1 s.1 s.2).bind mentC
theorem seg_to {b : List UInt8} {t : Nat} (h : t ≤ b.length) : (seg b t b.length).length = b.length - t := seg_length (Nat.le_refl _)
abbrev EntR (e : Entry) (u : Value) (Q : List Pers) : Prop := ∃ A cp B cq C cr, e.op.data.length ≤ cp ∧ cp ≤ 9223372036854775807 ∧ e.op.old.length ≤ cq ∧ cq ≤ 9223372036854775807 ∧ e.grp.members.length ≤ cr ∧ cr ≤ 9223372036854775807 ∧ u = entV e A cp B cq C cr ∧ Q = entQ e A B C
theorem mentr_ct (p e_ : Nat) (A : Option Addr) (b : List UInt8) (cp at_ : Nat) (hb : b.length ≤ cp) (hcp' : cp ≤ 9223372036854775807) (hb' : b.length ≤ 10000000000000) (hat : at_ ≤ b.length) : CtP Tryz.prog 135 [.pointer (some ⟨p, 0, none⟩)] (mleftG p e_ A b cp at_) [Pers.row Kd.u8 A b]
    (fun u G Q => ∃ (e : Entry) (t : Nat), mentF b at_ = some (e, t) ∧ t ≤ b.length ∧ EntR e u Q ∧ G = mleftG p e_ A b cp t) (fun v => mFault v ∧ mentF b at_ = none) := by
 have hp1 : (256 : Nat) ^ 1 = 256 := p256_1
 refine CtP.intro Tryz.func135 rfl rfl rfl (fun c hc => ?_)
 refine GC.sr_ ?_; refine GL.step rfl (t_alloc rfl ze_64) (GL.ex fun b_t2 => ?_); refine GL.nl_ ?_; refine GC.seq' ?_; refine GC.regionXM (m := 24) (M := fun a w => ∃ v10 : Int, ∃ t10 : Nat, ∃ v15 : Int, ∃ t15 : Nat, ∃ v19 : Int, ∃ t19 : Nat, ∃ v23 : Int, ∃ t23 : Nat, ∃ v27 : Int, ∃ t27 : Nat, ∃ b_t3 : Nat, (mnumF b at_ 1 = some (v10, t10) ∧ mnumF b t10 8 = some (v15, t15) ∧ mnumF b t15 8 = some (v19, t19) ∧ mnumF b t19 8 = some (v23, t23) ∧ mnumF b t23 8 = some (v27, t27)) ∧ St c 74 [(0, .pointer (some ⟨p, 0, none⟩)), (2, .pointer (some ⟨b_t2, 0, none⟩)), (3, .pointer (some ⟨b_t3, 0, none⟩))] [.cells p [.slice A b.length cp, .int .i64 (t27 : Int)] e_, .cells b_t3 [.int .u8 v10, .int .i64 v15, .int .i64 v19, .int .i64 v23, .int .i64 v27, .int .u8 0, .int .i64 0, .int .i64 0, .slice none 0 0, .slice none 0 0, .int .i64 0, .slice none 0 0] 64, .cells b_t2 [.int .u8 0, .int .i64 0, .int .i64 0, .int .i64 0, .int .i64 0, .int .u8 0, .int .i64 0, .int .i64 0, .slice none 0 0, .slice none 0 0, .int .i64 0, .slice none 0 0] 64] [Pers.row Kd.u8 A b] a w) (is := [0]) (js := [0]) wide_ rfl rfl rfl (fun _ _ _ hd hp hD => ⟨hd.trans hD, .inr hp⟩) ?_ ?_
 ·refine GX.take 0 rfl (by kernel_rfl) (by kernel_rfl) (by kernel_rfl) rfl (fun a w h => h.mem (is := [0]) (js := [0]) rfl rfl) (i_pure (p_move rfl)) ?_
  refine GX.take 1 rfl (by kernel_rfl) (by kernel_rfl) (by kernel_rfl) rfl (fun a w h => h.mem (is := [0]) (js := [0]) rfl rfl) (i_pure (p_nilCheck rfl)) ?_
  refine GX.take 2 rfl (by kernel_rfl) (by kernel_rfl) (by kernel_rfl) rfl (fun a w h => h.mem (is := [0]) (js := [0]) rfl rfl) (i_pure (p_fieldAddr fo_205_0 rfl)) ?_
  refine GX.take 5 rfl (by kernel_rfl) (by kernel_rfl) (by kernel_rfl) rfl (fun a w h => h.mem (is := [0]) (js := [0]) rfl rfl) (i_pure (p_move rfl)) ?_
  refine GX.take 6 rfl (by kernel_rfl) (by kernel_rfl) (by kernel_rfl) rfl (fun a w h => h.mem (is := [0]) (js := [0]) rfl rfl) (i_pure (p_nilCheck rfl)) ?_
  refine GX.take 7 rfl (by kernel_rfl) (by kernel_rfl) (by kernel_rfl) rfl (fun a w h => h.mem (is := [0]) (js := [0]) rfl rfl) (i_pure (p_fieldAddr fo_205_0 rfl)) ?_
  refine GX.take 9 rfl (by kernel_rfl) (by kernel_rfl) (by kernel_rfl) rfl (fun a w h => h.mem (is := [0]) (js := [0]) rfl rfl) (i_pure (p_move rfl)) ?_
  refine GX.take 10 rfl (by kernel_rfl) (by kernel_rfl) (by kernel_rfl) rfl (fun a w h => h.mem (is := [0]) (js := [0]) rfl rfl) (i_pure (p_nilCheck rfl)) ?_
  refine GX.take 11 rfl (by kernel_rfl) (by kernel_rfl) (by kernel_rfl) rfl (fun a w h => h.mem (is := [0]) (js := [0]) rfl rfl) (i_pure (p_fieldAddr fo_205_0 rfl)) ?_
  refine GX.take 13 rfl (by kernel_rfl) (by kernel_rfl) (by kernel_rfl) rfl (fun a w h => h.mem (is := [0]) (js := [0]) rfl rfl) (i_pure (p_move rfl)) ?_
  refine GX.take 14 rfl (by kernel_rfl) (by kernel_rfl) (by kernel_rfl) rfl (fun a w h => h.mem (is := [0]) (js := [0]) rfl rfl) (i_pure (p_nilCheck rfl)) ?_
  refine GX.take 15 rfl (by kernel_rfl) (by kernel_rfl) (by kernel_rfl) rfl (fun a w h => h.mem (is := [0]) (js := [0]) rfl rfl) (i_pure (p_fieldAddr fo_205_0 rfl)) ?_
  refine GX.take 17 rfl (by kernel_rfl) (by kernel_rfl) (by kernel_rfl) rfl (fun a w h => h.mem (is := [0]) (js := [0]) rfl rfl) (i_pure (p_move rfl)) ?_
  refine GX.take 18 rfl (by kernel_rfl) (by kernel_rfl) (by kernel_rfl) rfl (fun a w h => h.mem (is := [0]) (js := [0]) rfl rfl) (i_pure (p_nilCheck rfl)) ?_
  refine GX.take 19 rfl (by kernel_rfl) (by kernel_rfl) (by kernel_rfl) rfl (fun a w h => h.mem (is := [0]) (js := [0]) rfl rfl) (i_pure (p_fieldAddr fo_205_0 rfl)) ?_
  refine GX.all (rs := [3, 22]) (by kernel_rfl) (by simp) ?_
  refine GXs.consP (i := 3) rfl rfl fn_158 rfl (is := [1]) (js := [0]) rfl rfl (by exact (mlnum_ct _ _ _ b _ at_ 1 (by omega) (by omega) (by omega) (by omega) (by omega)).mono (fun _ _ _ h => h) (fun _ h => ⟨h.1, by simp only [mentF, h.2, Option.bind_none]⟩)) (by rintro a w ⟨_, _, _, ⟨v10, t10, hs10, rfl, rfl, rfl⟩, h⟩; exact h.mem (is := [1]) (js := [0]) rfl rfl) (GX.ret ?_) ?_
  ·rintro _ _ _ ⟨v10, t10, hs10, rfl, rfl, rfl⟩
   obtain ⟨ht10, hu10, hv10, hw10, hx10⟩ := mnumF_rng hs10
   refine GX.take 4 rfl (by kernel_rfl) (by kernel_rfl) (by kernel_rfl) rfl (fun a w h => h.mem (is := [1]) (js := [0]) rfl rfl) (i_pure (p_convR (t := 3) (r := v10) (by rw [Tryz.underlying3]; simp) Tryz.underlying62 rfl (by have := mnumF_pos hs10 (by omega); simp [IntKind.wrap, IntKind.bits, IntKind.signed]; omega))) ?_
   refine GX.all (rs := [8, 22]) (by kernel_rfl) (by simp) ?_
   refine GXs.consP (i := 8) rfl rfl fn_158 rfl (is := [0]) (js := [0]) rfl rfl (by exact (mlnum_ct _ _ _ b _ t10 8 (by omega) (by omega) (by omega) (by omega) (by omega)).mono (fun _ _ _ h => h) (fun _ h => ⟨h.1, by simp only [mentF, hs10, Option.bind_some, h.2, Option.bind_none]⟩)) (by rintro a w ⟨_, _, _, ⟨v15, t15, hs15, rfl, rfl, rfl⟩, h⟩; exact h.mem (is := [1]) (js := [0]) rfl rfl) (GX.ret ?_) ?_
   ·rintro _ _ _ ⟨v15, t15, hs15, rfl, rfl, rfl⟩
    obtain ⟨ht15, hu15, hv15, hw15, hx15⟩ := mnumF_rng hs15
    refine GX.all (rs := [12, 22]) (by kernel_rfl) (by simp) ?_
    refine GXs.consP (i := 12) rfl rfl fn_158 rfl (is := [0]) (js := [0]) rfl rfl (by exact (mlnum_ct _ _ _ b _ t15 8 (by omega) (by omega) (by omega) (by omega) (by omega)).mono (fun _ _ _ h => h) (fun _ h => ⟨h.1, by simp only [mentF, hs10, hs15, Option.bind_some, h.2, Option.bind_none]⟩)) (by rintro a w ⟨_, _, _, ⟨v19, t19, hs19, rfl, rfl, rfl⟩, h⟩; exact h.mem (is := [1]) (js := [0]) rfl rfl) (GX.ret ?_) ?_
    ·rintro _ _ _ ⟨v19, t19, hs19, rfl, rfl, rfl⟩
     obtain ⟨ht19, hu19, hv19, hw19, hx19⟩ := mnumF_rng hs19
     refine GX.all (rs := [16, 22]) (by kernel_rfl) (by simp) ?_
     refine GXs.consP (i := 16) rfl rfl fn_158 rfl (is := [0]) (js := [0]) rfl rfl (by exact (mlnum_ct _ _ _ b _ t19 8 (by omega) (by omega) (by omega) (by omega) (by omega)).mono (fun _ _ _ h => h) (fun _ h => ⟨h.1, by simp only [mentF, hs10, hs15, hs19, Option.bind_some, h.2, Option.bind_none]⟩)) (by rintro a w ⟨_, _, _, ⟨v23, t23, hs23, rfl, rfl, rfl⟩, h⟩; exact h.mem (is := [1]) (js := [0]) rfl rfl) (GX.ret ?_) ?_
     ·rintro _ _ _ ⟨v23, t23, hs23, rfl, rfl, rfl⟩
      obtain ⟨ht23, hu23, hv23, hw23, hx23⟩ := mnumF_rng hs23
      refine GX.all (rs := [20, 22]) (by kernel_rfl) (by simp) ?_
      refine GXs.consP (i := 20) rfl rfl fn_158 rfl (is := [0]) (js := [0]) rfl rfl (by exact (mlnum_ct _ _ _ b _ t23 8 (by omega) (by omega) (by omega) (by omega) (by omega)).mono (fun _ _ _ h => h) (fun _ h => ⟨h.1, by simp only [mentF, hs10, hs15, hs19, hs23, Option.bind_some, h.2, Option.bind_none]⟩)) (by rintro a w ⟨_, _, _, ⟨v27, t27, hs27, rfl, rfl, rfl⟩, h⟩; exact h.mem (is := [1]) (js := [0]) rfl rfl) (GX.ret ?_) ?_
      ·rintro _ _ _ ⟨v27, t27, hs27, rfl, rfl, rfl⟩
       obtain ⟨ht27, hu27, hv27, hw27, hx27⟩ := mnumF_rng hs27
       refine GX.take 21 rfl (by kernel_rfl) (by kernel_rfl) (by kernel_rfl) rfl (fun a w h => h.mem (is := [1]) (js := [0]) rfl rfl) (i_pure (p_build ze_64 of_64 rfl rfl)) ?_
       refine GX.all (rs := [22]) (by kernel_rfl) (by simp) ?_
       refine GXs.cons (i := 22) rfl rfl (t_alloc rfl ze_64) (by rintro a w ⟨_, h⟩; exact h.mem (is := [2]) (js := [0]) rfl rfl) (GX.ex fun b_t3 => ?_) ?_
       ·refine GX.all (rs := [23]) (by kernel_rfl) (by simp) ?_
        refine GXs.cons (i := 23) rfl rfl (t_storeN (i := 0) rfl rfl rfl sz_64 rfl rfl rfl) (by rintro a w h; exact h.mem (is := [2]) (js := [0]) rfl rfl) ?_ ?_
        ·exact GX.done (by kernel_rfl) (fun a w h => ⟨_, _, _, _, _, _, _, _, _, _, _, ⟨hs10, hs15, hs19, hs23, hs27⟩, h.cut (is := [1, 0, 0]) (js := [0]) ⟨rfl, rfl, rfl, trivial⟩ rfl rfl⟩)
        exact GXs.nil
       exact GXs.nil
      refine GXs.cons (i := 22) rfl rfl (t_alloc rfl ze_64) (by rintro a w ⟨_, h⟩; exact h.mem (is := [2]) (js := [0]) rfl rfl) (GX.ex fun b_t3 => ?_) ?_
      ·refine GX.all (rs := [20]) (by kernel_rfl) (by simp) ?_
       refine GXs.consP (i := 20) rfl rfl fn_158 rfl (is := [1]) (js := [0]) rfl rfl (by exact (mlnum_ct _ _ _ b _ t23 8 (by omega) (by omega) (by omega) (by omega) (by omega)).mono (fun _ _ _ h => h) (fun _ h => ⟨h.1, by simp only [mentF, hs10, hs15, hs19, hs23, Option.bind_some, h.2, Option.bind_none]⟩)) (by rintro a w ⟨_, _, _, ⟨v27, t27, hs27, rfl, rfl, rfl⟩, h⟩; exact h.mem (is := [2]) (js := [0]) rfl rfl) (GX.ret ?_) ?_
       ·rintro _ _ _ ⟨v27, t27, hs27, rfl, rfl, rfl⟩
        obtain ⟨ht27, hu27, hv27, hw27, hx27⟩ := mnumF_rng hs27
        refine GX.take 21 rfl (by kernel_rfl) (by kernel_rfl) (by kernel_rfl) rfl (fun a w h => h.mem (is := [2]) (js := [0]) rfl rfl) (i_pure (p_build ze_64 of_64 rfl rfl)) ?_
        refine GX.all (rs := [23]) (by kernel_rfl) (by simp) ?_
        refine GXs.cons (i := 23) rfl rfl (t_storeN (i := 1) rfl rfl rfl sz_64 rfl rfl rfl) (by rintro a w h; exact h.mem (is := [2]) (js := [0]) rfl rfl) ?_ ?_
        ·exact GX.done (by kernel_rfl) (fun a w h => ⟨_, _, _, _, _, _, _, _, _, _, _, ⟨hs10, hs15, hs19, hs23, hs27⟩, h.cut (is := [0, 0, 0]) (js := [0]) ⟨rfl, rfl, rfl, trivial⟩ rfl rfl⟩)
        exact GXs.nil
       exact GXs.nil
      exact GXs.nil
     refine GXs.cons (i := 22) rfl rfl (t_alloc rfl ze_64) (by rintro a w ⟨_, h⟩; exact h.mem (is := [2]) (js := [0]) rfl rfl) (GX.ex fun b_t3 => ?_) ?_
     ·refine GX.all (rs := [16]) (by kernel_rfl) (by simp) ?_
      refine GXs.consP (i := 16) rfl rfl fn_158 rfl (is := [1]) (js := [0]) rfl rfl (by exact (mlnum_ct _ _ _ b _ t19 8 (by omega) (by omega) (by omega) (by omega) (by omega)).mono (fun _ _ _ h => h) (fun _ h => ⟨h.1, by simp only [mentF, hs10, hs15, hs19, Option.bind_some, h.2, Option.bind_none]⟩)) (by rintro a w ⟨_, _, _, ⟨v23, t23, hs23, rfl, rfl, rfl⟩, h⟩; exact h.mem (is := [2]) (js := [0]) rfl rfl) (GX.ret ?_) ?_
      ·rintro _ _ _ ⟨v23, t23, hs23, rfl, rfl, rfl⟩
       obtain ⟨ht23, hu23, hv23, hw23, hx23⟩ := mnumF_rng hs23
       refine GX.all (rs := [20]) (by kernel_rfl) (by simp) ?_
       refine GXs.consP (i := 20) rfl rfl fn_158 rfl (is := [0]) (js := [0]) rfl rfl (by exact (mlnum_ct _ _ _ b _ t23 8 (by omega) (by omega) (by omega) (by omega) (by omega)).mono (fun _ _ _ h => h) (fun _ h => ⟨h.1, by simp only [mentF, hs10, hs15, hs19, hs23, Option.bind_some, h.2, Option.bind_none]⟩)) (by rintro a w ⟨_, _, _, ⟨v27, t27, hs27, rfl, rfl, rfl⟩, h⟩; exact h.mem (is := [2]) (js := [0]) rfl rfl) (GX.ret ?_) ?_
       ·rintro _ _ _ ⟨v27, t27, hs27, rfl, rfl, rfl⟩
        obtain ⟨ht27, hu27, hv27, hw27, hx27⟩ := mnumF_rng hs27
        refine GX.take 21 rfl (by kernel_rfl) (by kernel_rfl) (by kernel_rfl) rfl (fun a w h => h.mem (is := [2]) (js := [0]) rfl rfl) (i_pure (p_build ze_64 of_64 rfl rfl)) ?_
        refine GX.all (rs := [23]) (by kernel_rfl) (by simp) ?_
        refine GXs.cons (i := 23) rfl rfl (t_storeN (i := 1) rfl rfl rfl sz_64 rfl rfl rfl) (by rintro a w h; exact h.mem (is := [2]) (js := [0]) rfl rfl) ?_ ?_
        ·exact GX.done (by kernel_rfl) (fun a w h => ⟨_, _, _, _, _, _, _, _, _, _, _, ⟨hs10, hs15, hs19, hs23, hs27⟩, h.cut (is := [0, 0, 0]) (js := [0]) ⟨rfl, rfl, rfl, trivial⟩ rfl rfl⟩)
        exact GXs.nil
       exact GXs.nil
      exact GXs.nil
     exact GXs.nil
    refine GXs.cons (i := 22) rfl rfl (t_alloc rfl ze_64) (by rintro a w ⟨_, h⟩; exact h.mem (is := [2]) (js := [0]) rfl rfl) (GX.ex fun b_t3 => ?_) ?_
    ·refine GX.all (rs := [12]) (by kernel_rfl) (by simp) ?_
     refine GXs.consP (i := 12) rfl rfl fn_158 rfl (is := [1]) (js := [0]) rfl rfl (by exact (mlnum_ct _ _ _ b _ t15 8 (by omega) (by omega) (by omega) (by omega) (by omega)).mono (fun _ _ _ h => h) (fun _ h => ⟨h.1, by simp only [mentF, hs10, hs15, Option.bind_some, h.2, Option.bind_none]⟩)) (by rintro a w ⟨_, _, _, ⟨v19, t19, hs19, rfl, rfl, rfl⟩, h⟩; exact h.mem (is := [2]) (js := [0]) rfl rfl) (GX.ret ?_) ?_
     ·rintro _ _ _ ⟨v19, t19, hs19, rfl, rfl, rfl⟩
      obtain ⟨ht19, hu19, hv19, hw19, hx19⟩ := mnumF_rng hs19
      refine GX.all (rs := [16]) (by kernel_rfl) (by simp) ?_
      refine GXs.consP (i := 16) rfl rfl fn_158 rfl (is := [0]) (js := [0]) rfl rfl (by exact (mlnum_ct _ _ _ b _ t19 8 (by omega) (by omega) (by omega) (by omega) (by omega)).mono (fun _ _ _ h => h) (fun _ h => ⟨h.1, by simp only [mentF, hs10, hs15, hs19, Option.bind_some, h.2, Option.bind_none]⟩)) (by rintro a w ⟨_, _, _, ⟨v23, t23, hs23, rfl, rfl, rfl⟩, h⟩; exact h.mem (is := [2]) (js := [0]) rfl rfl) (GX.ret ?_) ?_
      ·rintro _ _ _ ⟨v23, t23, hs23, rfl, rfl, rfl⟩
       obtain ⟨ht23, hu23, hv23, hw23, hx23⟩ := mnumF_rng hs23
       refine GX.all (rs := [20]) (by kernel_rfl) (by simp) ?_
       refine GXs.consP (i := 20) rfl rfl fn_158 rfl (is := [0]) (js := [0]) rfl rfl (by exact (mlnum_ct _ _ _ b _ t23 8 (by omega) (by omega) (by omega) (by omega) (by omega)).mono (fun _ _ _ h => h) (fun _ h => ⟨h.1, by simp only [mentF, hs10, hs15, hs19, hs23, Option.bind_some, h.2, Option.bind_none]⟩)) (by rintro a w ⟨_, _, _, ⟨v27, t27, hs27, rfl, rfl, rfl⟩, h⟩; exact h.mem (is := [2]) (js := [0]) rfl rfl) (GX.ret ?_) ?_
       ·rintro _ _ _ ⟨v27, t27, hs27, rfl, rfl, rfl⟩
        obtain ⟨ht27, hu27, hv27, hw27, hx27⟩ := mnumF_rng hs27
        refine GX.take 21 rfl (by kernel_rfl) (by kernel_rfl) (by kernel_rfl) rfl (fun a w h => h.mem (is := [2]) (js := [0]) rfl rfl) (i_pure (p_build ze_64 of_64 rfl rfl)) ?_
        refine GX.all (rs := [23]) (by kernel_rfl) (by simp) ?_
        refine GXs.cons (i := 23) rfl rfl (t_storeN (i := 1) rfl rfl rfl sz_64 rfl rfl rfl) (by rintro a w h; exact h.mem (is := [2]) (js := [0]) rfl rfl) ?_ ?_
        ·exact GX.done (by kernel_rfl) (fun a w h => ⟨_, _, _, _, _, _, _, _, _, _, _, ⟨hs10, hs15, hs19, hs23, hs27⟩, h.cut (is := [0, 0, 0]) (js := [0]) ⟨rfl, rfl, rfl, trivial⟩ rfl rfl⟩)
        exact GXs.nil
       exact GXs.nil
      exact GXs.nil
     exact GXs.nil
    exact GXs.nil
   refine GXs.cons (i := 22) rfl rfl (t_alloc rfl ze_64) (by rintro a w ⟨_, h⟩; exact h.mem (is := [2]) (js := [0]) rfl rfl) (GX.ex fun b_t3 => ?_) ?_
   ·refine GX.all (rs := [8]) (by kernel_rfl) (by simp) ?_
    refine GXs.consP (i := 8) rfl rfl fn_158 rfl (is := [1]) (js := [0]) rfl rfl (by exact (mlnum_ct _ _ _ b _ t10 8 (by omega) (by omega) (by omega) (by omega) (by omega)).mono (fun _ _ _ h => h) (fun _ h => ⟨h.1, by simp only [mentF, hs10, Option.bind_some, h.2, Option.bind_none]⟩)) (by rintro a w ⟨_, _, _, ⟨v15, t15, hs15, rfl, rfl, rfl⟩, h⟩; exact h.mem (is := [2]) (js := [0]) rfl rfl) (GX.ret ?_) ?_
    ·rintro _ _ _ ⟨v15, t15, hs15, rfl, rfl, rfl⟩
     obtain ⟨ht15, hu15, hv15, hw15, hx15⟩ := mnumF_rng hs15
     refine GX.all (rs := [12]) (by kernel_rfl) (by simp) ?_
     refine GXs.consP (i := 12) rfl rfl fn_158 rfl (is := [0]) (js := [0]) rfl rfl (by exact (mlnum_ct _ _ _ b _ t15 8 (by omega) (by omega) (by omega) (by omega) (by omega)).mono (fun _ _ _ h => h) (fun _ h => ⟨h.1, by simp only [mentF, hs10, hs15, Option.bind_some, h.2, Option.bind_none]⟩)) (by rintro a w ⟨_, _, _, ⟨v19, t19, hs19, rfl, rfl, rfl⟩, h⟩; exact h.mem (is := [2]) (js := [0]) rfl rfl) (GX.ret ?_) ?_
     ·rintro _ _ _ ⟨v19, t19, hs19, rfl, rfl, rfl⟩
      obtain ⟨ht19, hu19, hv19, hw19, hx19⟩ := mnumF_rng hs19
      refine GX.all (rs := [16]) (by kernel_rfl) (by simp) ?_
      refine GXs.consP (i := 16) rfl rfl fn_158 rfl (is := [0]) (js := [0]) rfl rfl (by exact (mlnum_ct _ _ _ b _ t19 8 (by omega) (by omega) (by omega) (by omega) (by omega)).mono (fun _ _ _ h => h) (fun _ h => ⟨h.1, by simp only [mentF, hs10, hs15, hs19, Option.bind_some, h.2, Option.bind_none]⟩)) (by rintro a w ⟨_, _, _, ⟨v23, t23, hs23, rfl, rfl, rfl⟩, h⟩; exact h.mem (is := [2]) (js := [0]) rfl rfl) (GX.ret ?_) ?_
      ·rintro _ _ _ ⟨v23, t23, hs23, rfl, rfl, rfl⟩
       obtain ⟨ht23, hu23, hv23, hw23, hx23⟩ := mnumF_rng hs23
       refine GX.all (rs := [20]) (by kernel_rfl) (by simp) ?_
       refine GXs.consP (i := 20) rfl rfl fn_158 rfl (is := [0]) (js := [0]) rfl rfl (by exact (mlnum_ct _ _ _ b _ t23 8 (by omega) (by omega) (by omega) (by omega) (by omega)).mono (fun _ _ _ h => h) (fun _ h => ⟨h.1, by simp only [mentF, hs10, hs15, hs19, hs23, Option.bind_some, h.2, Option.bind_none]⟩)) (by rintro a w ⟨_, _, _, ⟨v27, t27, hs27, rfl, rfl, rfl⟩, h⟩; exact h.mem (is := [2]) (js := [0]) rfl rfl) (GX.ret ?_) ?_
       ·rintro _ _ _ ⟨v27, t27, hs27, rfl, rfl, rfl⟩
        obtain ⟨ht27, hu27, hv27, hw27, hx27⟩ := mnumF_rng hs27
        refine GX.take 21 rfl (by kernel_rfl) (by kernel_rfl) (by kernel_rfl) rfl (fun a w h => h.mem (is := [2]) (js := [0]) rfl rfl) (i_pure (p_build ze_64 of_64 rfl rfl)) ?_
        refine GX.all (rs := [23]) (by kernel_rfl) (by simp) ?_
        refine GXs.cons (i := 23) rfl rfl (t_storeN (i := 1) rfl rfl rfl sz_64 rfl rfl rfl) (by rintro a w h; exact h.mem (is := [2]) (js := [0]) rfl rfl) ?_ ?_
        ·exact GX.done (by kernel_rfl) (fun a w h => ⟨_, _, _, _, _, _, _, _, _, _, _, ⟨hs10, hs15, hs19, hs23, hs27⟩, h.cut (is := [0, 0, 0]) (js := [0]) ⟨rfl, rfl, rfl, trivial⟩ rfl rfl⟩)
        exact GXs.nil
       exact GXs.nil
      exact GXs.nil
     exact GXs.nil
    exact GXs.nil
   exact GXs.nil
  refine GXs.cons (i := 22) rfl rfl (t_alloc rfl ze_64) (by rintro a w ⟨_, h⟩; exact h.mem (is := [1]) (js := [0]) rfl rfl) (GX.ex fun b_t3 => ?_) ?_
  ·refine GX.all (rs := [3]) (by kernel_rfl) (by simp) ?_
   refine GXs.consP (i := 3) rfl rfl fn_158 rfl (is := [2]) (js := [0]) rfl rfl (by exact (mlnum_ct _ _ _ b _ at_ 1 (by omega) (by omega) (by omega) (by omega) (by omega)).mono (fun _ _ _ h => h) (fun _ h => ⟨h.1, by simp only [mentF, h.2, Option.bind_none]⟩)) (by rintro a w ⟨_, _, _, ⟨v10, t10, hs10, rfl, rfl, rfl⟩, h⟩; exact h.mem (is := [2]) (js := [0]) rfl rfl) (GX.ret ?_) ?_
   ·rintro _ _ _ ⟨v10, t10, hs10, rfl, rfl, rfl⟩
    obtain ⟨ht10, hu10, hv10, hw10, hx10⟩ := mnumF_rng hs10
    refine GX.take 4 rfl (by kernel_rfl) (by kernel_rfl) (by kernel_rfl) rfl (fun a w h => h.mem (is := [2]) (js := [0]) rfl rfl) (i_pure (p_convR (t := 3) (r := v10) (by rw [Tryz.underlying3]; simp) Tryz.underlying62 rfl (by have := mnumF_pos hs10 (by omega); simp [IntKind.wrap, IntKind.bits, IntKind.signed]; omega))) ?_
    refine GX.all (rs := [8]) (by kernel_rfl) (by simp) ?_
    refine GXs.consP (i := 8) rfl rfl fn_158 rfl (is := [0]) (js := [0]) rfl rfl (by exact (mlnum_ct _ _ _ b _ t10 8 (by omega) (by omega) (by omega) (by omega) (by omega)).mono (fun _ _ _ h => h) (fun _ h => ⟨h.1, by simp only [mentF, hs10, Option.bind_some, h.2, Option.bind_none]⟩)) (by rintro a w ⟨_, _, _, ⟨v15, t15, hs15, rfl, rfl, rfl⟩, h⟩; exact h.mem (is := [2]) (js := [0]) rfl rfl) (GX.ret ?_) ?_
    ·rintro _ _ _ ⟨v15, t15, hs15, rfl, rfl, rfl⟩
     obtain ⟨ht15, hu15, hv15, hw15, hx15⟩ := mnumF_rng hs15
     refine GX.all (rs := [12]) (by kernel_rfl) (by simp) ?_
     refine GXs.consP (i := 12) rfl rfl fn_158 rfl (is := [0]) (js := [0]) rfl rfl (by exact (mlnum_ct _ _ _ b _ t15 8 (by omega) (by omega) (by omega) (by omega) (by omega)).mono (fun _ _ _ h => h) (fun _ h => ⟨h.1, by simp only [mentF, hs10, hs15, Option.bind_some, h.2, Option.bind_none]⟩)) (by rintro a w ⟨_, _, _, ⟨v19, t19, hs19, rfl, rfl, rfl⟩, h⟩; exact h.mem (is := [2]) (js := [0]) rfl rfl) (GX.ret ?_) ?_
     ·rintro _ _ _ ⟨v19, t19, hs19, rfl, rfl, rfl⟩
      obtain ⟨ht19, hu19, hv19, hw19, hx19⟩ := mnumF_rng hs19
      refine GX.all (rs := [16]) (by kernel_rfl) (by simp) ?_
      refine GXs.consP (i := 16) rfl rfl fn_158 rfl (is := [0]) (js := [0]) rfl rfl (by exact (mlnum_ct _ _ _ b _ t19 8 (by omega) (by omega) (by omega) (by omega) (by omega)).mono (fun _ _ _ h => h) (fun _ h => ⟨h.1, by simp only [mentF, hs10, hs15, hs19, Option.bind_some, h.2, Option.bind_none]⟩)) (by rintro a w ⟨_, _, _, ⟨v23, t23, hs23, rfl, rfl, rfl⟩, h⟩; exact h.mem (is := [2]) (js := [0]) rfl rfl) (GX.ret ?_) ?_
      ·rintro _ _ _ ⟨v23, t23, hs23, rfl, rfl, rfl⟩
       obtain ⟨ht23, hu23, hv23, hw23, hx23⟩ := mnumF_rng hs23
       refine GX.all (rs := [20]) (by kernel_rfl) (by simp) ?_
       refine GXs.consP (i := 20) rfl rfl fn_158 rfl (is := [0]) (js := [0]) rfl rfl (by exact (mlnum_ct _ _ _ b _ t23 8 (by omega) (by omega) (by omega) (by omega) (by omega)).mono (fun _ _ _ h => h) (fun _ h => ⟨h.1, by simp only [mentF, hs10, hs15, hs19, hs23, Option.bind_some, h.2, Option.bind_none]⟩)) (by rintro a w ⟨_, _, _, ⟨v27, t27, hs27, rfl, rfl, rfl⟩, h⟩; exact h.mem (is := [2]) (js := [0]) rfl rfl) (GX.ret ?_) ?_
       ·rintro _ _ _ ⟨v27, t27, hs27, rfl, rfl, rfl⟩
        obtain ⟨ht27, hu27, hv27, hw27, hx27⟩ := mnumF_rng hs27
        refine GX.take 21 rfl (by kernel_rfl) (by kernel_rfl) (by kernel_rfl) rfl (fun a w h => h.mem (is := [2]) (js := [0]) rfl rfl) (i_pure (p_build ze_64 of_64 rfl rfl)) ?_
        refine GX.all (rs := [23]) (by kernel_rfl) (by simp) ?_
        refine GXs.cons (i := 23) rfl rfl (t_storeN (i := 1) rfl rfl rfl sz_64 rfl rfl rfl) (by rintro a w h; exact h.mem (is := [2]) (js := [0]) rfl rfl) ?_ ?_
        ·exact GX.done (by kernel_rfl) (fun a w h => ⟨_, _, _, _, _, _, _, _, _, _, _, ⟨hs10, hs15, hs19, hs23, hs27⟩, h.cut (is := [0, 0, 0]) (js := [0]) ⟨rfl, rfl, rfl, trivial⟩ rfl rfl⟩)
        exact GXs.nil
       exact GXs.nil
      exact GXs.nil
     exact GXs.nil
    exact GXs.nil
   exact GXs.nil
  exact GXs.nil
 ·refine (?_ : GC _ _ _ _)
  refine GC.ex fun v10 => GC.ex fun t10 => GC.ex fun v15 => GC.ex fun t15 => GC.ex fun v19 => GC.ex fun t19 => GC.ex fun v23 => GC.ex fun t23 => GC.ex fun v27 => GC.ex fun t27 => GC.ex fun b_t3 => GC.and fun ⟨hs10, hs15, hs19, hs23, hs27⟩ => ?_
  refine GC.seq' ?_; refine GC.sr_ ?_
  obtain ⟨ht10, hu10, hv10, hw10, hx10⟩ := mnumF_rng hs10
  obtain ⟨ht15, hu15, hv15, hw15, hx15⟩ := mnumF_rng hs15
  obtain ⟨ht19, hu19, hv19, hw19, hx19⟩ := mnumF_rng hs19
  obtain ⟨ht23, hu23, hv23, hw23, hx23⟩ := mnumF_rng hs23
  obtain ⟨ht27, hu27, hv27, hw27, hx27⟩ := mnumF_rng hs27
  have hM : mentF b at_ = (mentB b v10 v15 v19 v23 v27 t27).bind mentC := by simp only [mentF, hs10, hs15, hs19, hs23, hs27, Option.bind_some]
  have hv0 := mnumF_pos hs10 (by omega)
  refine GL.pure rfl (p_fieldAddr fo_64_0 rfl) ?_; refine GL.step rfl (t_mem rfl (m_load (i := 1) rfl rfl ag_62 rfl)) ?_; refine GL.nl_ ?_; refine GC.block ?_; refine GC.sr_ ?_; refine GL.pure rfl (p_eql rfl rfl) ?_; refine GL.as_ rfl rfl ?_
  refine GL.nl_ ?_; refine GC.cond rfl (fun h1 => ?_) (fun h1 => ?_)
  ·try simp only [tst_] at h1
   refine GC.seq' ?_; refine GC.regionM (m := 20) (M := fun a w => ∃ o45 : OpD, ∃ n45 : Nat, ∃ e45 : Int, ∃ A45 : Option Addr, ∃ c45 : Nat, ∃ B45 : Option Addr, ∃ d45 : Nat, ∃ b_t4 : Nat, ((e45 = 0 → decOp (seg b t27 b.length) = some (o45, n45)) ∧ (n45 ≤ (seg b t27 b.length).length ∧ (e45 ≠ 0 → decOp (seg b t27 b.length) = none)) ∧ o45.data.length ≤ c45 ∧ c45 ≤ 9223372036854775807 ∧ o45.old.length ≤ d45 ∧ d45 ≤ 9223372036854775807) ∧ St c 74 [(0, .pointer (some ⟨p, 0, none⟩)), (2, .pointer (some ⟨b_t2, 0, none⟩)), (3, .pointer (some ⟨b_t3, 0, none⟩)), (4, .pointer (some ⟨b_t4, 0, none⟩)), (5, .int .i64 (n45 : Int)), (6, .int .i64 e45)] [.cells p [.slice A b.length cp, .int .i64 (t27 : Int)] e_, .cells b_t3 [.int .u8 v10, .int .i64 v15, .int .i64 v19, .int .i64 v23, .int .i64 v27, .int .u8 0, .int .i64 0, .int .i64 0, .slice none 0 0, .slice none 0 0, .int .i64 0, .slice none 0 0] 64, .cells b_t2 [.int .u8 0, .int .i64 0, .int .i64 0, .int .i64 0, .int .i64 0, .int .u8 0, .int .i64 0, .int .i64 0, .slice none 0 0, .slice none 0 0, .int .i64 0, .slice none 0 0] 64, .cells b_t4 [.int .u8 o45.kind, .int .i64 o45.at_, .int .i64 o45.n, .slice A45 o45.data.length c45, .slice B45 o45.old.length d45] 27] [Pers.row Kd.u8 A45 o45.data, Pers.row Kd.u8 B45 o45.old, Pers.row Kd.u8 A b] a w) (is := [0, 0, 0]) (js := [0]) wide_ rfl rfl rfl ?_ ?_
   ·refine GA.take 0 rfl (by kernel_rfl) (by kernel_rfl) (by kernel_rfl) rfl (fun a w h => h.mem (is := [0, 0, 0]) (js := [0]) rfl rfl) (i_pure (p_move rfl)) ?_; refine GA.take 1 rfl (by kernel_rfl) (by kernel_rfl) (by kernel_rfl) rfl (fun a w h => h.mem (is := [0, 0, 0]) (js := [0]) rfl rfl) (i_pure (p_nilCheck rfl)) ?_
    refine GA.take 2 rfl (by kernel_rfl) (by kernel_rfl) (by kernel_rfl) rfl (fun a w h => h.mem (is := [0, 0, 0]) (js := [0]) rfl rfl) (i_pure (p_fieldAddr fo_205_0 rfl)) ?_; refine GA.take 3 rfl (by kernel_rfl) (by kernel_rfl) (by kernel_rfl) rfl (fun a w h => h.mem (is := [0, 0, 0]) (js := [0]) rfl rfl) (i_pure (p_fieldAddr fo_203_0 rfl)) ?_
    refine GA.take 4 rfl (by kernel_rfl) (by kernel_rfl) (by kernel_rfl) rfl (fun a w h => h.mem (is := [0, 0, 0]) (js := [0]) rfl rfl) (i_mem (m_load (i := 0) rfl rfl ag_25 rfl)) ?_; refine GA.take 5 rfl (by kernel_rfl) (by kernel_rfl) (by kernel_rfl) rfl (fun a w h => h.mem (is := [0, 0, 0]) (js := [0]) rfl rfl) (i_pure (p_move rfl)) ?_
    refine GA.take 6 rfl (by kernel_rfl) (by kernel_rfl) (by kernel_rfl) rfl (fun a w h => h.mem (is := [0, 0, 0]) (js := [0]) rfl rfl) (i_pure (p_nilCheck rfl)) ?_; refine GA.take 7 rfl (by kernel_rfl) (by kernel_rfl) (by kernel_rfl) rfl (fun a w h => h.mem (is := [0, 0, 0]) (js := [0]) rfl rfl) (i_pure (p_fieldAddr fo_205_0 rfl)) ?_
    refine GA.take 8 rfl (by kernel_rfl) (by kernel_rfl) (by kernel_rfl) rfl (fun a w h => h.mem (is := [0, 0, 0]) (js := [0]) rfl rfl) (i_pure (p_fieldAddr fo_203_1 rfl)) ?_; refine GA.take 9 rfl (by kernel_rfl) (by kernel_rfl) (by kernel_rfl) rfl (fun a w h => h.mem (is := [0, 0, 0]) (js := [0]) rfl rfl) (i_mem (m_load (i := 0) rfl rfl ag_3 rfl)) ?_
    refine GA.all (rs := [10, 16]) (by kernel_rfl) (by simp) ?_
    refine GAs.cons (i := 10) rfl rfl (t_cut_l (j := 0) rfl rfl rfl rfl Tryz.underlying25 sz_5 (by omega) (by omega) (by omega)) (by rintro a w h; exact h.mem (is := [0, 0, 0]) (js := [1]) rfl rfl) ?_ ?_
    ·refine GA.all (rs := [11, 16]) (by kernel_rfl) (by simp) ?_
     refine GAs.cons (i := 11) rfl rfl (t_call rfl fn_129 rfl (is := []) (js := [0]) rfl rfl (by exact decop_ct _ (seg b t27 b.length) _ (by rw [seg_to (by omega)]; omega) (by omega) (by rw [seg_to (by omega)]; omega))) (by rintro a w ⟨_, _, _, ⟨o45, n45, e45, A45, c45, B45, d45, hs45, hn45, l45, k45, m45, p45, rfl, rfl, rfl⟩, h⟩; exact h.mem (is := [0, 0, 0]) (js := [3]) rfl rfl) (GA.ret ?_) ?_
     ·rintro _ _ _ ⟨o45, n45, e45, A45, c45, B45, d45, hs45, hn45, l45, k45, m45, p45, rfl, rfl, rfl⟩
      have hq45 := hn45.1
      rw [seg_to (by omega)] at hq45
      refine GA.take 12 rfl (by kernel_rfl) (by kernel_rfl) (by kernel_rfl) rfl (fun a w h => h.mem (is := [0, 0, 0]) (js := [3]) rfl rfl) (i_pure (p_move rfl)) ?_; refine GA.take 13 rfl (by kernel_rfl) (by kernel_rfl) (by kernel_rfl) rfl (fun a w h => h.mem (is := [0, 0, 0]) (js := [3]) rfl rfl) (i_pure (p_extract rfl rfl)) ?_
      refine GA.take 14 rfl (by kernel_rfl) (by kernel_rfl) (by kernel_rfl) rfl (fun a w h => h.mem (is := [0, 0, 0]) (js := [3]) rfl rfl) (i_pure (p_extract rfl rfl)) ?_; refine GA.take 15 rfl (by kernel_rfl) (by kernel_rfl) (by kernel_rfl) rfl (fun a w h => h.mem (is := [0, 0, 0]) (js := [3]) rfl rfl) (i_pure (p_extract rfl rfl)) ?_
      refine GA.all (rs := [16]) (by kernel_rfl) (by simp) ?_
      refine GAs.cons (i := 16) rfl rfl (t_alloc rfl ze_27) (by rintro a w ⟨_, h⟩; exact h.mem (is := [1, 1, 1]) (js := [3]) rfl rfl) (GA.ex fun b_t4 => ?_) ?_
      ·refine GA.all (rs := [17]) (by kernel_rfl) (by simp) ?_
       refine GAs.cons (i := 17) rfl rfl (t_storeN (i := 0) rfl rfl rfl sz_27 rfl rfl rfl) (by rintro a w h; exact h.mem (is := [1, 1, 1]) (js := [3]) rfl rfl) ?_ ?_
       ·refine GA.take 18 rfl (by kernel_rfl) (by kernel_rfl) (by kernel_rfl) rfl (fun a w h => h.mem (is := [1, 1, 1]) (js := [3]) rfl rfl) (i_pure (p_assign rfl)) ?_; refine GA.take 19 rfl (by kernel_rfl) (by kernel_rfl) (by kernel_rfl) rfl (fun a w h => h.mem (is := [1, 1, 1]) (js := [3]) rfl rfl) (i_pure (p_assign rfl)) ?_
        exact GA.done (by kernel_rfl) (fun a w h => ⟨_, _, _, _, _, _, _, _, ⟨hs45, hn45, l45, k45, m45, p45⟩, h.cut (is := [1, 1, 1, 0]) (js := [0, 1, 3]) ⟨rfl, rfl, rfl, rfl, rfl, rfl, trivial⟩ rfl rfl⟩)
       exact GAs.nil
      exact GAs.nil
     refine GAs.cons (i := 16) rfl rfl (t_alloc rfl ze_27) (by rintro a w ⟨_, h⟩; exact h.mem (is := [1, 1, 1]) (js := [1]) rfl rfl) (GA.ex fun b_t4 => ?_) ?_
     ·refine GA.all (rs := [11]) (by kernel_rfl) (by simp) ?_
      refine GAs.cons (i := 11) rfl rfl (t_call rfl fn_129 rfl (is := []) (js := [0]) rfl rfl (by exact decop_ct _ (seg b t27 b.length) _ (by rw [seg_to (by omega)]; omega) (by omega) (by rw [seg_to (by omega)]; omega))) (by rintro a w ⟨_, _, _, ⟨o45, n45, e45, A45, c45, B45, d45, hs45, hn45, l45, k45, m45, p45, rfl, rfl, rfl⟩, h⟩; exact h.mem (is := [1, 1, 1]) (js := [3]) rfl rfl) (GA.ret ?_) ?_
      ·rintro _ _ _ ⟨o45, n45, e45, A45, c45, B45, d45, hs45, hn45, l45, k45, m45, p45, rfl, rfl, rfl⟩
       have hq45 := hn45.1
       rw [seg_to (by omega)] at hq45
       refine GA.take 12 rfl (by kernel_rfl) (by kernel_rfl) (by kernel_rfl) rfl (fun a w h => h.mem (is := [1, 1, 1]) (js := [3]) rfl rfl) (i_pure (p_move rfl)) ?_; refine GA.take 13 rfl (by kernel_rfl) (by kernel_rfl) (by kernel_rfl) rfl (fun a w h => h.mem (is := [1, 1, 1]) (js := [3]) rfl rfl) (i_pure (p_extract rfl rfl)) ?_
       refine GA.take 14 rfl (by kernel_rfl) (by kernel_rfl) (by kernel_rfl) rfl (fun a w h => h.mem (is := [1, 1, 1]) (js := [3]) rfl rfl) (i_pure (p_extract rfl rfl)) ?_; refine GA.take 15 rfl (by kernel_rfl) (by kernel_rfl) (by kernel_rfl) rfl (fun a w h => h.mem (is := [1, 1, 1]) (js := [3]) rfl rfl) (i_pure (p_extract rfl rfl)) ?_
       refine GA.all (rs := [17]) (by kernel_rfl) (by simp) ?_
       refine GAs.cons (i := 17) rfl rfl (t_storeN (i := 0) rfl rfl rfl sz_27 rfl rfl rfl) (by rintro a w h; exact h.mem (is := [1, 1, 1]) (js := [3]) rfl rfl) ?_ ?_
       ·refine GA.take 18 rfl (by kernel_rfl) (by kernel_rfl) (by kernel_rfl) rfl (fun a w h => h.mem (is := [1, 1, 1]) (js := [3]) rfl rfl) (i_pure (p_assign rfl)) ?_; refine GA.take 19 rfl (by kernel_rfl) (by kernel_rfl) (by kernel_rfl) rfl (fun a w h => h.mem (is := [1, 1, 1]) (js := [3]) rfl rfl) (i_pure (p_assign rfl)) ?_
        exact GA.done (by kernel_rfl) (fun a w h => ⟨_, _, _, _, _, _, _, _, ⟨hs45, hn45, l45, k45, m45, p45⟩, h.cut (is := [1, 1, 1, 0]) (js := [0, 1, 3]) ⟨rfl, rfl, rfl, rfl, rfl, rfl, trivial⟩ rfl rfl⟩)
       exact GAs.nil
      exact GAs.nil
     exact GAs.nil
    refine GAs.cons (i := 16) rfl rfl (t_alloc rfl ze_27) (by rintro a w ⟨_, h⟩; exact h.mem (is := [1, 1, 1]) (js := [0]) rfl rfl) (GA.ex fun b_t4 => ?_) ?_
    ·refine GA.all (rs := [10]) (by kernel_rfl) (by simp) ?_
     refine GAs.cons (i := 10) rfl rfl (t_cut_l (j := 0) rfl rfl rfl rfl Tryz.underlying25 sz_5 (by omega) (by omega) (by omega)) (by rintro a w h; exact h.mem (is := [1, 1, 1]) (js := [1]) rfl rfl) ?_ ?_
     ·refine GA.all (rs := [11]) (by kernel_rfl) (by simp) ?_
      refine GAs.cons (i := 11) rfl rfl (t_call rfl fn_129 rfl (is := []) (js := [0]) rfl rfl (by exact decop_ct _ (seg b t27 b.length) _ (by rw [seg_to (by omega)]; omega) (by omega) (by rw [seg_to (by omega)]; omega))) (by rintro a w ⟨_, _, _, ⟨o45, n45, e45, A45, c45, B45, d45, hs45, hn45, l45, k45, m45, p45, rfl, rfl, rfl⟩, h⟩; exact h.mem (is := [1, 1, 1]) (js := [3]) rfl rfl) (GA.ret ?_) ?_
      ·rintro _ _ _ ⟨o45, n45, e45, A45, c45, B45, d45, hs45, hn45, l45, k45, m45, p45, rfl, rfl, rfl⟩
       have hq45 := hn45.1
       rw [seg_to (by omega)] at hq45
       refine GA.take 12 rfl (by kernel_rfl) (by kernel_rfl) (by kernel_rfl) rfl (fun a w h => h.mem (is := [1, 1, 1]) (js := [3]) rfl rfl) (i_pure (p_move rfl)) ?_; refine GA.take 13 rfl (by kernel_rfl) (by kernel_rfl) (by kernel_rfl) rfl (fun a w h => h.mem (is := [1, 1, 1]) (js := [3]) rfl rfl) (i_pure (p_extract rfl rfl)) ?_
       refine GA.take 14 rfl (by kernel_rfl) (by kernel_rfl) (by kernel_rfl) rfl (fun a w h => h.mem (is := [1, 1, 1]) (js := [3]) rfl rfl) (i_pure (p_extract rfl rfl)) ?_; refine GA.take 15 rfl (by kernel_rfl) (by kernel_rfl) (by kernel_rfl) rfl (fun a w h => h.mem (is := [1, 1, 1]) (js := [3]) rfl rfl) (i_pure (p_extract rfl rfl)) ?_
       refine GA.all (rs := [17]) (by kernel_rfl) (by simp) ?_
       refine GAs.cons (i := 17) rfl rfl (t_storeN (i := 0) rfl rfl rfl sz_27 rfl rfl rfl) (by rintro a w h; exact h.mem (is := [1, 1, 1]) (js := [3]) rfl rfl) ?_ ?_
       ·refine GA.take 18 rfl (by kernel_rfl) (by kernel_rfl) (by kernel_rfl) rfl (fun a w h => h.mem (is := [1, 1, 1]) (js := [3]) rfl rfl) (i_pure (p_assign rfl)) ?_; refine GA.take 19 rfl (by kernel_rfl) (by kernel_rfl) (by kernel_rfl) rfl (fun a w h => h.mem (is := [1, 1, 1]) (js := [3]) rfl rfl) (i_pure (p_assign rfl)) ?_
        exact GA.done (by kernel_rfl) (fun a w h => ⟨_, _, _, _, _, _, _, _, ⟨hs45, hn45, l45, k45, m45, p45⟩, h.cut (is := [1, 1, 1, 0]) (js := [0, 1, 3]) ⟨rfl, rfl, rfl, rfl, rfl, rfl, trivial⟩ rfl rfl⟩)
       exact GAs.nil
      exact GAs.nil
     exact GAs.nil
    exact GAs.nil
   ·refine (?_ : GC _ _ _ _)
    refine GC.ex fun o45 => GC.ex fun n45 => GC.ex fun e45 => GC.ex fun A45 => GC.ex fun c45 => GC.ex fun B45 => GC.ex fun d45 => GC.ex fun b_t4 => GC.and fun ⟨hs45, hn45, l45, k45, m45, p45⟩ => ?_; refine GC.sr_ ?_
    have hq45 := hn45.1
    rw [seg_to (by omega)] at hq45
    refine GL.mv_ rfl rfl ?_; refine GL.callP rfl fn_159 rfl (is := []) (js := []) rfl rfl (by exact (must_ct _).mono (fun _ _ _ h => h) (fun _ h => ⟨⟨_, h⟩, by rw [hM, mentB, if_pos (by assumption), hn45.2 h.1]; rfl⟩)) (fun v a w he h => FinP.panic he h) (GL.ret ?_)
    rintro _ _ _ ⟨he50, rfl, rfl, rfl⟩
    have hd45 := hs45 he50
    refine GL.nl_ ?_; refine GC.sr_ ?_; refine GL.step rfl (t_mem rfl (m_loadN (i := 3) rfl rfl ag_27 (vs := [_, _, _, _, _]) sz_27 ⟨rfl, rfl, rfl, rfl, rfl, trivial⟩)) ?_; refine GL.pure rfl (p_fieldAddr fo_64_5 rfl) ?_
    refine GL.step rfl (t_storeN (i := 1) rfl rfl rfl sz_27 rfl rfl rfl) ?_; refine GL.nl_ ?_; refine GC.region ?_; refine GL.mv_ rfl rfl ?_; refine GL.pure rfl (p_nilCheck rfl) ?_; refine GL.pure rfl (p_fieldAddr fo_205_0 rfl) ?_
    refine GL.pure rfl (p_fieldAddr fo_203_1 rfl) ?_; refine GL.step rfl (t_mem rfl (m_load (i := 0) rfl rfl ag_3 rfl)) ?_; refine GL.mv_ rfl rfl ?_; refine GL.pure rfl (p_add rfl rfl (w64 (by omega) (by omega))) ?_; refine GL.pure rfl (p_nilCheck rfl) ?_
    refine GL.pure rfl (p_fieldAddr fo_205_0 rfl) ?_; refine GL.pure rfl (p_fieldAddr fo_203_1 rfl) ?_; refine GL.step rfl (t_store (i := 0) rfl rfl rfl rfl sz_3 rfl rfl rfl) ?_
    refine GL.nil (?_ : GC _ _ _ _)
    refine GC.seq' ?_; refine GC.sr_ ?_; refine GL.know (q := Pers.row Kd.u8 none []) (fun _ _ _ => .inl rfl) ?_; refine GL.know (q := Pers.row kI none []) (fun _ _ _ => .inl rfl) ?_; refine GL.step rfl (t_mem rfl (m_loadN (i := 1) rfl rfl ag_64 (vs := [_, _, _, _, _, _, _, _, _, _, _, _]) sz_64 ⟨rfl, rfl, rfl, rfl, rfl, rfl, rfl, rfl, rfl, rfl, rfl, rfl, trivial⟩)) ?_
    have hBX : mentB b v10 v15 v19 v23 v27 t27 = some ((⟨v10, v15, v19, v23, v27, o45, zgr⟩ : Entry), t27 + n45) := by rw [mentB, if_pos (by assumption), hd45]; rfl
    have hMB := hM
    rw [hBX, Option.bind_some] at hMB
    refine GL.step rfl (t_call rfl fn_112 rfl (is := []) (js := [2, 3, 0]) rfl rfl (by exact ment_ct (⟨v10, v15, v19, v23, v27, o45, zgr⟩ : Entry) _ _ _ _ _ _ (by simp [zgr]))) (GL.ret ?_)
    rintro _ _ _ ⟨rfl, rfl, rfl⟩
    refine GL.pure rfl (p_neq rfl rfl) ?_; refine GL.nl_ ?_; refine GC.cond rfl (fun h2 => ?_) (fun h2 => ?_)
    ·try simp only [tst_] at h2
     refine GC.region ?_; refine GL.pure rfl (p_build ze_200 of_200 rfl rfl) ?_; refine GL.pure rfl (p_mkIface Tryz.underlying200 (fun m h => by cases h) rfl) ?_; refine GL.panicN rfl (fun a w h => ?_)
     exact FinP.panic ⟨⟨42, by decide, rfl⟩, by rw [hMB, mentC]; exact if_neg (by assumption)⟩ h
    ·try simp only [tst_] at h2
     refine GC.skip (?_ : GC _ _ _ _)
     refine GC.sr_ ?_; refine GL.step rfl (t_mem rfl (m_loadN (i := 1) rfl rfl ag_64 (vs := [_, _, _, _, _, _, _, _, _, _, _, _]) sz_64 ⟨rfl, rfl, rfl, rfl, rfl, rfl, rfl, rfl, rfl, rfl, rfl, rfl, trivial⟩)) ?_; refine GL.step rfl (t_storeN (i := 2) rfl rfl rfl sz_64 rfl rfl rfl) ?_
     refine GL.nl_ ?_; refine GC.ret ?_
     refine fun a w h => FinP.back (rs := [.cell 2 64]) (vs := [_]) (is := [0]) (js := [2, 3, 0]) rfl ⟨⟨2, _, _, _, _, rfl, rfl, .inr ⟨[_, _, _, _, _, _, _, _, _, _, _, _], rfl, ag_64, sz_64, ⟨rfl, rfl, rfl, rfl, rfl, rfl, rfl, rfl, rfl, rfl, rfl, rfl, trivial⟩⟩⟩, trivial⟩ rfl rfl ?_ h
     clear h
     exact ⟨_, _, by rw [hMB, mentC]; exact if_pos (by assumption), by omega, ⟨A45, c45, B45, d45, none, 0, l45, k45, m45, p45, by simp [zgr], by omega, rfl, rfl⟩, rfl⟩
  ·try simp only [tst_] at h1
   refine GC.sr_ ?_; refine GL.pure rfl (p_eql rfl rfl) ?_; refine GL.as_ rfl rfl ?_; refine GL.nl_ ?_; refine GC.cond rfl (fun h3 => ?_) (fun h3 => ?_)
   ·try simp only [tst_] at h3
    refine GC.region ?_; refine GL.mv_ rfl rfl ?_; refine GL.callP rfl fn_160 rfl (is := [0]) (js := [0]) rfl rfl (by exact (mgrp_ct _ _ _ b _ t27 (by omega) (by omega) (by omega)).mono (fun _ _ _ h => h) (fun _ h => ⟨h.1, by rw [hM, mentB, if_neg (by omega), if_pos (by assumption), h.2]; rfl⟩)) (fun v a w he h => FinP.panic he h) (GL.ret ?_)
    rintro _ _ _ ⟨g66, t66, A66, c66, hs66, ht66, l66, m66, rfl, rfl, rfl⟩
    refine GL.pure rfl (p_fieldAddr fo_64_6 rfl) ?_; refine GL.step rfl (t_storeN (i := 1) rfl rfl rfl sz_33 rfl rfl rfl) ?_
    refine GL.nil (?_ : GC _ _ _ _)
    refine GC.seq' ?_; refine GC.sr_ ?_; refine GL.know (q := Pers.row Kd.u8 none []) (fun _ _ _ => .inl rfl) ?_; refine GL.know (q := Pers.row kI none []) (fun _ _ _ => .inl rfl) ?_; refine GL.step rfl (t_mem rfl (m_loadN (i := 1) rfl rfl ag_64 (vs := [_, _, _, _, _, _, _, _, _, _, _, _]) sz_64 ⟨rfl, rfl, rfl, rfl, rfl, rfl, rfl, rfl, rfl, rfl, rfl, rfl, trivial⟩)) ?_
    have hBX : mentB b v10 v15 v19 v23 v27 t27 = some ((⟨v10, v15, v19, v23, v27, zop, g66⟩ : Entry), t66) := by rw [mentB, if_neg (by omega), if_pos (by assumption), hs66]; rfl
    have hMB := hM
    rw [hBX, Option.bind_some] at hMB
    refine GL.step rfl (t_call rfl fn_112 rfl (is := []) (js := [1, 1, 2]) rfl rfl (by exact ment_ct (⟨v10, v15, v19, v23, v27, zop, g66⟩ : Entry) _ _ _ _ _ _ (by show g66.members.length ≤ 140737488355328; omega))) (GL.ret ?_)
    rintro _ _ _ ⟨rfl, rfl, rfl⟩
    refine GL.pure rfl (p_neq rfl rfl) ?_; refine GL.nl_ ?_; refine GC.cond rfl (fun h4 => ?_) (fun h4 => ?_)
    ·try simp only [tst_] at h4
     refine GC.region ?_; refine GL.pure rfl (p_build ze_200 of_200 rfl rfl) ?_; refine GL.pure rfl (p_mkIface Tryz.underlying200 (fun m h => by cases h) rfl) ?_; refine GL.panicN rfl (fun a w h => ?_)
     exact FinP.panic ⟨⟨42, by decide, rfl⟩, by rw [hMB, mentC]; exact if_neg (by assumption)⟩ h
    ·try simp only [tst_] at h4
     refine GC.skip (?_ : GC _ _ _ _)
     refine GC.sr_ ?_; refine GL.step rfl (t_mem rfl (m_loadN (i := 1) rfl rfl ag_64 (vs := [_, _, _, _, _, _, _, _, _, _, _, _]) sz_64 ⟨rfl, rfl, rfl, rfl, rfl, rfl, rfl, rfl, rfl, rfl, rfl, rfl, trivial⟩)) ?_; refine GL.step rfl (t_storeN (i := 2) rfl rfl rfl sz_64 rfl rfl rfl) ?_
     refine GL.nl_ ?_; refine GC.ret ?_
     refine fun a w h => FinP.back (rs := [.cell 2 64]) (vs := [_]) (is := [0]) (js := [1, 1, 2]) rfl ⟨⟨2, _, _, _, _, rfl, rfl, .inr ⟨[_, _, _, _, _, _, _, _, _, _, _, _], rfl, ag_64, sz_64, ⟨rfl, rfl, rfl, rfl, rfl, rfl, rfl, rfl, rfl, rfl, rfl, rfl, trivial⟩⟩⟩, trivial⟩ rfl rfl ?_ h
     clear h
     exact ⟨_, _, by rw [hMB, mentC]; exact if_pos (by assumption), by omega, ⟨none, 0, none, 0, A66, c66, by simp [zop], by omega, by simp [zop], by omega, l66, m66, rfl, rfl⟩, rfl⟩
   ·try simp only [tst_] at h3
    refine GC.skip (?_ : GC _ _ _ _)
    refine GC.seq' ?_; refine GC.sr_ ?_; refine GL.know (q := Pers.row Kd.u8 none []) (fun _ _ _ => .inl rfl) ?_; refine GL.know (q := Pers.row kI none []) (fun _ _ _ => .inl rfl) ?_; refine GL.step rfl (t_mem rfl (m_loadN (i := 1) rfl rfl ag_64 (vs := [_, _, _, _, _, _, _, _, _, _, _, _]) sz_64 ⟨rfl, rfl, rfl, rfl, rfl, rfl, rfl, rfl, rfl, rfl, rfl, rfl, trivial⟩)) ?_
    have hBX : mentB b v10 v15 v19 v23 v27 t27 = some ((⟨v10, v15, v19, v23, v27, zop, zgr⟩ : Entry), t27) := by rw [mentB, if_neg (by omega), if_neg (by omega)]
    have hMB := hM
    rw [hBX, Option.bind_some] at hMB
    refine GL.step rfl (t_call rfl fn_112 rfl (is := []) (js := [1, 1, 0]) rfl rfl (by exact ment_ct (⟨v10, v15, v19, v23, v27, zop, zgr⟩ : Entry) _ _ _ _ _ _ (by simp [zgr]))) (GL.ret ?_)
    rintro _ _ _ ⟨rfl, rfl, rfl⟩
    refine GL.pure rfl (p_neq rfl rfl) ?_; refine GL.nl_ ?_; refine GC.cond rfl (fun h5 => ?_) (fun h5 => ?_)
    ·try simp only [tst_] at h5
     refine GC.region ?_; refine GL.pure rfl (p_build ze_200 of_200 rfl rfl) ?_; refine GL.pure rfl (p_mkIface Tryz.underlying200 (fun m h => by cases h) rfl) ?_; refine GL.panicN rfl (fun a w h => ?_)
     exact FinP.panic ⟨⟨42, by decide, rfl⟩, by rw [hMB, mentC]; exact if_neg (by assumption)⟩ h
    ·try simp only [tst_] at h5
     refine GC.skip (?_ : GC _ _ _ _)
     refine GC.sr_ ?_; refine GL.step rfl (t_mem rfl (m_loadN (i := 1) rfl rfl ag_64 (vs := [_, _, _, _, _, _, _, _, _, _, _, _]) sz_64 ⟨rfl, rfl, rfl, rfl, rfl, rfl, rfl, rfl, rfl, rfl, rfl, rfl, trivial⟩)) ?_; refine GL.step rfl (t_storeN (i := 2) rfl rfl rfl sz_64 rfl rfl rfl) ?_
     refine GL.nl_ ?_; refine GC.ret ?_
     refine fun a w h => FinP.back (rs := [.cell 2 64]) (vs := [_]) (is := [0]) (js := [1, 1, 0]) rfl ⟨⟨2, _, _, _, _, rfl, rfl, .inr ⟨[_, _, _, _, _, _, _, _, _, _, _, _], rfl, ag_64, sz_64, ⟨rfl, rfl, rfl, rfl, rfl, rfl, rfl, rfl, rfl, rfl, rfl, rfl, trivial⟩⟩⟩, trivial⟩ rfl rfl ?_ h
     clear h
     exact ⟨_, _, by rw [hMB, mentC]; exact if_pos (by assumption), by omega, ⟨none, 0, none, 0, none, 0, by simp [zop], by omega, by simp [zop], by omega, by simp [zgr], by omega, rfl, rfl⟩, rfl⟩
end Go.Proofs.YtdhdmbmknpjhbaaGreat
namespace Go.Proofs.YtdhdmbmknpjhbaaGreat
open Go Go.Sx Go.Proofs
def mpgF (b : List UInt8) (t : Nat) : Option (Page × Nat) := (mnumF b t 4).bind fun a => (mnumF b a.2 8).bind fun v => (mtxF b v.2).map fun d => (⟨a.1, v.1, d.1⟩, d.2)
def mrowF (b : List UInt8) (t : Nat) : Option (Row × Nat) := (mnumF b t 8).bind fun c => (mnumF b c.2 8).bind fun s => (decRes (seg b s.2 b.length)).map fun r => (⟨c.1, s.1, r.1⟩, s.2 + r.2)
def mstC (r : Stt × Nat) : Option (Stt × Nat) := if heldOk r.1 ∧ r.2 ≤ 33554432 then some r else none
def mstF (b : List UInt8) (at_ : Nat) : Option (Stt × Nat) :=
  (mnumF b at_ 8).bind fun n => (mnumF b n.2 4).bind fun bl => (mnumF b bl.2 4).bind fun sz => (mnumF b sz.2 4).bind fun pc => (manyF (mpgF b) pc.2 pc.1.toNat).bind fun ps => (mnumF b ps.2 1).bind fun rc => (manyF (mrowF b) rc.2 rc.1.toNat).bind fun rs => (mgrpF b rs.2).bind fun g => mstC (⟨n.1, ⟨bl.1, sz.1⟩, ps.1, rs.1, g.1⟩, g.2)
theorem decRes_len {b : List UInt8} {o : Res} {n : Nat} (h : decRes b = some (o, n)) : o.data.length ≤ 262144 := by
  unfold decRes at h
  split at h
  · rename_i hh
    rw [← (Prod.mk.inj (Option.some.inj h)).1]
    exact (res_rng hh.2).2.2
  · cases h
abbrev SttR (s : Stt) (u : Value) (Q : List Pers) : Prop := ∃ A cp B cq C cr, s.pages.length ≤ cp ∧ cp ≤ 9223372036854775807 ∧ s.rows.length ≤ cq ∧ cq ≤ 9223372036854775807 ∧ s.grp.members.length ≤ cr ∧ cr ≤ 9223372036854775807 ∧ u = sttV s A cp B cq C cr ∧ Q = sttQ s A B C
theorem mstr_ct (p e_ : Nat) (A : Option Addr) (b : List UInt8) (cp at_ : Nat) (hb : b.length ≤ cp) (hcp' : cp ≤ 9223372036854775807) (hb' : b.length ≤ 10000000000000) (hat : at_ ≤ b.length) : CtP Tryz.prog 156 [.pointer (some ⟨p, 0, none⟩)] (mleftG p e_ A b cp at_) [Pers.row Kd.u8 A b]
    (fun u G Q => ∃ (s : Stt) (t : Nat), mstF b at_ = some (s, t) ∧ t ≤ b.length ∧ SttLen s ∧ SttR s u Q ∧ G = mleftG p e_ A b cp t) (fun v => mFault v ∧ mstF b at_ = none) := by
 have hp1 : (256 : Nat) ^ 1 = 256 := p256_1
 have hp4 : (256 : Nat) ^ 4 = 4294967296 := p256_4
 refine CtP.intro Tryz.func156 rfl rfl rfl (fun c hc => ?_)
 refine GC.sr_ ?_; refine GL.step rfl (t_alloc rfl ze_39) (GL.ex fun b_t2 => ?_); refine GL.nl_ ?_; refine GC.seq' ?_; refine GC.regionXM (m := 16) (M := fun a w => ∃ v13 : Int, ∃ t13 : Nat, ∃ v17 : Int, ∃ t17 : Nat, ∃ v21 : Int, ∃ t21 : Nat, ∃ b_t3 : Nat, (mnumF b at_ 8 = some (v13, t13) ∧ mnumF b t13 4 = some (v17, t17) ∧ mnumF b t17 4 = some (v21, t21)) ∧ St c 122 [(0, .pointer (some ⟨p, 0, none⟩)), (2, .pointer (some ⟨b_t2, 0, none⟩)), (3, .pointer (some ⟨b_t3, 0, none⟩))] [.cells p [.slice A b.length cp, .int .i64 (t21 : Int)] e_, .cells b_t3 [.int .i64 v13, .int .i64 v17, .int .i64 v21, .slice none 0 0, .slice none 0 0, .int .i64 0, .slice none 0 0] 39, .cells b_t2 [.int .i64 0, .int .i64 0, .int .i64 0, .slice none 0 0, .slice none 0 0, .int .i64 0, .slice none 0 0] 39] [Pers.row Kd.u8 A b] a w) (is := [0]) (js := [0]) wide_ rfl rfl rfl (fun _ _ _ hd hp hD => ⟨hd.trans hD, .inr hp⟩) ?_ ?_
 ·refine GX.take 0 rfl (by kernel_rfl) (by kernel_rfl) (by kernel_rfl) rfl (fun a w h => h.mem (is := [0]) (js := [0]) rfl rfl) (i_pure (p_move rfl)) ?_
  refine GX.take 1 rfl (by kernel_rfl) (by kernel_rfl) (by kernel_rfl) rfl (fun a w h => h.mem (is := [0]) (js := [0]) rfl rfl) (i_pure (p_nilCheck rfl)) ?_
  refine GX.take 2 rfl (by kernel_rfl) (by kernel_rfl) (by kernel_rfl) rfl (fun a w h => h.mem (is := [0]) (js := [0]) rfl rfl) (i_pure (p_fieldAddr fo_205_0 rfl)) ?_
  refine GX.take 4 rfl (by kernel_rfl) (by kernel_rfl) (by kernel_rfl) rfl (fun a w h => h.mem (is := [0]) (js := [0]) rfl rfl) (i_pure (p_move rfl)) ?_
  refine GX.take 5 rfl (by kernel_rfl) (by kernel_rfl) (by kernel_rfl) rfl (fun a w h => h.mem (is := [0]) (js := [0]) rfl rfl) (i_pure (p_nilCheck rfl)) ?_
  refine GX.take 6 rfl (by kernel_rfl) (by kernel_rfl) (by kernel_rfl) rfl (fun a w h => h.mem (is := [0]) (js := [0]) rfl rfl) (i_pure (p_fieldAddr fo_205_0 rfl)) ?_
  refine GX.take 8 rfl (by kernel_rfl) (by kernel_rfl) (by kernel_rfl) rfl (fun a w h => h.mem (is := [0]) (js := [0]) rfl rfl) (i_pure (p_move rfl)) ?_
  refine GX.take 9 rfl (by kernel_rfl) (by kernel_rfl) (by kernel_rfl) rfl (fun a w h => h.mem (is := [0]) (js := [0]) rfl rfl) (i_pure (p_nilCheck rfl)) ?_
  refine GX.take 10 rfl (by kernel_rfl) (by kernel_rfl) (by kernel_rfl) rfl (fun a w h => h.mem (is := [0]) (js := [0]) rfl rfl) (i_pure (p_fieldAddr fo_205_0 rfl)) ?_
  refine GX.all (rs := [3, 14]) (by kernel_rfl) (by simp) ?_
  refine GXs.consP (i := 3) rfl rfl fn_158 rfl (is := [1]) (js := [0]) rfl rfl (by exact (mlnum_ct _ _ _ b _ at_ 8 (by omega) (by omega) (by omega) (by omega) (by omega)).mono (fun _ _ _ h => h) (fun _ h => ⟨h.1, by simp only [mstF, h.2, Option.bind_none]⟩)) (by rintro a w ⟨_, _, _, ⟨v13, t13, hs13, rfl, rfl, rfl⟩, h⟩; exact h.mem (is := [1]) (js := [0]) rfl rfl) (GX.ret ?_) ?_
  ·rintro _ _ _ ⟨v13, t13, hs13, rfl, rfl, rfl⟩
   obtain ⟨ht13, hu13, hv13, hw13, hx13⟩ := mnumF_rng hs13
   refine GX.all (rs := [7, 14]) (by kernel_rfl) (by simp) ?_
   refine GXs.consP (i := 7) rfl rfl fn_158 rfl (is := [0]) (js := [0]) rfl rfl (by exact (mlnum_ct _ _ _ b _ t13 4 (by omega) (by omega) (by omega) (by omega) (by omega)).mono (fun _ _ _ h => h) (fun _ h => ⟨h.1, by simp only [mstF, hs13, Option.bind_some, h.2, Option.bind_none]⟩)) (by rintro a w ⟨_, _, _, ⟨v17, t17, hs17, rfl, rfl, rfl⟩, h⟩; exact h.mem (is := [1]) (js := [0]) rfl rfl) (GX.ret ?_) ?_
   ·rintro _ _ _ ⟨v17, t17, hs17, rfl, rfl, rfl⟩
    obtain ⟨ht17, hu17, hv17, hw17, hx17⟩ := mnumF_rng hs17
    refine GX.all (rs := [11, 14]) (by kernel_rfl) (by simp) ?_
    refine GXs.consP (i := 11) rfl rfl fn_158 rfl (is := [0]) (js := [0]) rfl rfl (by exact (mlnum_ct _ _ _ b _ t17 4 (by omega) (by omega) (by omega) (by omega) (by omega)).mono (fun _ _ _ h => h) (fun _ h => ⟨h.1, by simp only [mstF, hs13, hs17, Option.bind_some, h.2, Option.bind_none]⟩)) (by rintro a w ⟨_, _, _, ⟨v21, t21, hs21, rfl, rfl, rfl⟩, h⟩; exact h.mem (is := [1]) (js := [0]) rfl rfl) (GX.ret ?_) ?_
    ·rintro _ _ _ ⟨v21, t21, hs21, rfl, rfl, rfl⟩
     obtain ⟨ht21, hu21, hv21, hw21, hx21⟩ := mnumF_rng hs21
     refine GX.take 12 rfl (by kernel_rfl) (by kernel_rfl) (by kernel_rfl) rfl (fun a w h => h.mem (is := [1]) (js := [0]) rfl rfl) (i_pure (p_build ze_35 of_35 rfl rfl)) ?_
     refine GX.take 13 rfl (by kernel_rfl) (by kernel_rfl) (by kernel_rfl) rfl (fun a w h => h.mem (is := [1]) (js := [0]) rfl rfl) (i_pure (p_build ze_39 of_39 rfl rfl)) ?_
     refine GX.all (rs := [14]) (by kernel_rfl) (by simp) ?_
     refine GXs.cons (i := 14) rfl rfl (t_alloc rfl ze_39) (by rintro a w ⟨_, h⟩; exact h.mem (is := [2]) (js := [0]) rfl rfl) (GX.ex fun b_t3 => ?_) ?_
     ·refine GX.all (rs := [15]) (by kernel_rfl) (by simp) ?_
      refine GXs.cons (i := 15) rfl rfl (t_storeN (i := 0) rfl rfl rfl sz_39 rfl rfl rfl) (by rintro a w h; exact h.mem (is := [2]) (js := [0]) rfl rfl) ?_ ?_
      ·exact GX.done (by kernel_rfl) (fun a w h => ⟨_, _, _, _, _, _, _, ⟨hs13, hs17, hs21⟩, h.cut (is := [1, 0, 0]) (js := [0]) ⟨rfl, rfl, rfl, trivial⟩ rfl rfl⟩)
      exact GXs.nil
     exact GXs.nil
    refine GXs.cons (i := 14) rfl rfl (t_alloc rfl ze_39) (by rintro a w ⟨_, h⟩; exact h.mem (is := [2]) (js := [0]) rfl rfl) (GX.ex fun b_t3 => ?_) ?_
    ·refine GX.all (rs := [11]) (by kernel_rfl) (by simp) ?_
     refine GXs.consP (i := 11) rfl rfl fn_158 rfl (is := [1]) (js := [0]) rfl rfl (by exact (mlnum_ct _ _ _ b _ t17 4 (by omega) (by omega) (by omega) (by omega) (by omega)).mono (fun _ _ _ h => h) (fun _ h => ⟨h.1, by simp only [mstF, hs13, hs17, Option.bind_some, h.2, Option.bind_none]⟩)) (by rintro a w ⟨_, _, _, ⟨v21, t21, hs21, rfl, rfl, rfl⟩, h⟩; exact h.mem (is := [2]) (js := [0]) rfl rfl) (GX.ret ?_) ?_
     ·rintro _ _ _ ⟨v21, t21, hs21, rfl, rfl, rfl⟩
      obtain ⟨ht21, hu21, hv21, hw21, hx21⟩ := mnumF_rng hs21
      refine GX.take 12 rfl (by kernel_rfl) (by kernel_rfl) (by kernel_rfl) rfl (fun a w h => h.mem (is := [2]) (js := [0]) rfl rfl) (i_pure (p_build ze_35 of_35 rfl rfl)) ?_
      refine GX.take 13 rfl (by kernel_rfl) (by kernel_rfl) (by kernel_rfl) rfl (fun a w h => h.mem (is := [2]) (js := [0]) rfl rfl) (i_pure (p_build ze_39 of_39 rfl rfl)) ?_
      refine GX.all (rs := [15]) (by kernel_rfl) (by simp) ?_
      refine GXs.cons (i := 15) rfl rfl (t_storeN (i := 1) rfl rfl rfl sz_39 rfl rfl rfl) (by rintro a w h; exact h.mem (is := [2]) (js := [0]) rfl rfl) ?_ ?_
      ·exact GX.done (by kernel_rfl) (fun a w h => ⟨_, _, _, _, _, _, _, ⟨hs13, hs17, hs21⟩, h.cut (is := [0, 0, 0]) (js := [0]) ⟨rfl, rfl, rfl, trivial⟩ rfl rfl⟩)
      exact GXs.nil
     exact GXs.nil
    exact GXs.nil
   refine GXs.cons (i := 14) rfl rfl (t_alloc rfl ze_39) (by rintro a w ⟨_, h⟩; exact h.mem (is := [2]) (js := [0]) rfl rfl) (GX.ex fun b_t3 => ?_) ?_
   ·refine GX.all (rs := [7]) (by kernel_rfl) (by simp) ?_
    refine GXs.consP (i := 7) rfl rfl fn_158 rfl (is := [1]) (js := [0]) rfl rfl (by exact (mlnum_ct _ _ _ b _ t13 4 (by omega) (by omega) (by omega) (by omega) (by omega)).mono (fun _ _ _ h => h) (fun _ h => ⟨h.1, by simp only [mstF, hs13, Option.bind_some, h.2, Option.bind_none]⟩)) (by rintro a w ⟨_, _, _, ⟨v17, t17, hs17, rfl, rfl, rfl⟩, h⟩; exact h.mem (is := [2]) (js := [0]) rfl rfl) (GX.ret ?_) ?_
    ·rintro _ _ _ ⟨v17, t17, hs17, rfl, rfl, rfl⟩
     obtain ⟨ht17, hu17, hv17, hw17, hx17⟩ := mnumF_rng hs17
     refine GX.all (rs := [11]) (by kernel_rfl) (by simp) ?_
     refine GXs.consP (i := 11) rfl rfl fn_158 rfl (is := [0]) (js := [0]) rfl rfl (by exact (mlnum_ct _ _ _ b _ t17 4 (by omega) (by omega) (by omega) (by omega) (by omega)).mono (fun _ _ _ h => h) (fun _ h => ⟨h.1, by simp only [mstF, hs13, hs17, Option.bind_some, h.2, Option.bind_none]⟩)) (by rintro a w ⟨_, _, _, ⟨v21, t21, hs21, rfl, rfl, rfl⟩, h⟩; exact h.mem (is := [2]) (js := [0]) rfl rfl) (GX.ret ?_) ?_
     ·rintro _ _ _ ⟨v21, t21, hs21, rfl, rfl, rfl⟩
      obtain ⟨ht21, hu21, hv21, hw21, hx21⟩ := mnumF_rng hs21
      refine GX.take 12 rfl (by kernel_rfl) (by kernel_rfl) (by kernel_rfl) rfl (fun a w h => h.mem (is := [2]) (js := [0]) rfl rfl) (i_pure (p_build ze_35 of_35 rfl rfl)) ?_
      refine GX.take 13 rfl (by kernel_rfl) (by kernel_rfl) (by kernel_rfl) rfl (fun a w h => h.mem (is := [2]) (js := [0]) rfl rfl) (i_pure (p_build ze_39 of_39 rfl rfl)) ?_
      refine GX.all (rs := [15]) (by kernel_rfl) (by simp) ?_
      refine GXs.cons (i := 15) rfl rfl (t_storeN (i := 1) rfl rfl rfl sz_39 rfl rfl rfl) (by rintro a w h; exact h.mem (is := [2]) (js := [0]) rfl rfl) ?_ ?_
      ·exact GX.done (by kernel_rfl) (fun a w h => ⟨_, _, _, _, _, _, _, ⟨hs13, hs17, hs21⟩, h.cut (is := [0, 0, 0]) (js := [0]) ⟨rfl, rfl, rfl, trivial⟩ rfl rfl⟩)
      exact GXs.nil
     exact GXs.nil
    exact GXs.nil
   exact GXs.nil
  refine GXs.cons (i := 14) rfl rfl (t_alloc rfl ze_39) (by rintro a w ⟨_, h⟩; exact h.mem (is := [1]) (js := [0]) rfl rfl) (GX.ex fun b_t3 => ?_) ?_
  ·refine GX.all (rs := [3]) (by kernel_rfl) (by simp) ?_
   refine GXs.consP (i := 3) rfl rfl fn_158 rfl (is := [2]) (js := [0]) rfl rfl (by exact (mlnum_ct _ _ _ b _ at_ 8 (by omega) (by omega) (by omega) (by omega) (by omega)).mono (fun _ _ _ h => h) (fun _ h => ⟨h.1, by simp only [mstF, h.2, Option.bind_none]⟩)) (by rintro a w ⟨_, _, _, ⟨v13, t13, hs13, rfl, rfl, rfl⟩, h⟩; exact h.mem (is := [2]) (js := [0]) rfl rfl) (GX.ret ?_) ?_
   ·rintro _ _ _ ⟨v13, t13, hs13, rfl, rfl, rfl⟩
    obtain ⟨ht13, hu13, hv13, hw13, hx13⟩ := mnumF_rng hs13
    refine GX.all (rs := [7]) (by kernel_rfl) (by simp) ?_
    refine GXs.consP (i := 7) rfl rfl fn_158 rfl (is := [0]) (js := [0]) rfl rfl (by exact (mlnum_ct _ _ _ b _ t13 4 (by omega) (by omega) (by omega) (by omega) (by omega)).mono (fun _ _ _ h => h) (fun _ h => ⟨h.1, by simp only [mstF, hs13, Option.bind_some, h.2, Option.bind_none]⟩)) (by rintro a w ⟨_, _, _, ⟨v17, t17, hs17, rfl, rfl, rfl⟩, h⟩; exact h.mem (is := [2]) (js := [0]) rfl rfl) (GX.ret ?_) ?_
    ·rintro _ _ _ ⟨v17, t17, hs17, rfl, rfl, rfl⟩
     obtain ⟨ht17, hu17, hv17, hw17, hx17⟩ := mnumF_rng hs17
     refine GX.all (rs := [11]) (by kernel_rfl) (by simp) ?_
     refine GXs.consP (i := 11) rfl rfl fn_158 rfl (is := [0]) (js := [0]) rfl rfl (by exact (mlnum_ct _ _ _ b _ t17 4 (by omega) (by omega) (by omega) (by omega) (by omega)).mono (fun _ _ _ h => h) (fun _ h => ⟨h.1, by simp only [mstF, hs13, hs17, Option.bind_some, h.2, Option.bind_none]⟩)) (by rintro a w ⟨_, _, _, ⟨v21, t21, hs21, rfl, rfl, rfl⟩, h⟩; exact h.mem (is := [2]) (js := [0]) rfl rfl) (GX.ret ?_) ?_
     ·rintro _ _ _ ⟨v21, t21, hs21, rfl, rfl, rfl⟩
      obtain ⟨ht21, hu21, hv21, hw21, hx21⟩ := mnumF_rng hs21
      refine GX.take 12 rfl (by kernel_rfl) (by kernel_rfl) (by kernel_rfl) rfl (fun a w h => h.mem (is := [2]) (js := [0]) rfl rfl) (i_pure (p_build ze_35 of_35 rfl rfl)) ?_
      refine GX.take 13 rfl (by kernel_rfl) (by kernel_rfl) (by kernel_rfl) rfl (fun a w h => h.mem (is := [2]) (js := [0]) rfl rfl) (i_pure (p_build ze_39 of_39 rfl rfl)) ?_
      refine GX.all (rs := [15]) (by kernel_rfl) (by simp) ?_
      refine GXs.cons (i := 15) rfl rfl (t_storeN (i := 1) rfl rfl rfl sz_39 rfl rfl rfl) (by rintro a w h; exact h.mem (is := [2]) (js := [0]) rfl rfl) ?_ ?_
      ·exact GX.done (by kernel_rfl) (fun a w h => ⟨_, _, _, _, _, _, _, ⟨hs13, hs17, hs21⟩, h.cut (is := [0, 0, 0]) (js := [0]) ⟨rfl, rfl, rfl, trivial⟩ rfl rfl⟩)
      exact GXs.nil
     exact GXs.nil
    exact GXs.nil
   exact GXs.nil
  exact GXs.nil
 ·refine (?_ : GC _ _ _ _)
  refine GC.ex fun v13 => GC.ex fun t13 => GC.ex fun v17 => GC.ex fun t17 => GC.ex fun v21 => GC.ex fun t21 => GC.ex fun b_t3 => GC.and fun ⟨hs13, hs17, hs21⟩ => ?_; refine GC.seq' ?_; refine GC.sr_ ?_
  obtain ⟨ht13, hu13, hv13, hw13, hx13⟩ := mnumF_rng hs13
  obtain ⟨ht17, hu17, hv17, hw17, hx17⟩ := mnumF_rng hs17
  obtain ⟨ht21, hu21, hv21, hw21, hx21⟩ := mnumF_rng hs21
  refine GL.mv_ rfl rfl ?_; refine GL.pure rfl (p_nilCheck rfl) ?_; refine GL.pure rfl (p_fieldAddr fo_205_0 rfl) ?_; refine GL.callP rfl fn_158 rfl (is := [0]) (js := [0]) rfl rfl (by exact (mlnum_ct _ _ _ b _ t21 4 (by omega) (by omega) (by omega) (by omega) (by omega)).mono (fun _ _ _ h => h) (fun _ h => ⟨h.1, by simp only [mstF, hs13, hs17, hs21, Option.bind_some, h.2, Option.bind_none]⟩)) (fun v a w he h => FinP.panic he h) (GL.ret ?_)
  rintro _ _ _ ⟨v27, t27, hs27, rfl, rfl, rfl⟩
  obtain ⟨ht27, hu27, hv27, hw27, hx27⟩ := mnumF_rng hs27
  have hpos := mnumF_pos hs27 (by omega)
  refine GL.nilrow 59 3 ?_; refine GL.know (q := Pers.reps kPage [] []) (fun _ _ _ => rfl) ?_; refine GL.mv_ rfl rfl ?_; refine GL.nl_ ?_; refine GC.block ?_; refine GC.loopK5 (ks := [0, 2, 3, 27]) (is := [3]) (js := [1]) (fun (k : Nat) (ps : List Page) (V : Value) (cs : List Value) (t : Nat) => (ps.length = k ∧ t ≤ b.length) ∧ (k : Int) ≤ v27 ∧ manyF (mpgF b) t27 k = some (ps, t) ∧ ∀ p ∈ ps, p.data.length ≤ 16777216) (fun (k : Nat) (ps : List Page) (V : Value) (cs : List Value) (t : Nat) => [(28, .int .i64 (k : Int))]) (fun (k : Nat) (ps : List Page) (V : Value) (cs : List Value) (t : Nat) => [.cells p [.slice A b.length cp, .int .i64 (t : Int)] e_, .cells b_t3 [.int .i64 v13, .int .i64 v17, .int .i64 v21, V, .slice none 0 0, .int .i64 0, .slice none 0 0] 39, .row V 59 3 ps.length cs]) (fun (k : Nat) (ps : List Page) (V : Value) (cs : List Value) (t : Nat) => [Pers.reps kPage ps cs]) (fun (k : Nat) (ps : List Page) (V : Value) (cs : List Value) (t : Nat) => v27.toNat - k) (0) ([]) (_) ([]) (t27) rfl rfl rfl (fun a w h => ⟨⟨⟨rfl, by omega⟩, by omega, rfl, by simp⟩, h.cutK (is := [1, 1, 0, 0]) (js := [0, 1]) (ks := [0, 2, 3, 27]) ⟨rfl, trivial⟩ rfl rfl rfl⟩) ?_
  intro k ps V cs t hk
  try dsimp only [List.cons_append, List.nil_append] at hk ⊢
  refine GC.sr_ ?_; refine GL.pure rfl (p_lss rfl rfl) ?_; refine GL.nl_ ?_; refine GC.seq' ?_; refine GC.cond rfl (fun h1 => ?_) (fun h1 => ?_)
  ·try simp only [tst_] at h1
   refine GC.skip (?_ : GC _ _ _ _)
   refine GC.seq' ?_; refine GC.block ?_; refine GC.regionX (m := 19) (is := [3]) (js := [0, 1]) wide_ rfl rfl rfl (fun _ _ _ hd hp hD => ⟨hd.trans hD, .inr hp⟩) ?_
   refine GX.take 0 rfl (by kernel_rfl) (by kernel_rfl) (by kernel_rfl) rfl (fun a w h => h.mem (is := [3]) (js := [0, 1]) rfl rfl) (i_pure (p_fieldAddr fo_39_2 rfl)) ?_
   refine GX.take 2 rfl (by kernel_rfl) (by kernel_rfl) (by kernel_rfl) rfl (fun a w h => h.mem (is := [3]) (js := [0, 1]) rfl rfl) (i_pure (p_move rfl)) ?_
   refine GX.take 3 rfl (by kernel_rfl) (by kernel_rfl) (by kernel_rfl) rfl (fun a w h => h.mem (is := [3]) (js := [0, 1]) rfl rfl) (i_pure (p_nilCheck rfl)) ?_
   refine GX.take 4 rfl (by kernel_rfl) (by kernel_rfl) (by kernel_rfl) rfl (fun a w h => h.mem (is := [3]) (js := [0, 1]) rfl rfl) (i_pure (p_fieldAddr fo_205_0 rfl)) ?_
   refine GX.take 6 rfl (by kernel_rfl) (by kernel_rfl) (by kernel_rfl) rfl (fun a w h => h.mem (is := [3]) (js := [0, 1]) rfl rfl) (i_pure (p_move rfl)) ?_
   refine GX.take 7 rfl (by kernel_rfl) (by kernel_rfl) (by kernel_rfl) rfl (fun a w h => h.mem (is := [3]) (js := [0, 1]) rfl rfl) (i_pure (p_nilCheck rfl)) ?_
   refine GX.take 8 rfl (by kernel_rfl) (by kernel_rfl) (by kernel_rfl) rfl (fun a w h => h.mem (is := [3]) (js := [0, 1]) rfl rfl) (i_pure (p_fieldAddr fo_205_0 rfl)) ?_
   refine GX.take 10 rfl (by kernel_rfl) (by kernel_rfl) (by kernel_rfl) rfl (fun a w h => h.mem (is := [3]) (js := [0, 1]) rfl rfl) (i_pure (p_move rfl)) ?_
   refine GX.take 11 rfl (by kernel_rfl) (by kernel_rfl) (by kernel_rfl) rfl (fun a w h => h.mem (is := [3]) (js := [0, 1]) rfl rfl) (i_pure (p_nilCheck rfl)) ?_
   refine GX.take 12 rfl (by kernel_rfl) (by kernel_rfl) (by kernel_rfl) rfl (fun a w h => h.mem (is := [3]) (js := [0, 1]) rfl rfl) (i_pure (p_fieldAddr fo_205_0 rfl)) ?_
   refine GX.all (rs := [1, 5]) (by kernel_rfl) (by simp) ?_
   refine GXs.cons (i := 1) rfl rfl (t_mem rfl (m_load (i := 1) rfl rfl ag_36 rfl)) (by rintro a w h; exact h.mem (is := [3]) (js := [0, 1]) rfl rfl) ?_ ?_
   ·refine GX.all (rs := [5]) (by kernel_rfl) (by simp) ?_
    refine GXs.consP (i := 5) rfl rfl fn_158 rfl (is := [0]) (js := [1]) rfl rfl (by exact (mlnum_ct _ _ _ b _ t 4 (by omega) (by omega) (by omega) (by omega) (by omega)).mono (fun _ _ _ h => h) (fun _ h => ⟨h.1, by simp only [mstF, hs13, hs17, hs21, hs27, Option.bind_some]; rw [manyF_fail hk.2.2.1 (show mpgF b t = none from by simp only [mpgF, h.2, Option.bind_none]) (by omega)]; rfl⟩)) (by rintro a w ⟨_, _, _, ⟨v35, t35, hs35, rfl, rfl, rfl⟩, h⟩; exact h.mem (is := [3]) (js := [0, 1]) rfl rfl) (GX.ret ?_) ?_
    ·rintro _ _ _ ⟨v35, t35, hs35, rfl, rfl, rfl⟩
     obtain ⟨ht35, hu35, hv35, hw35, hx35⟩ := mnumF_rng hs35
     refine GX.all (rs := [9]) (by kernel_rfl) (by simp) ?_
     refine GXs.consP (i := 9) rfl rfl fn_158 rfl (is := [0]) (js := [1]) rfl rfl (by exact (mlnum_ct _ _ _ b _ t35 8 (by omega) (by omega) (by omega) (by omega) (by omega)).mono (fun _ _ _ h => h) (fun _ h => ⟨h.1, by simp only [mstF, hs13, hs17, hs21, hs27, Option.bind_some]; rw [manyF_fail hk.2.2.1 (show mpgF b t = none from by simp only [mpgF, hs35, Option.bind_some, h.2, Option.bind_none]) (by omega)]; rfl⟩)) (by rintro a w ⟨_, _, _, ⟨v39, t39, hs39, rfl, rfl, rfl⟩, h⟩; exact h.mem (is := [3]) (js := [0, 1]) rfl rfl) (GX.ret ?_) ?_
     ·rintro _ _ _ ⟨v39, t39, hs39, rfl, rfl, rfl⟩
      obtain ⟨ht39, hu39, hv39, hw39, hx39⟩ := mnumF_rng hs39
      refine GX.all (rs := [13]) (by kernel_rfl) (by simp) ?_
      refine GXs.consP (i := 13) rfl rfl fn_171 rfl (is := [0]) (js := [1]) rfl rfl (by exact (mltext_ct _ _ _ b _ t39 (by omega) (by omega) (by omega) (by omega)).mono (fun _ _ _ h => h) (fun _ h => ⟨h.1, by simp only [mstF, hs13, hs17, hs21, hs27, Option.bind_some]; rw [manyF_fail hk.2.2.1 (show mpgF b t = none from by simp only [mpgF, hs35, hs39, Option.bind_some, h.2, Option.map_none]) (by omega)]; rfl⟩)) (by rintro a w ⟨_, _, _, ⟨x43, t43, A43, c43, hs43, l43, m43, rfl, rfl, rfl⟩, h⟩; exact h.mem (is := [3]) (js := [1, 2]) rfl rfl) (GX.ret ?_) ?_
      ·rintro _ _ _ ⟨x43, t43, A43, c43, hs43, l43, m43, rfl, rfl, rfl⟩
       obtain ⟨ht43, hx43⟩ := mtxF_rng hs43
       refine GX.take 14 rfl (by kernel_rfl) (by kernel_rfl) (by kernel_rfl) rfl (fun a w h => h.mem (is := [3]) (js := [1, 2]) rfl rfl) (i_pure (p_build ze_59 of_59 rfl rfl)) ?_
       refine GX.all (rs := [15]) (by kernel_rfl) (by simp) ?_
       refine GXs.cons (i := 15) rfl rfl (t_buildSlice rfl Tryz.underlying36 sz_59 ze_59 rfl rfl rfl rfl rfl rfl) (by rintro a w ⟨_, h⟩; exact h.mem (is := [4]) (js := [1, 2]) rfl rfl) (GX.ex fun b_t45 => ?_) ?_
       ·refine GX.all (rs := [16]) (by kernel_rfl) (by simp) ?_
        refine GXs.cons (i := 16) rfl rfl (t_append (i := 3) (k := 0) rfl el_36 rfl rfl rfl rfl rfl (allOne_mem rfl) (by first | (have := hk.1.1; omega) | (have := hj.1.1; omega)) (fun _ => rfl)) (by rintro a w ⟨_, h⟩; exact h.mem (is := [4]) (js := [1, 2]) rfl rfl) (GX.ex fun v46 => ?_) ?_
        ·refine GX.shape (i := 3) rfl (fun A_v46 c_v46 e_v46 l_v46 k_v46 => ?_)
         subst e_v46
         refine GX.take 17 rfl (by kernel_rfl) (by kernel_rfl) (by kernel_rfl) rfl (fun a w h => h.mem (is := [4]) (js := [1, 2]) rfl rfl) (i_pure (p_fieldAddr fo_39_2 rfl)) ?_
         refine GX.snoc (j := 1) (js := [0]) (⟨v35, v39, x43⟩ : Page) ((), ((), (A43, c43))) rfl rfl ⟨trivial, trivial, l43, m43⟩ ?_
         refine GX.all (rs := [18]) (by kernel_rfl) (by simp) ?_
         refine GXs.cons (i := 18) rfl rfl (t_store (i := 2) rfl rfl rfl rfl sz_36 rfl rfl rfl) (by rintro a w h; exact h.mem (is := [4]) (js := [2, 3]) rfl rfl) ?_ ?_
         ·refine GX.done (by kernel_rfl) (?_ : GC _ _ _ _)
          refine GC.region ?_; refine GL.pure rfl (p_add rfl rfl (w64 (by omega) (by omega))) ?_; refine GL.mv_ rfl rfl ?_; refine GL.nil ?_
          exact fun a w h => ⟨(k + 1), (ps ++ [(⟨v35, v39, x43⟩ : Page)]), (_), (_), (_), (by omega), ⟨⟨by simp; omega, by omega⟩, by omega, manyF_next hk.2.2.1 (show mpgF b t = some _ from by simp only [mpgF, hs35, hs39, Option.bind_some, hs43, Option.map_some]), fun p hp => by rcases List.mem_append.1 hp with hp | hp; exact hk.2.2.2 p hp; rw [List.mem_singleton.1 hp]; exact hx43⟩, by rw [List.length_append]; exact h.cut (is := [1, 1, 1, 1]) (js := [0, 3]) ⟨rfl, rfl, rfl, rfl, rfl, trivial⟩ rfl rfl⟩
         exact GXs.nil
        exact GXs.nil
       exact GXs.nil
      exact GXs.nil
     exact GXs.nil
    exact GXs.nil
   refine GXs.consP (i := 5) rfl rfl fn_158 rfl (is := [0]) (js := [1]) rfl rfl (by exact (mlnum_ct _ _ _ b _ t 4 (by omega) (by omega) (by omega) (by omega) (by omega)).mono (fun _ _ _ h => h) (fun _ h => ⟨h.1, by simp only [mstF, hs13, hs17, hs21, hs27, Option.bind_some]; rw [manyF_fail hk.2.2.1 (show mpgF b t = none from by simp only [mpgF, h.2, Option.bind_none]) (by omega)]; rfl⟩)) (by rintro a w ⟨_, _, _, ⟨v35, t35, hs35, rfl, rfl, rfl⟩, h⟩; exact h.mem (is := [3]) (js := [0, 1]) rfl rfl) (GX.ret ?_) ?_
   ·rintro _ _ _ ⟨v35, t35, hs35, rfl, rfl, rfl⟩
    obtain ⟨ht35, hu35, hv35, hw35, hx35⟩ := mnumF_rng hs35
    refine GX.all (rs := [1, 9]) (by kernel_rfl) (by simp) ?_
    refine GXs.cons (i := 1) rfl rfl (t_mem rfl (m_load (i := 1) rfl rfl ag_36 rfl)) (by rintro a w h; exact h.mem (is := [3]) (js := [0, 1]) rfl rfl) ?_ ?_
    ·refine GX.all (rs := [9]) (by kernel_rfl) (by simp) ?_
     refine GXs.consP (i := 9) rfl rfl fn_158 rfl (is := [0]) (js := [1]) rfl rfl (by exact (mlnum_ct _ _ _ b _ t35 8 (by omega) (by omega) (by omega) (by omega) (by omega)).mono (fun _ _ _ h => h) (fun _ h => ⟨h.1, by simp only [mstF, hs13, hs17, hs21, hs27, Option.bind_some]; rw [manyF_fail hk.2.2.1 (show mpgF b t = none from by simp only [mpgF, hs35, Option.bind_some, h.2, Option.bind_none]) (by omega)]; rfl⟩)) (by rintro a w ⟨_, _, _, ⟨v39, t39, hs39, rfl, rfl, rfl⟩, h⟩; exact h.mem (is := [3]) (js := [0, 1]) rfl rfl) (GX.ret ?_) ?_
     ·rintro _ _ _ ⟨v39, t39, hs39, rfl, rfl, rfl⟩
      obtain ⟨ht39, hu39, hv39, hw39, hx39⟩ := mnumF_rng hs39
      refine GX.all (rs := [13]) (by kernel_rfl) (by simp) ?_
      refine GXs.consP (i := 13) rfl rfl fn_171 rfl (is := [0]) (js := [1]) rfl rfl (by exact (mltext_ct _ _ _ b _ t39 (by omega) (by omega) (by omega) (by omega)).mono (fun _ _ _ h => h) (fun _ h => ⟨h.1, by simp only [mstF, hs13, hs17, hs21, hs27, Option.bind_some]; rw [manyF_fail hk.2.2.1 (show mpgF b t = none from by simp only [mpgF, hs35, hs39, Option.bind_some, h.2, Option.map_none]) (by omega)]; rfl⟩)) (by rintro a w ⟨_, _, _, ⟨x43, t43, A43, c43, hs43, l43, m43, rfl, rfl, rfl⟩, h⟩; exact h.mem (is := [3]) (js := [1, 2]) rfl rfl) (GX.ret ?_) ?_
      ·rintro _ _ _ ⟨x43, t43, A43, c43, hs43, l43, m43, rfl, rfl, rfl⟩
       obtain ⟨ht43, hx43⟩ := mtxF_rng hs43
       refine GX.take 14 rfl (by kernel_rfl) (by kernel_rfl) (by kernel_rfl) rfl (fun a w h => h.mem (is := [3]) (js := [1, 2]) rfl rfl) (i_pure (p_build ze_59 of_59 rfl rfl)) ?_
       refine GX.all (rs := [15]) (by kernel_rfl) (by simp) ?_
       refine GXs.cons (i := 15) rfl rfl (t_buildSlice rfl Tryz.underlying36 sz_59 ze_59 rfl rfl rfl rfl rfl rfl) (by rintro a w ⟨_, h⟩; exact h.mem (is := [4]) (js := [1, 2]) rfl rfl) (GX.ex fun b_t45 => ?_) ?_
       ·refine GX.all (rs := [16]) (by kernel_rfl) (by simp) ?_
        refine GXs.cons (i := 16) rfl rfl (t_append (i := 3) (k := 0) rfl el_36 rfl rfl rfl rfl rfl (allOne_mem rfl) (by first | (have := hk.1.1; omega) | (have := hj.1.1; omega)) (fun _ => rfl)) (by rintro a w ⟨_, h⟩; exact h.mem (is := [4]) (js := [1, 2]) rfl rfl) (GX.ex fun v46 => ?_) ?_
        ·refine GX.shape (i := 3) rfl (fun A_v46 c_v46 e_v46 l_v46 k_v46 => ?_)
         subst e_v46
         refine GX.take 17 rfl (by kernel_rfl) (by kernel_rfl) (by kernel_rfl) rfl (fun a w h => h.mem (is := [4]) (js := [1, 2]) rfl rfl) (i_pure (p_fieldAddr fo_39_2 rfl)) ?_
         refine GX.snoc (j := 1) (js := [0]) (⟨v35, v39, x43⟩ : Page) ((), ((), (A43, c43))) rfl rfl ⟨trivial, trivial, l43, m43⟩ ?_
         refine GX.all (rs := [18]) (by kernel_rfl) (by simp) ?_
         refine GXs.cons (i := 18) rfl rfl (t_store (i := 2) rfl rfl rfl rfl sz_36 rfl rfl rfl) (by rintro a w h; exact h.mem (is := [4]) (js := [2, 3]) rfl rfl) ?_ ?_
         ·refine GX.done (by kernel_rfl) (?_ : GC _ _ _ _)
          refine GC.region ?_; refine GL.pure rfl (p_add rfl rfl (w64 (by omega) (by omega))) ?_; refine GL.mv_ rfl rfl ?_; refine GL.nil ?_
          exact fun a w h => ⟨(k + 1), (ps ++ [(⟨v35, v39, x43⟩ : Page)]), (_), (_), (_), (by omega), ⟨⟨by simp; omega, by omega⟩, by omega, manyF_next hk.2.2.1 (show mpgF b t = some _ from by simp only [mpgF, hs35, hs39, Option.bind_some, hs43, Option.map_some]), fun p hp => by rcases List.mem_append.1 hp with hp | hp; exact hk.2.2.2 p hp; rw [List.mem_singleton.1 hp]; exact hx43⟩, by rw [List.length_append]; exact h.cut (is := [1, 1, 1, 1]) (js := [0, 3]) ⟨rfl, rfl, rfl, rfl, rfl, trivial⟩ rfl rfl⟩
         exact GXs.nil
        exact GXs.nil
       exact GXs.nil
      exact GXs.nil
     exact GXs.nil
    refine GXs.consP (i := 9) rfl rfl fn_158 rfl (is := [0]) (js := [1]) rfl rfl (by exact (mlnum_ct _ _ _ b _ t35 8 (by omega) (by omega) (by omega) (by omega) (by omega)).mono (fun _ _ _ h => h) (fun _ h => ⟨h.1, by simp only [mstF, hs13, hs17, hs21, hs27, Option.bind_some]; rw [manyF_fail hk.2.2.1 (show mpgF b t = none from by simp only [mpgF, hs35, Option.bind_some, h.2, Option.bind_none]) (by omega)]; rfl⟩)) (by rintro a w ⟨_, _, _, ⟨v39, t39, hs39, rfl, rfl, rfl⟩, h⟩; exact h.mem (is := [3]) (js := [0, 1]) rfl rfl) (GX.ret ?_) ?_
    ·rintro _ _ _ ⟨v39, t39, hs39, rfl, rfl, rfl⟩
     obtain ⟨ht39, hu39, hv39, hw39, hx39⟩ := mnumF_rng hs39
     refine GX.all (rs := [1, 13]) (by kernel_rfl) (by simp) ?_
     refine GXs.cons (i := 1) rfl rfl (t_mem rfl (m_load (i := 1) rfl rfl ag_36 rfl)) (by rintro a w h; exact h.mem (is := [3]) (js := [0, 1]) rfl rfl) ?_ ?_
     ·refine GX.all (rs := [13]) (by kernel_rfl) (by simp) ?_
      refine GXs.consP (i := 13) rfl rfl fn_171 rfl (is := [0]) (js := [1]) rfl rfl (by exact (mltext_ct _ _ _ b _ t39 (by omega) (by omega) (by omega) (by omega)).mono (fun _ _ _ h => h) (fun _ h => ⟨h.1, by simp only [mstF, hs13, hs17, hs21, hs27, Option.bind_some]; rw [manyF_fail hk.2.2.1 (show mpgF b t = none from by simp only [mpgF, hs35, hs39, Option.bind_some, h.2, Option.map_none]) (by omega)]; rfl⟩)) (by rintro a w ⟨_, _, _, ⟨x43, t43, A43, c43, hs43, l43, m43, rfl, rfl, rfl⟩, h⟩; exact h.mem (is := [3]) (js := [1, 2]) rfl rfl) (GX.ret ?_) ?_
      ·rintro _ _ _ ⟨x43, t43, A43, c43, hs43, l43, m43, rfl, rfl, rfl⟩
       obtain ⟨ht43, hx43⟩ := mtxF_rng hs43
       refine GX.take 14 rfl (by kernel_rfl) (by kernel_rfl) (by kernel_rfl) rfl (fun a w h => h.mem (is := [3]) (js := [1, 2]) rfl rfl) (i_pure (p_build ze_59 of_59 rfl rfl)) ?_
       refine GX.all (rs := [15]) (by kernel_rfl) (by simp) ?_
       refine GXs.cons (i := 15) rfl rfl (t_buildSlice rfl Tryz.underlying36 sz_59 ze_59 rfl rfl rfl rfl rfl rfl) (by rintro a w ⟨_, h⟩; exact h.mem (is := [4]) (js := [1, 2]) rfl rfl) (GX.ex fun b_t45 => ?_) ?_
       ·refine GX.all (rs := [16]) (by kernel_rfl) (by simp) ?_
        refine GXs.cons (i := 16) rfl rfl (t_append (i := 3) (k := 0) rfl el_36 rfl rfl rfl rfl rfl (allOne_mem rfl) (by first | (have := hk.1.1; omega) | (have := hj.1.1; omega)) (fun _ => rfl)) (by rintro a w ⟨_, h⟩; exact h.mem (is := [4]) (js := [1, 2]) rfl rfl) (GX.ex fun v46 => ?_) ?_
        ·refine GX.shape (i := 3) rfl (fun A_v46 c_v46 e_v46 l_v46 k_v46 => ?_)
         subst e_v46
         refine GX.take 17 rfl (by kernel_rfl) (by kernel_rfl) (by kernel_rfl) rfl (fun a w h => h.mem (is := [4]) (js := [1, 2]) rfl rfl) (i_pure (p_fieldAddr fo_39_2 rfl)) ?_
         refine GX.snoc (j := 1) (js := [0]) (⟨v35, v39, x43⟩ : Page) ((), ((), (A43, c43))) rfl rfl ⟨trivial, trivial, l43, m43⟩ ?_
         refine GX.all (rs := [18]) (by kernel_rfl) (by simp) ?_
         refine GXs.cons (i := 18) rfl rfl (t_store (i := 2) rfl rfl rfl rfl sz_36 rfl rfl rfl) (by rintro a w h; exact h.mem (is := [4]) (js := [2, 3]) rfl rfl) ?_ ?_
         ·refine GX.done (by kernel_rfl) (?_ : GC _ _ _ _)
          refine GC.region ?_; refine GL.pure rfl (p_add rfl rfl (w64 (by omega) (by omega))) ?_; refine GL.mv_ rfl rfl ?_; refine GL.nil ?_
          exact fun a w h => ⟨(k + 1), (ps ++ [(⟨v35, v39, x43⟩ : Page)]), (_), (_), (_), (by omega), ⟨⟨by simp; omega, by omega⟩, by omega, manyF_next hk.2.2.1 (show mpgF b t = some _ from by simp only [mpgF, hs35, hs39, Option.bind_some, hs43, Option.map_some]), fun p hp => by rcases List.mem_append.1 hp with hp | hp; exact hk.2.2.2 p hp; rw [List.mem_singleton.1 hp]; exact hx43⟩, by rw [List.length_append]; exact h.cut (is := [1, 1, 1, 1]) (js := [0, 3]) ⟨rfl, rfl, rfl, rfl, rfl, trivial⟩ rfl rfl⟩
         exact GXs.nil
        exact GXs.nil
       exact GXs.nil
      exact GXs.nil
     refine GXs.consP (i := 13) rfl rfl fn_171 rfl (is := [0]) (js := [1]) rfl rfl (by exact (mltext_ct _ _ _ b _ t39 (by omega) (by omega) (by omega) (by omega)).mono (fun _ _ _ h => h) (fun _ h => ⟨h.1, by simp only [mstF, hs13, hs17, hs21, hs27, Option.bind_some]; rw [manyF_fail hk.2.2.1 (show mpgF b t = none from by simp only [mpgF, hs35, hs39, Option.bind_some, h.2, Option.map_none]) (by omega)]; rfl⟩)) (by rintro a w ⟨_, _, _, ⟨x43, t43, A43, c43, hs43, l43, m43, rfl, rfl, rfl⟩, h⟩; exact h.mem (is := [3]) (js := [1, 2]) rfl rfl) (GX.ret ?_) ?_
     ·rintro _ _ _ ⟨x43, t43, A43, c43, hs43, l43, m43, rfl, rfl, rfl⟩
      obtain ⟨ht43, hx43⟩ := mtxF_rng hs43
      refine GX.take 14 rfl (by kernel_rfl) (by kernel_rfl) (by kernel_rfl) rfl (fun a w h => h.mem (is := [3]) (js := [1, 2]) rfl rfl) (i_pure (p_build ze_59 of_59 rfl rfl)) ?_
      refine GX.all (rs := [1, 15]) (by kernel_rfl) (by simp) ?_
      refine GXs.cons (i := 1) rfl rfl (t_mem rfl (m_load (i := 1) rfl rfl ag_36 rfl)) (by rintro a w h; exact h.mem (is := [3]) (js := [1, 2]) rfl rfl) ?_ ?_
      ·refine GX.all (rs := [15]) (by kernel_rfl) (by simp) ?_
       refine GXs.cons (i := 15) rfl rfl (t_buildSlice rfl Tryz.underlying36 sz_59 ze_59 rfl rfl rfl rfl rfl rfl) (by rintro a w ⟨_, h⟩; exact h.mem (is := [4]) (js := [1, 2]) rfl rfl) (GX.ex fun b_t45 => ?_) ?_
       ·refine GX.all (rs := [16]) (by kernel_rfl) (by simp) ?_
        refine GXs.cons (i := 16) rfl rfl (t_append (i := 3) (k := 0) rfl el_36 rfl rfl rfl rfl rfl (allOne_mem rfl) (by first | (have := hk.1.1; omega) | (have := hj.1.1; omega)) (fun _ => rfl)) (by rintro a w ⟨_, h⟩; exact h.mem (is := [4]) (js := [1, 2]) rfl rfl) (GX.ex fun v46 => ?_) ?_
        ·refine GX.shape (i := 3) rfl (fun A_v46 c_v46 e_v46 l_v46 k_v46 => ?_)
         subst e_v46
         refine GX.take 17 rfl (by kernel_rfl) (by kernel_rfl) (by kernel_rfl) rfl (fun a w h => h.mem (is := [4]) (js := [1, 2]) rfl rfl) (i_pure (p_fieldAddr fo_39_2 rfl)) ?_
         refine GX.snoc (j := 1) (js := [0]) (⟨v35, v39, x43⟩ : Page) ((), ((), (A43, c43))) rfl rfl ⟨trivial, trivial, l43, m43⟩ ?_
         refine GX.all (rs := [18]) (by kernel_rfl) (by simp) ?_
         refine GXs.cons (i := 18) rfl rfl (t_store (i := 2) rfl rfl rfl rfl sz_36 rfl rfl rfl) (by rintro a w h; exact h.mem (is := [4]) (js := [2, 3]) rfl rfl) ?_ ?_
         ·refine GX.done (by kernel_rfl) (?_ : GC _ _ _ _)
          refine GC.region ?_; refine GL.pure rfl (p_add rfl rfl (w64 (by omega) (by omega))) ?_; refine GL.mv_ rfl rfl ?_; refine GL.nil ?_
          exact fun a w h => ⟨(k + 1), (ps ++ [(⟨v35, v39, x43⟩ : Page)]), (_), (_), (_), (by omega), ⟨⟨by simp; omega, by omega⟩, by omega, manyF_next hk.2.2.1 (show mpgF b t = some _ from by simp only [mpgF, hs35, hs39, Option.bind_some, hs43, Option.map_some]), fun p hp => by rcases List.mem_append.1 hp with hp | hp; exact hk.2.2.2 p hp; rw [List.mem_singleton.1 hp]; exact hx43⟩, by rw [List.length_append]; exact h.cut (is := [1, 1, 1, 1]) (js := [0, 3]) ⟨rfl, rfl, rfl, rfl, rfl, trivial⟩ rfl rfl⟩
         exact GXs.nil
        exact GXs.nil
       exact GXs.nil
      refine GXs.cons (i := 15) rfl rfl (t_buildSlice rfl Tryz.underlying36 sz_59 ze_59 rfl rfl rfl rfl rfl rfl) (by rintro a w ⟨_, h⟩; exact h.mem (is := [4]) (js := [1, 2]) rfl rfl) (GX.ex fun b_t45 => ?_) ?_
      ·refine GX.all (rs := [1]) (by kernel_rfl) (by simp) ?_
       refine GXs.cons (i := 1) rfl rfl (t_mem rfl (m_load (i := 2) rfl rfl ag_36 rfl)) (by rintro a w h; exact h.mem (is := [4]) (js := [1, 2]) rfl rfl) ?_ ?_
       ·refine GX.all (rs := [16]) (by kernel_rfl) (by simp) ?_
        refine GXs.cons (i := 16) rfl rfl (t_append (i := 3) (k := 0) rfl el_36 rfl rfl rfl rfl rfl (allOne_mem rfl) (by first | (have := hk.1.1; omega) | (have := hj.1.1; omega)) (fun _ => rfl)) (by rintro a w ⟨_, h⟩; exact h.mem (is := [4]) (js := [1, 2]) rfl rfl) (GX.ex fun v46 => ?_) ?_
        ·refine GX.shape (i := 3) rfl (fun A_v46 c_v46 e_v46 l_v46 k_v46 => ?_)
         subst e_v46
         refine GX.take 17 rfl (by kernel_rfl) (by kernel_rfl) (by kernel_rfl) rfl (fun a w h => h.mem (is := [4]) (js := [1, 2]) rfl rfl) (i_pure (p_fieldAddr fo_39_2 rfl)) ?_
         refine GX.snoc (j := 1) (js := [0]) (⟨v35, v39, x43⟩ : Page) ((), ((), (A43, c43))) rfl rfl ⟨trivial, trivial, l43, m43⟩ ?_
         refine GX.all (rs := [18]) (by kernel_rfl) (by simp) ?_
         refine GXs.cons (i := 18) rfl rfl (t_store (i := 2) rfl rfl rfl rfl sz_36 rfl rfl rfl) (by rintro a w h; exact h.mem (is := [4]) (js := [2, 3]) rfl rfl) ?_ ?_
         ·refine GX.done (by kernel_rfl) (?_ : GC _ _ _ _)
          refine GC.region ?_; refine GL.pure rfl (p_add rfl rfl (w64 (by omega) (by omega))) ?_; refine GL.mv_ rfl rfl ?_; refine GL.nil ?_
          exact fun a w h => ⟨(k + 1), (ps ++ [(⟨v35, v39, x43⟩ : Page)]), (_), (_), (_), (by omega), ⟨⟨by simp; omega, by omega⟩, by omega, manyF_next hk.2.2.1 (show mpgF b t = some _ from by simp only [mpgF, hs35, hs39, Option.bind_some, hs43, Option.map_some]), fun p hp => by rcases List.mem_append.1 hp with hp | hp; exact hk.2.2.2 p hp; rw [List.mem_singleton.1 hp]; exact hx43⟩, by rw [List.length_append]; exact h.cut (is := [1, 1, 1, 1]) (js := [0, 3]) ⟨rfl, rfl, rfl, rfl, rfl, trivial⟩ rfl rfl⟩
         exact GXs.nil
        exact GXs.nil
       exact GXs.nil
      exact GXs.nil
     exact GXs.nil
    exact GXs.nil
   exact GXs.nil
  ·try simp only [tst_] at h1
   refine GC.exit (?_ : GC _ _ _ _)
   refine GC.seq' ?_; refine GC.sr_ ?_
   obtain ⟨tP, htP⟩ : ∃ tP, tP = t := ⟨t, rfl⟩
   have hkP : manyF (mpgF b) t27 v27.toNat = some (ps, tP) := by rw [show v27.toNat = k by omega, htP]; exact hk.2.2.1
   have htP' : tP ≤ b.length := by omega
   subst htP
   refine GL.shape (i := 2) rfl (fun A_PG c_PG e_PG l_PG k_PG => ?_)
   subst e_PG
   refine GL.freezeR (i := 2) (j := 0) rfl rfl (by decide) ?_; refine GL.mv_ rfl rfl ?_; refine GL.pure rfl (p_nilCheck rfl) ?_; refine GL.pure rfl (p_fieldAddr fo_205_0 rfl) ?_; refine GL.callP rfl fn_158 rfl (is := [0]) (js := [2]) rfl rfl (by exact (mlnum_ct _ _ _ b _ tP 1 (by omega) (by omega) (by omega) (by omega) (by omega)).mono (fun _ _ _ h => h) (fun _ h => ⟨h.1, by simp only [mstF, hs13, hs17, hs21, hs27, hkP, Option.bind_some, h.2, Option.bind_none]⟩)) (fun v a w he h => FinP.panic he h) (GL.ret ?_)
   rintro _ _ _ ⟨v52, t52, hs52, rfl, rfl, rfl⟩
   obtain ⟨ht52, hu52, hv52, hw52, hx52⟩ := mnumF_rng hs52
   have hpos2 := mnumF_pos hs52 (by omega)
   refine GL.nilrow 61 4 ?_; refine GL.know (q := Pers.reps kRow [] []) (fun _ _ _ => rfl) ?_; refine GL.mv_ rfl rfl ?_; refine GL.nl_ ?_; refine GC.block ?_; refine GC.loopK5 (ks := [0, 2, 3, 52]) (is := [3]) (js := [1, 3]) (fun (k : Nat) (rs : List Row) (V : Value) (cs : List Value) (t : Nat) => (rs.length = k ∧ t ≤ b.length) ∧ (k : Int) ≤ v52 ∧ manyF (mrowF b) t52 k = some (rs, t) ∧ ∀ r ∈ rs, r.result.data.length ≤ 262144) (fun (k : Nat) (rs : List Row) (V : Value) (cs : List Value) (t : Nat) => [(53, .int .i64 (k : Int))]) (fun (k : Nat) (rs : List Row) (V : Value) (cs : List Value) (t : Nat) => [.cells p [.slice A b.length cp, .int .i64 (t : Int)] e_, .cells b_t3 [.int .i64 v13, .int .i64 v17, .int .i64 v21, .slice A_PG ps.length c_PG, V, .int .i64 0, .slice none 0 0] 39, .row V 61 4 rs.length cs]) (fun (k : Nat) (rs : List Row) (V : Value) (cs : List Value) (t : Nat) => [Pers.reps kRow rs cs]) (fun (k : Nat) (rs : List Row) (V : Value) (cs : List Value) (t : Nat) => v52.toNat - k) (0) ([]) (_) ([]) (t52) rfl rfl rfl (fun a w h => ⟨⟨⟨rfl, by omega⟩, by omega, rfl, by simp⟩, h.cutK (is := [1, 1, 0, 0]) (js := [0, 1, 3]) (ks := [0, 2, 3, 52]) ⟨rfl, trivial⟩ rfl rfl rfl⟩) ?_
   intro k rs V cs t hj
   try dsimp only [List.cons_append, List.nil_append] at hj ⊢
   refine GC.sr_ ?_; refine GL.pure rfl (p_lss rfl rfl) ?_; refine GL.nl_ ?_; refine GC.seq' ?_; refine GC.cond rfl (fun h2 => ?_) (fun h2 => ?_)
   ·try simp only [tst_] at h2
    refine GC.skip (?_ : GC _ _ _ _)
    refine GC.seq' ?_; refine GC.block ?_; refine GC.seq' ?_; refine GC.regionXM (m := 11) (M := fun a w => ∃ v58 : Int, ∃ t58 : Nat, ∃ v62 : Int, ∃ t62 : Nat, ∃ b_t4 : Nat, (mnumF b t 8 = some (v58, t58) ∧ mnumF b t58 8 = some (v62, t62)) ∧ St c 122 [(0, .pointer (some ⟨p, 0, none⟩)), (2, .pointer (some ⟨b_t2, 0, none⟩)), (3, .pointer (some ⟨b_t3, 0, none⟩)), (4, .pointer (some ⟨b_t4, 0, none⟩)), (52, .int .i64 v52), (53, .int .i64 (k : Int))] [.cells p [.slice A b.length cp, .int .i64 (t62 : Int)] e_, .cells b_t3 [.int .i64 v13, .int .i64 v17, .int .i64 v21, .slice A_PG ps.length c_PG, V, .int .i64 0, .slice none 0 0] 39, .cells b_t2 [.int .i64 0, .int .i64 0, .int .i64 0, .slice none 0 0, .slice none 0 0, .int .i64 0, .slice none 0 0] 39, .row V 61 4 rs.length cs, .cells b_t4 [.int .i64 v58, .int .i64 v62, .int .u8 0, .slice none 0 0] 61] [Pers.reps kRow rs cs, Pers.row kPage A_PG ps, Pers.row Kd.u8 A b] a w) (is := [1, 1, 1]) (js := [0, 1, 2]) wide_ rfl rfl rfl (fun _ _ _ hd hp hD => ⟨hd.trans hD, .inr hp⟩) ?_ ?_
    ·refine GX.take 0 rfl (by kernel_rfl) (by kernel_rfl) (by kernel_rfl) rfl (fun a w h => h.mem (is := [1, 1, 1]) (js := [0, 1, 2]) rfl rfl) (i_pure (p_move rfl)) ?_
     refine GX.take 1 rfl (by kernel_rfl) (by kernel_rfl) (by kernel_rfl) rfl (fun a w h => h.mem (is := [1, 1, 1]) (js := [0, 1, 2]) rfl rfl) (i_pure (p_nilCheck rfl)) ?_
     refine GX.take 2 rfl (by kernel_rfl) (by kernel_rfl) (by kernel_rfl) rfl (fun a w h => h.mem (is := [1, 1, 1]) (js := [0, 1, 2]) rfl rfl) (i_pure (p_fieldAddr fo_205_0 rfl)) ?_
     refine GX.take 4 rfl (by kernel_rfl) (by kernel_rfl) (by kernel_rfl) rfl (fun a w h => h.mem (is := [1, 1, 1]) (js := [0, 1, 2]) rfl rfl) (i_pure (p_move rfl)) ?_
     refine GX.take 5 rfl (by kernel_rfl) (by kernel_rfl) (by kernel_rfl) rfl (fun a w h => h.mem (is := [1, 1, 1]) (js := [0, 1, 2]) rfl rfl) (i_pure (p_nilCheck rfl)) ?_
     refine GX.take 6 rfl (by kernel_rfl) (by kernel_rfl) (by kernel_rfl) rfl (fun a w h => h.mem (is := [1, 1, 1]) (js := [0, 1, 2]) rfl rfl) (i_pure (p_fieldAddr fo_205_0 rfl)) ?_
     refine GX.all (rs := [3, 9]) (by kernel_rfl) (by simp) ?_
     refine GXs.consP (i := 3) rfl rfl fn_158 rfl (is := [0]) (js := [2]) rfl rfl (by exact (mlnum_ct _ _ _ b _ t 8 (by omega) (by omega) (by omega) (by omega) (by omega)).mono (fun _ _ _ h => h) (fun _ h => ⟨h.1, by simp only [mstF, hs13, hs17, hs21, hs27, hkP, hs52, Option.bind_some]; rw [manyF_fail hj.2.2.1 (show mrowF b t = none from by simp only [mrowF, h.2, Option.bind_none]) (by omega)]; rfl⟩)) (by rintro a w ⟨_, _, _, ⟨v58, t58, hs58, rfl, rfl, rfl⟩, h⟩; exact h.mem (is := [1, 1, 1]) (js := [0, 1, 2]) rfl rfl) (GX.ret ?_) ?_
     ·rintro _ _ _ ⟨v58, t58, hs58, rfl, rfl, rfl⟩
      obtain ⟨ht58, hu58, hv58, hw58, hx58⟩ := mnumF_rng hs58
      refine GX.all (rs := [7, 9]) (by kernel_rfl) (by simp) ?_
      refine GXs.consP (i := 7) rfl rfl fn_158 rfl (is := [0]) (js := [2]) rfl rfl (by exact (mlnum_ct _ _ _ b _ t58 8 (by omega) (by omega) (by omega) (by omega) (by omega)).mono (fun _ _ _ h => h) (fun _ h => ⟨h.1, by simp only [mstF, hs13, hs17, hs21, hs27, hkP, hs52, Option.bind_some]; rw [manyF_fail hj.2.2.1 (show mrowF b t = none from by simp only [mrowF, hs58, Option.bind_some, h.2, Option.bind_none]) (by omega)]; rfl⟩)) (by rintro a w ⟨_, _, _, ⟨v62, t62, hs62, rfl, rfl, rfl⟩, h⟩; exact h.mem (is := [1, 1, 1]) (js := [0, 1, 2]) rfl rfl) (GX.ret ?_) ?_
      ·rintro _ _ _ ⟨v62, t62, hs62, rfl, rfl, rfl⟩
       obtain ⟨ht62, hu62, hv62, hw62, hx62⟩ := mnumF_rng hs62
       refine GX.take 8 rfl (by kernel_rfl) (by kernel_rfl) (by kernel_rfl) rfl (fun a w h => h.mem (is := [1, 1, 1]) (js := [0, 1, 2]) rfl rfl) (i_pure (p_build ze_61 of_61 rfl rfl)) ?_
       refine GX.all (rs := [9]) (by kernel_rfl) (by simp) ?_
       refine GXs.cons (i := 9) rfl rfl (t_alloc rfl ze_61) (by rintro a w ⟨_, h⟩; exact h.mem (is := [2, 2, 2]) (js := [0, 1, 2]) rfl rfl) (GX.ex fun b_t4 => ?_) ?_
       ·refine GX.all (rs := [10]) (by kernel_rfl) (by simp) ?_
        refine GXs.cons (i := 10) rfl rfl (t_storeN (i := 0) rfl rfl rfl sz_61 rfl rfl rfl) (by rintro a w h; exact h.mem (is := [2, 2, 2]) (js := [0, 1, 2]) rfl rfl) ?_ ?_
        ·exact GX.done (by kernel_rfl) (fun a w h => ⟨_, _, _, _, _, ⟨hs58, hs62⟩, h.cut (is := [1, 1, 2, 1, 0]) (js := [0, 1, 2]) ⟨rfl, rfl, rfl, rfl, rfl, rfl, trivial⟩ rfl rfl⟩)
        exact GXs.nil
       exact GXs.nil
      refine GXs.cons (i := 9) rfl rfl (t_alloc rfl ze_61) (by rintro a w ⟨_, h⟩; exact h.mem (is := [2, 2, 2]) (js := [0, 1, 2]) rfl rfl) (GX.ex fun b_t4 => ?_) ?_
      ·refine GX.all (rs := [7]) (by kernel_rfl) (by simp) ?_
       refine GXs.consP (i := 7) rfl rfl fn_158 rfl (is := [1]) (js := [2]) rfl rfl (by exact (mlnum_ct _ _ _ b _ t58 8 (by omega) (by omega) (by omega) (by omega) (by omega)).mono (fun _ _ _ h => h) (fun _ h => ⟨h.1, by simp only [mstF, hs13, hs17, hs21, hs27, hkP, hs52, Option.bind_some]; rw [manyF_fail hj.2.2.1 (show mrowF b t = none from by simp only [mrowF, hs58, Option.bind_some, h.2, Option.bind_none]) (by omega)]; rfl⟩)) (by rintro a w ⟨_, _, _, ⟨v62, t62, hs62, rfl, rfl, rfl⟩, h⟩; exact h.mem (is := [2, 2, 2]) (js := [0, 1, 2]) rfl rfl) (GX.ret ?_) ?_
       ·rintro _ _ _ ⟨v62, t62, hs62, rfl, rfl, rfl⟩
        obtain ⟨ht62, hu62, hv62, hw62, hx62⟩ := mnumF_rng hs62
        refine GX.take 8 rfl (by kernel_rfl) (by kernel_rfl) (by kernel_rfl) rfl (fun a w h => h.mem (is := [2, 2, 2]) (js := [0, 1, 2]) rfl rfl) (i_pure (p_build ze_61 of_61 rfl rfl)) ?_
        refine GX.all (rs := [10]) (by kernel_rfl) (by simp) ?_
        refine GXs.cons (i := 10) rfl rfl (t_storeN (i := 1) rfl rfl rfl sz_61 rfl rfl rfl) (by rintro a w h; exact h.mem (is := [2, 2, 2]) (js := [0, 1, 2]) rfl rfl) ?_ ?_
        ·exact GX.done (by kernel_rfl) (fun a w h => ⟨_, _, _, _, _, ⟨hs58, hs62⟩, h.cut (is := [0, 1, 2, 1, 0]) (js := [0, 1, 2]) ⟨rfl, rfl, rfl, rfl, rfl, rfl, trivial⟩ rfl rfl⟩)
        exact GXs.nil
       exact GXs.nil
      exact GXs.nil
     refine GXs.cons (i := 9) rfl rfl (t_alloc rfl ze_61) (by rintro a w ⟨_, h⟩; exact h.mem (is := [2, 2, 2]) (js := [0, 1, 2]) rfl rfl) (GX.ex fun b_t4 => ?_) ?_
     ·refine GX.all (rs := [3]) (by kernel_rfl) (by simp) ?_
      refine GXs.consP (i := 3) rfl rfl fn_158 rfl (is := [1]) (js := [2]) rfl rfl (by exact (mlnum_ct _ _ _ b _ t 8 (by omega) (by omega) (by omega) (by omega) (by omega)).mono (fun _ _ _ h => h) (fun _ h => ⟨h.1, by simp only [mstF, hs13, hs17, hs21, hs27, hkP, hs52, Option.bind_some]; rw [manyF_fail hj.2.2.1 (show mrowF b t = none from by simp only [mrowF, h.2, Option.bind_none]) (by omega)]; rfl⟩)) (by rintro a w ⟨_, _, _, ⟨v58, t58, hs58, rfl, rfl, rfl⟩, h⟩; exact h.mem (is := [2, 2, 2]) (js := [0, 1, 2]) rfl rfl) (GX.ret ?_) ?_
      ·rintro _ _ _ ⟨v58, t58, hs58, rfl, rfl, rfl⟩
       obtain ⟨ht58, hu58, hv58, hw58, hx58⟩ := mnumF_rng hs58
       refine GX.all (rs := [7]) (by kernel_rfl) (by simp) ?_
       refine GXs.consP (i := 7) rfl rfl fn_158 rfl (is := [0]) (js := [2]) rfl rfl (by exact (mlnum_ct _ _ _ b _ t58 8 (by omega) (by omega) (by omega) (by omega) (by omega)).mono (fun _ _ _ h => h) (fun _ h => ⟨h.1, by simp only [mstF, hs13, hs17, hs21, hs27, hkP, hs52, Option.bind_some]; rw [manyF_fail hj.2.2.1 (show mrowF b t = none from by simp only [mrowF, hs58, Option.bind_some, h.2, Option.bind_none]) (by omega)]; rfl⟩)) (by rintro a w ⟨_, _, _, ⟨v62, t62, hs62, rfl, rfl, rfl⟩, h⟩; exact h.mem (is := [2, 2, 2]) (js := [0, 1, 2]) rfl rfl) (GX.ret ?_) ?_
       ·rintro _ _ _ ⟨v62, t62, hs62, rfl, rfl, rfl⟩
        obtain ⟨ht62, hu62, hv62, hw62, hx62⟩ := mnumF_rng hs62
        refine GX.take 8 rfl (by kernel_rfl) (by kernel_rfl) (by kernel_rfl) rfl (fun a w h => h.mem (is := [2, 2, 2]) (js := [0, 1, 2]) rfl rfl) (i_pure (p_build ze_61 of_61 rfl rfl)) ?_
        refine GX.all (rs := [10]) (by kernel_rfl) (by simp) ?_
        refine GXs.cons (i := 10) rfl rfl (t_storeN (i := 1) rfl rfl rfl sz_61 rfl rfl rfl) (by rintro a w h; exact h.mem (is := [2, 2, 2]) (js := [0, 1, 2]) rfl rfl) ?_ ?_
        ·exact GX.done (by kernel_rfl) (fun a w h => ⟨_, _, _, _, _, ⟨hs58, hs62⟩, h.cut (is := [0, 1, 2, 1, 0]) (js := [0, 1, 2]) ⟨rfl, rfl, rfl, rfl, rfl, rfl, trivial⟩ rfl rfl⟩)
        exact GXs.nil
       exact GXs.nil
      exact GXs.nil
     exact GXs.nil
    ·refine (?_ : GC _ _ _ _)
     refine GC.ex fun v58 => GC.ex fun t58 => GC.ex fun v62 => GC.ex fun t62 => GC.ex fun b_t4 => GC.and fun ⟨hs58, hs62⟩ => ?_; refine GC.seq' ?_
     obtain ⟨ht58, hu58, hv58, hw58, hx58⟩ := mnumF_rng hs58
     obtain ⟨ht62, hu62, hv62, hw62, hx62⟩ := mnumF_rng hs62
     refine GC.regionM (m := 20) (M := fun a w => ∃ o76 : Res, ∃ n76 : Nat, ∃ e76 : Int, ∃ A76 : Option Addr, ∃ c76 : Nat, ∃ b_t5 : Nat, ((e76 = 0 → decRes (seg b t62 b.length) = some (o76, n76)) ∧ (n76 ≤ (seg b t62 b.length).length ∧ (e76 ≠ 0 → decRes (seg b t62 b.length) = none)) ∧ o76.data.length ≤ c76 ∧ c76 ≤ 9223372036854775807) ∧ St c 122 [(0, .pointer (some ⟨p, 0, none⟩)), (2, .pointer (some ⟨b_t2, 0, none⟩)), (3, .pointer (some ⟨b_t3, 0, none⟩)), (4, .pointer (some ⟨b_t4, 0, none⟩)), (5, .pointer (some ⟨b_t5, 0, none⟩)), (6, .int .i64 (n76 : Int)), (7, .int .i64 e76), (52, .int .i64 v52), (53, .int .i64 (k : Int))] [.cells p [.slice A b.length cp, .int .i64 (t62 : Int)] e_, .cells b_t3 [.int .i64 v13, .int .i64 v17, .int .i64 v21, .slice A_PG ps.length c_PG, V, .int .i64 0, .slice none 0 0] 39, .cells b_t2 [.int .i64 0, .int .i64 0, .int .i64 0, .slice none 0 0, .slice none 0 0, .int .i64 0, .slice none 0 0] 39, .row V 61 4 rs.length cs, .cells b_t4 [.int .i64 v58, .int .i64 v62, .int .u8 0, .slice none 0 0] 61, .cells b_t5 [.int .u8 o76.code, .slice A76 o76.data.length c76] 30] [Pers.row Kd.u8 A76 o76.data, Pers.reps kRow rs cs, Pers.row kPage A_PG ps, Pers.row Kd.u8 A b] a w) (is := [0, 0, 0, 0, 0]) (js := [0, 1, 2]) wide_ rfl rfl rfl ?_ ?_
     ·refine GA.take 0 rfl (by kernel_rfl) (by kernel_rfl) (by kernel_rfl) rfl (fun a w h => h.mem (is := [0, 0, 0, 0, 0]) (js := [0, 1, 2]) rfl rfl) (i_pure (p_move rfl)) ?_; refine GA.take 1 rfl (by kernel_rfl) (by kernel_rfl) (by kernel_rfl) rfl (fun a w h => h.mem (is := [0, 0, 0, 0, 0]) (js := [0, 1, 2]) rfl rfl) (i_pure (p_nilCheck rfl)) ?_
      refine GA.take 2 rfl (by kernel_rfl) (by kernel_rfl) (by kernel_rfl) rfl (fun a w h => h.mem (is := [0, 0, 0, 0, 0]) (js := [0, 1, 2]) rfl rfl) (i_pure (p_fieldAddr fo_205_0 rfl)) ?_; refine GA.take 3 rfl (by kernel_rfl) (by kernel_rfl) (by kernel_rfl) rfl (fun a w h => h.mem (is := [0, 0, 0, 0, 0]) (js := [0, 1, 2]) rfl rfl) (i_pure (p_fieldAddr fo_203_0 rfl)) ?_
      refine GA.take 4 rfl (by kernel_rfl) (by kernel_rfl) (by kernel_rfl) rfl (fun a w h => h.mem (is := [0, 0, 0, 0, 0]) (js := [0, 1, 2]) rfl rfl) (i_mem (m_load (i := 0) rfl rfl ag_25 rfl)) ?_; refine GA.take 5 rfl (by kernel_rfl) (by kernel_rfl) (by kernel_rfl) rfl (fun a w h => h.mem (is := [0, 0, 0, 0, 0]) (js := [0, 1, 2]) rfl rfl) (i_pure (p_move rfl)) ?_
      refine GA.take 6 rfl (by kernel_rfl) (by kernel_rfl) (by kernel_rfl) rfl (fun a w h => h.mem (is := [0, 0, 0, 0, 0]) (js := [0, 1, 2]) rfl rfl) (i_pure (p_nilCheck rfl)) ?_; refine GA.take 7 rfl (by kernel_rfl) (by kernel_rfl) (by kernel_rfl) rfl (fun a w h => h.mem (is := [0, 0, 0, 0, 0]) (js := [0, 1, 2]) rfl rfl) (i_pure (p_fieldAddr fo_205_0 rfl)) ?_
      refine GA.take 8 rfl (by kernel_rfl) (by kernel_rfl) (by kernel_rfl) rfl (fun a w h => h.mem (is := [0, 0, 0, 0, 0]) (js := [0, 1, 2]) rfl rfl) (i_pure (p_fieldAddr fo_203_1 rfl)) ?_; refine GA.take 9 rfl (by kernel_rfl) (by kernel_rfl) (by kernel_rfl) rfl (fun a w h => h.mem (is := [0, 0, 0, 0, 0]) (js := [0, 1, 2]) rfl rfl) (i_mem (m_load (i := 0) rfl rfl ag_3 rfl)) ?_
      refine GA.all (rs := [10, 16]) (by kernel_rfl) (by simp) ?_
      refine GAs.cons (i := 10) rfl rfl (t_cut_l (j := 2) rfl rfl rfl rfl Tryz.underlying25 sz_5 (by omega) (by omega) (by omega)) (by rintro a w h; exact h.mem (is := [0, 0, 0, 0, 0]) (js := [1, 2, 3]) rfl rfl) ?_ ?_
      ·refine GA.all (rs := [11, 16]) (by kernel_rfl) (by simp) ?_
       refine GAs.cons (i := 11) rfl rfl (t_call rfl fn_130 rfl (is := []) (js := [0]) rfl rfl (by exact decres_ct _ (seg b t62 b.length) _ (by rw [seg_to (by omega)]; omega) (by omega) (by rw [seg_to (by omega)]; omega))) (by rintro a w ⟨_, _, _, ⟨o76, n76, e76, A76, c76, hs76, hn76, l76, k76, rfl, rfl, rfl⟩, h⟩; exact h.mem (is := [0, 0, 0, 0, 0]) (js := [2, 3, 4]) rfl rfl) (GA.ret ?_) ?_
       ·rintro _ _ _ ⟨o76, n76, e76, A76, c76, hs76, hn76, l76, k76, rfl, rfl, rfl⟩
        refine GA.take 12 rfl (by kernel_rfl) (by kernel_rfl) (by kernel_rfl) rfl (fun a w h => h.mem (is := [0, 0, 0, 0, 0]) (js := [2, 3, 4]) rfl rfl) (i_pure (p_move rfl)) ?_; refine GA.take 13 rfl (by kernel_rfl) (by kernel_rfl) (by kernel_rfl) rfl (fun a w h => h.mem (is := [0, 0, 0, 0, 0]) (js := [2, 3, 4]) rfl rfl) (i_pure (p_extract rfl rfl)) ?_
        refine GA.take 14 rfl (by kernel_rfl) (by kernel_rfl) (by kernel_rfl) rfl (fun a w h => h.mem (is := [0, 0, 0, 0, 0]) (js := [2, 3, 4]) rfl rfl) (i_pure (p_extract rfl rfl)) ?_; refine GA.take 15 rfl (by kernel_rfl) (by kernel_rfl) (by kernel_rfl) rfl (fun a w h => h.mem (is := [0, 0, 0, 0, 0]) (js := [2, 3, 4]) rfl rfl) (i_pure (p_extract rfl rfl)) ?_
        refine GA.all (rs := [16]) (by kernel_rfl) (by simp) ?_
        refine GAs.cons (i := 16) rfl rfl (t_alloc rfl ze_30) (by rintro a w ⟨_, h⟩; exact h.mem (is := [1, 1, 1, 1, 1]) (js := [2, 3, 4]) rfl rfl) (GA.ex fun b_t5 => ?_) ?_
        ·refine GA.all (rs := [17]) (by kernel_rfl) (by simp) ?_
         refine GAs.cons (i := 17) rfl rfl (t_storeN (i := 0) rfl rfl rfl sz_30 rfl rfl rfl) (by rintro a w h; exact h.mem (is := [1, 1, 1, 1, 1]) (js := [2, 3, 4]) rfl rfl) ?_ ?_
         ·refine GA.take 18 rfl (by kernel_rfl) (by kernel_rfl) (by kernel_rfl) rfl (fun a w h => h.mem (is := [1, 1, 1, 1, 1]) (js := [2, 3, 4]) rfl rfl) (i_pure (p_assign rfl)) ?_; refine GA.take 19 rfl (by kernel_rfl) (by kernel_rfl) (by kernel_rfl) rfl (fun a w h => h.mem (is := [1, 1, 1, 1, 1]) (js := [2, 3, 4]) rfl rfl) (i_pure (p_assign rfl)) ?_
          exact GA.done (by kernel_rfl) (fun a w h => ⟨_, _, _, _, _, _, ⟨hs76, hn76, l76, k76⟩, h.cut (is := [1, 1, 1, 1, 1, 0]) (js := [0, 2, 3, 4]) ⟨rfl, rfl, rfl, rfl, rfl, rfl, rfl, rfl, rfl, trivial⟩ rfl rfl⟩)
         exact GAs.nil
        exact GAs.nil
       refine GAs.cons (i := 16) rfl rfl (t_alloc rfl ze_30) (by rintro a w ⟨_, h⟩; exact h.mem (is := [1, 1, 1, 1, 1]) (js := [1, 2, 3]) rfl rfl) (GA.ex fun b_t5 => ?_) ?_
       ·refine GA.all (rs := [11]) (by kernel_rfl) (by simp) ?_
        refine GAs.cons (i := 11) rfl rfl (t_call rfl fn_130 rfl (is := []) (js := [0]) rfl rfl (by exact decres_ct _ (seg b t62 b.length) _ (by rw [seg_to (by omega)]; omega) (by omega) (by rw [seg_to (by omega)]; omega))) (by rintro a w ⟨_, _, _, ⟨o76, n76, e76, A76, c76, hs76, hn76, l76, k76, rfl, rfl, rfl⟩, h⟩; exact h.mem (is := [1, 1, 1, 1, 1]) (js := [2, 3, 4]) rfl rfl) (GA.ret ?_) ?_
        ·rintro _ _ _ ⟨o76, n76, e76, A76, c76, hs76, hn76, l76, k76, rfl, rfl, rfl⟩
         refine GA.take 12 rfl (by kernel_rfl) (by kernel_rfl) (by kernel_rfl) rfl (fun a w h => h.mem (is := [1, 1, 1, 1, 1]) (js := [2, 3, 4]) rfl rfl) (i_pure (p_move rfl)) ?_; refine GA.take 13 rfl (by kernel_rfl) (by kernel_rfl) (by kernel_rfl) rfl (fun a w h => h.mem (is := [1, 1, 1, 1, 1]) (js := [2, 3, 4]) rfl rfl) (i_pure (p_extract rfl rfl)) ?_
         refine GA.take 14 rfl (by kernel_rfl) (by kernel_rfl) (by kernel_rfl) rfl (fun a w h => h.mem (is := [1, 1, 1, 1, 1]) (js := [2, 3, 4]) rfl rfl) (i_pure (p_extract rfl rfl)) ?_; refine GA.take 15 rfl (by kernel_rfl) (by kernel_rfl) (by kernel_rfl) rfl (fun a w h => h.mem (is := [1, 1, 1, 1, 1]) (js := [2, 3, 4]) rfl rfl) (i_pure (p_extract rfl rfl)) ?_
         refine GA.all (rs := [17]) (by kernel_rfl) (by simp) ?_
         refine GAs.cons (i := 17) rfl rfl (t_storeN (i := 0) rfl rfl rfl sz_30 rfl rfl rfl) (by rintro a w h; exact h.mem (is := [1, 1, 1, 1, 1]) (js := [2, 3, 4]) rfl rfl) ?_ ?_
         ·refine GA.take 18 rfl (by kernel_rfl) (by kernel_rfl) (by kernel_rfl) rfl (fun a w h => h.mem (is := [1, 1, 1, 1, 1]) (js := [2, 3, 4]) rfl rfl) (i_pure (p_assign rfl)) ?_; refine GA.take 19 rfl (by kernel_rfl) (by kernel_rfl) (by kernel_rfl) rfl (fun a w h => h.mem (is := [1, 1, 1, 1, 1]) (js := [2, 3, 4]) rfl rfl) (i_pure (p_assign rfl)) ?_
          exact GA.done (by kernel_rfl) (fun a w h => ⟨_, _, _, _, _, _, ⟨hs76, hn76, l76, k76⟩, h.cut (is := [1, 1, 1, 1, 1, 0]) (js := [0, 2, 3, 4]) ⟨rfl, rfl, rfl, rfl, rfl, rfl, rfl, rfl, rfl, trivial⟩ rfl rfl⟩)
         exact GAs.nil
        exact GAs.nil
       exact GAs.nil
      refine GAs.cons (i := 16) rfl rfl (t_alloc rfl ze_30) (by rintro a w ⟨_, h⟩; exact h.mem (is := [1, 1, 1, 1, 1]) (js := [0, 1, 2]) rfl rfl) (GA.ex fun b_t5 => ?_) ?_
      ·refine GA.all (rs := [10]) (by kernel_rfl) (by simp) ?_
       refine GAs.cons (i := 10) rfl rfl (t_cut_l (j := 2) rfl rfl rfl rfl Tryz.underlying25 sz_5 (by omega) (by omega) (by omega)) (by rintro a w h; exact h.mem (is := [1, 1, 1, 1, 1]) (js := [1, 2, 3]) rfl rfl) ?_ ?_
       ·refine GA.all (rs := [11]) (by kernel_rfl) (by simp) ?_
        refine GAs.cons (i := 11) rfl rfl (t_call rfl fn_130 rfl (is := []) (js := [0]) rfl rfl (by exact decres_ct _ (seg b t62 b.length) _ (by rw [seg_to (by omega)]; omega) (by omega) (by rw [seg_to (by omega)]; omega))) (by rintro a w ⟨_, _, _, ⟨o76, n76, e76, A76, c76, hs76, hn76, l76, k76, rfl, rfl, rfl⟩, h⟩; exact h.mem (is := [1, 1, 1, 1, 1]) (js := [2, 3, 4]) rfl rfl) (GA.ret ?_) ?_
        ·rintro _ _ _ ⟨o76, n76, e76, A76, c76, hs76, hn76, l76, k76, rfl, rfl, rfl⟩
         refine GA.take 12 rfl (by kernel_rfl) (by kernel_rfl) (by kernel_rfl) rfl (fun a w h => h.mem (is := [1, 1, 1, 1, 1]) (js := [2, 3, 4]) rfl rfl) (i_pure (p_move rfl)) ?_; refine GA.take 13 rfl (by kernel_rfl) (by kernel_rfl) (by kernel_rfl) rfl (fun a w h => h.mem (is := [1, 1, 1, 1, 1]) (js := [2, 3, 4]) rfl rfl) (i_pure (p_extract rfl rfl)) ?_
         refine GA.take 14 rfl (by kernel_rfl) (by kernel_rfl) (by kernel_rfl) rfl (fun a w h => h.mem (is := [1, 1, 1, 1, 1]) (js := [2, 3, 4]) rfl rfl) (i_pure (p_extract rfl rfl)) ?_; refine GA.take 15 rfl (by kernel_rfl) (by kernel_rfl) (by kernel_rfl) rfl (fun a w h => h.mem (is := [1, 1, 1, 1, 1]) (js := [2, 3, 4]) rfl rfl) (i_pure (p_extract rfl rfl)) ?_
         refine GA.all (rs := [17]) (by kernel_rfl) (by simp) ?_
         refine GAs.cons (i := 17) rfl rfl (t_storeN (i := 0) rfl rfl rfl sz_30 rfl rfl rfl) (by rintro a w h; exact h.mem (is := [1, 1, 1, 1, 1]) (js := [2, 3, 4]) rfl rfl) ?_ ?_
         ·refine GA.take 18 rfl (by kernel_rfl) (by kernel_rfl) (by kernel_rfl) rfl (fun a w h => h.mem (is := [1, 1, 1, 1, 1]) (js := [2, 3, 4]) rfl rfl) (i_pure (p_assign rfl)) ?_; refine GA.take 19 rfl (by kernel_rfl) (by kernel_rfl) (by kernel_rfl) rfl (fun a w h => h.mem (is := [1, 1, 1, 1, 1]) (js := [2, 3, 4]) rfl rfl) (i_pure (p_assign rfl)) ?_
          exact GA.done (by kernel_rfl) (fun a w h => ⟨_, _, _, _, _, _, ⟨hs76, hn76, l76, k76⟩, h.cut (is := [1, 1, 1, 1, 1, 0]) (js := [0, 2, 3, 4]) ⟨rfl, rfl, rfl, rfl, rfl, rfl, rfl, rfl, rfl, trivial⟩ rfl rfl⟩)
         exact GAs.nil
        exact GAs.nil
       exact GAs.nil
      exact GAs.nil
     ·refine (?_ : GC _ _ _ _)
      refine GC.ex fun o76 => GC.ex fun n76 => GC.ex fun e76 => GC.ex fun A76 => GC.ex fun c76 => GC.ex fun b_t5 => GC.and fun ⟨hs76, hn76, l76, k76⟩ => ?_; refine GC.sr_ ?_
      have hq76 := hn76.1
      rw [seg_to (by omega)] at hq76
      refine GL.mv_ rfl rfl ?_; refine GL.callP rfl fn_159 rfl (is := []) (js := []) rfl rfl (by exact (must_ct _).mono (fun _ _ _ h => h) (fun _ h => ⟨⟨_, h⟩, by simp only [mstF, hs13, hs17, hs21, hs27, hkP, hs52, Option.bind_some]; rw [manyF_fail hj.2.2.1 (show mrowF b t = none from by simp only [mrowF, hs58, hs62, Option.bind_some, hn76.2 h.1, Option.map_none]) (by omega)]; rfl⟩)) (fun v a w he h => FinP.panic he h) (GL.ret ?_)
      rintro _ _ _ ⟨he81, rfl, rfl, rfl⟩
      have hd76 := hs76 he81
      refine GL.nl_ ?_; refine GC.sr_ ?_; refine GL.step rfl (t_mem rfl (m_loadN (i := 5) rfl rfl ag_30 (vs := [_, _]) sz_30 ⟨rfl, rfl, trivial⟩)) ?_; refine GL.pure rfl (p_fieldAddr fo_61_2 rfl) ?_; refine GL.step rfl (t_storeN (i := 4) rfl rfl rfl sz_30 rfl rfl rfl) ?_
      refine GL.nl_ ?_; refine GC.sr_ ?_; refine GL.mv_ rfl rfl ?_; refine GL.pure rfl (p_nilCheck rfl) ?_; refine GL.pure rfl (p_fieldAddr fo_205_0 rfl) ?_; refine GL.pure rfl (p_fieldAddr fo_203_1 rfl) ?_; refine GL.step rfl (t_mem rfl (m_load (i := 0) rfl rfl ag_3 rfl)) ?_
      refine GL.mv_ rfl rfl ?_; refine GL.pure rfl (p_add rfl rfl (w64 (by omega) (by omega))) ?_; refine GL.pure rfl (p_nilCheck rfl) ?_; refine GL.pure rfl (p_fieldAddr fo_205_0 rfl) ?_; refine GL.pure rfl (p_fieldAddr fo_203_1 rfl) ?_
      refine GL.step rfl (t_store (i := 0) rfl rfl rfl rfl sz_3 rfl rfl rfl) ?_; refine GL.nl_ ?_; refine GC.region ?_; refine GL.pure rfl (p_fieldAddr fo_39_3 rfl) ?_; refine GL.step rfl (t_mem rfl (m_load (i := 1) rfl rfl ag_37 rfl)) ?_
      refine GL.step rfl (t_mem rfl (m_loadN (i := 4) rfl rfl ag_61 (vs := [_, _, _, _]) sz_61 ⟨rfl, rfl, rfl, rfl, trivial⟩)) ?_; refine GL.step rfl (t_buildSlice rfl Tryz.underlying37 sz_61 ze_61 rfl rfl rfl rfl rfl rfl) (GL.ex fun b_t97 => ?_)
      refine GL.step rfl (t_append (i := 4) (k := 0) rfl el_37 rfl rfl rfl rfl rfl (allOne_mem rfl) (by first | (have := hk.1.1; omega) | (have := hj.1.1; omega)) (fun _ => rfl)) (GL.ex fun v98 => ?_); refine GL.shape (i := 4) rfl (fun A_v98 c_v98 e_v98 l_v98 k_v98 => ?_)
      subst e_v98
      refine GL.snoc (j := 1) (js := [0]) (⟨v58, v62, o76⟩ : Row) ((), ((), ((), (A76, c76)))) rfl rfl ⟨trivial, trivial, trivial, l76, k76⟩ ?_; refine GL.pure rfl (p_fieldAddr fo_39_3 rfl) ?_; refine GL.step rfl (t_store (i := 2) rfl rfl rfl rfl sz_37 rfl rfl rfl) ?_
      refine GL.nil (?_ : GC _ _ _ _)
      refine GC.region ?_; refine GL.pure rfl (p_add rfl rfl (w64 (by omega) (by omega))) ?_; refine GL.mv_ rfl rfl ?_; refine GL.nil ?_
      exact fun a w h => ⟨(k + 1), (rs ++ [(⟨v58, v62, o76⟩ : Row)]), (_), (_), (t62 + n76), (by omega), ⟨⟨by simp; omega, by omega⟩, by omega, manyF_next hj.2.2.1 (show mrowF b t = some _ from by simp only [mrowF, hs58, hs62, Option.bind_some, hd76, Option.map_some]), fun r hr => by rcases List.mem_append.1 hr with hr | hr; exact hj.2.2.2 r hr; rw [List.mem_singleton.1 hr]; exact decRes_len hd76⟩, by rw [List.length_append]; exact h.cut (is := [1, 1, 2, 1]) (js := [0, 3, 4]) ⟨rfl, rfl, rfl, rfl, rfl, trivial⟩ rfl rfl⟩
   ·try simp only [tst_] at h2
    refine GC.exit (?_ : GC _ _ _ _)
    refine GC.sr_ ?_
    obtain ⟨tR, htR⟩ : ∃ tR, tR = t := ⟨t, rfl⟩
    have hkR : manyF (mrowF b) t52 v52.toNat = some (rs, tR) := by rw [show v52.toNat = k by omega, htR]; exact hj.2.2.1
    have htR' : tR ≤ b.length := by omega
    subst htR
    refine GL.shape (i := 2) rfl (fun A_RW c_RW e_RW l_RW k_RW => ?_)
    subst e_RW
    refine GL.freezeR (i := 2) (j := 0) rfl rfl (by decide) ?_; refine GL.mv_ rfl rfl ?_; refine GL.callP rfl fn_160 rfl (is := [0]) (js := [3]) rfl rfl (by exact (mgrp_ct _ _ _ b _ tR (by omega) (by omega) (by omega)).mono (fun _ _ _ h => h) (fun _ h => ⟨h.1, by simp only [mstF, hs13, hs17, hs21, hs27, hkP, hs52, hkR, Option.bind_some, h.2, Option.bind_none]⟩)) (fun v a w he h => FinP.panic he h) (GL.ret ?_)
    rintro _ _ _ ⟨g102, t102, A102, c102, hs102, ht102, l102, m102, rfl, rfl, rfl⟩
    refine GL.pure rfl (p_fieldAddr fo_39_4 rfl) ?_; refine GL.step rfl (t_storeN (i := 1) rfl rfl rfl sz_33 rfl rfl rfl) ?_; refine GL.nl_ ?_; refine GC.seq' ?_; refine GC.sr_ ?_
    have hM : mstF b at_ = mstC (⟨v13, ⟨v17, v21⟩, ps, rs, g102⟩, t102) := by simp only [mstF, hs13, hs17, hs21, hs27, hkP, hs52, hkR, hs102, Option.bind_some]
    have hSL : SttLen (⟨v13, ⟨v17, v21⟩, ps, rs, g102⟩ : Stt) := ⟨by have := hk.1.1; show ps.length ≤ _; omega, by have := hj.1.1; show rs.length ≤ _; omega, by show g102.members.length ≤ _; omega, fun p hp => by have := hk.2.2.2 p hp; show p.data.length ≤ _; omega, fun r hr => by have := hj.2.2.2 r hr; show r.result.data.length ≤ _; omega⟩
    refine GL.step rfl (t_mem rfl (m_loadN (i := 1) rfl rfl ag_39 (vs := [_, _, _, _, _, _, _]) sz_39 ⟨rfl, rfl, rfl, rfl, rfl, rfl, rfl, trivial⟩)) ?_; refine GL.step rfl (t_call rfl fn_121 rfl (is := []) (js := [3, 1, 0]) rfl rfl (by exact held_ct (⟨v13, ⟨v17, v21⟩, ps, rs, g102⟩ : Stt) _ _ _ _ _ _ hSL)) (GL.ret ?_)
    rintro _ _ _ ⟨x106, rfl, rfl, rfl⟩
    refine GL.mv_ rfl rfl ?_
    iterate 2 refine GL.pure rfl (p_extract rfl rfl) ?_
    iterate 2 refine GL.as_ rfl rfl ?_
    refine GL.nl_ ?_; refine GC.sr_ ?_; refine GL.mv_ rfl rfl ?_; refine GL.pure rfl (p_not rfl) ?_; refine GL.nl_ ?_; refine GC.cond rfl (fun h3 => ?_) (fun h3 => ?_)
    ·try simp only [tst_] at h3
     refine GC.region ?_; refine GL.pure rfl (p_build ze_200 of_200 rfl rfl) ?_; refine GL.pure rfl (p_mkIface Tryz.underlying200 (fun m h => by cases h) rfl) ?_; refine GL.panicN rfl (fun a w h => ?_)
     exact FinP.panic ⟨⟨_, by decide, rfl⟩, by rw [hM, mstC]; exact if_neg (fun hh => by first | exact absurd hh.1 (by assumption) | (have h2 : t102 ≤ 33554432 := hh.2; omega))⟩ h
    ·try simp only [tst_] at h3
     refine GC.skip (?_ : GC _ _ _ _)
     refine GC.seq' ?_; refine GC.sr_ ?_; refine GL.mv_ rfl rfl ?_; refine GL.pure rfl (p_nilCheck rfl) ?_; refine GL.pure rfl (p_fieldAddr fo_205_0 rfl) ?_; refine GL.pure rfl (p_fieldAddr fo_203_1 rfl) ?_; refine GL.step rfl (t_mem rfl (m_load (i := 0) rfl rfl ag_3 rfl)) ?_
     refine GL.pure rfl (p_gtr rfl rfl) ?_; refine GL.nl_ ?_; refine GC.cond rfl (fun h4 => ?_) (fun h4 => ?_)
     ·try simp only [tst_] at h4
      refine GC.region ?_; refine GL.pure rfl (p_build ze_200 of_200 rfl rfl) ?_; refine GL.pure rfl (p_mkIface Tryz.underlying200 (fun m h => by cases h) rfl) ?_; refine GL.panicN rfl (fun a w h => ?_)
      exact FinP.panic ⟨⟨_, by decide, rfl⟩, by rw [hM, mstC]; exact if_neg (fun hh => by first | exact absurd hh.1 (by assumption) | (have h2 : t102 ≤ 33554432 := hh.2; omega))⟩ h
     ·try simp only [tst_] at h4
      refine GC.skip (?_ : GC _ _ _ _)
      refine GC.sr_ ?_; refine GL.step rfl (t_mem rfl (m_loadN (i := 1) rfl rfl ag_39 (vs := [_, _, _, _, _, _, _]) sz_39 ⟨rfl, rfl, rfl, rfl, rfl, rfl, rfl, trivial⟩)) ?_; refine GL.step rfl (t_storeN (i := 2) rfl rfl rfl sz_39 rfl rfl rfl) ?_
      refine GL.nl_ ?_; refine GC.ret ?_
      refine fun a w h => FinP.back (rs := [.cell 2 39]) (vs := [_]) (is := [0]) (js := [3, 1, 0]) rfl ⟨⟨2, _, _, _, _, rfl, rfl, .inr ⟨[_, _, _, _, _, _, _], rfl, ag_39, sz_39, ⟨rfl, rfl, rfl, rfl, rfl, rfl, rfl, trivial⟩⟩⟩, trivial⟩ rfl rfl ?_ h
      clear h
      exact ⟨_, _, by rw [hM, mstC]; exact if_pos ⟨by assumption, by omega⟩, by omega, hSL, ⟨_, _, _, _, _, _, l_PG, k_PG, l_RW, k_RW, l102, m102, rfl, rfl⟩, rfl⟩
end Go.Proofs.YtdhdmbmknpjhbaaGreat
namespace Go.Sx
open Go
section
variable {P : Program} {c : Cx} {n : Nat} {env : List (Nat × Value)} {G G' Gr : List Own} {Q Q' : List Pers} {d : Nat} {ty : TypeId} {pos : String} {aft : Array Edge} {g : Option (Nat × Bool)} {x y : Operand} {t u : TypeId} {a a' : Act} {w w' : World}
theorem GL.callPv {ops : Array Oper} {X : Exit → Asr} {rest : List Oper} {f : FuncId} {xs : List Operand} {vs us : List Value} {ts : Array TypeId} {is js : List Nat} {G1 : List Own} {Q1 : List Pers} {R : Value → List Own → List Pers → Prop} {E : Value → Prop} (hd : Nat.blt d n = true) (hf : Ent P f) (hv : ev env x = some (.func (.func f) #[] us.toArray)) (hx : evs env xs = some vs)
    (hsel : sel G is = some (G1, Gr)) (hq : pickQ Q js = some Q1) (h : CtP P f (vs ++ us) G1 Q1 R E) (hp : ∀ v a w, E v → St c n env Gr Q a w → X (.panic [{ v := v, recovered := false }]) a w)
    (k : GL P ops X rest (fun a w => ∃ v G2 Q2, R v G2 Q2 ∧ St c n ((d, v) :: env) (G2 ++ Gr) (Q2 ++ Q) a w)) :
    GL P ops X (⟨some d, .call { callee := .value x, args := xs.toArray, argTypes := ts }, ty, pos, aft, none⟩ :: rest) (St c n env G Q) := by
  rintro a w ⟨S, he, hh, hrel⟩
  refine wpList_plain rfl fun K hK => ?_
  have hp' := sel_perm hsel
  have hh1 := hh.perm hp'
  have hrel1 := hrel.perm hp'
  have hin : Heap S G1 Q1 w := hh1.sub (List.sublist_append_left _ _) (pickQ_mem hq)
  unfold Oper.wp
  rw [run_callv hf hv hx a w he.toEnv]
  rw [Oper.upon_enter]
  refine (h w S hin).mono ?_
  rintro e w' (⟨v, G2, Q2, S', rfl, hR, h', hfr, hS, hkk⟩ | ⟨v, rfl, hE, hfr⟩)
  · exact hK _ _ (k _ _ ⟨v, G2, Q2, hR, St.called hh1 hrel1 h' hfr hS hkk (he.put hd v)⟩)
  · exact hp v a w' hE (St.lost he hh1 hrel1 hfr)
theorem p_assert {v : Value} {ut : TypeDesc} {xt : TypeId} (hx : ev env x = some (.iface t v)) (hu : P.underlying t = some ut) (hn : ∀ m, ut ≠ .interface m) : Pv P n env ⟨some d, .typeAssert x xt t true, ty, pos, aft, g⟩ (.tuple #[v, .bool true]) := fun a w he => by
  simp only [execOp, he.eval hx, Instr.typeAssert, Sem.run_bind, run_underlying hu, Result.andThen_ok]
  cases ut <;> first | simp | exact absurd rfl (hn _)
theorem p_ifNil {v : Value} {k : TypeId} (hx : ev env x = some (.iface k v)) {ms} (ht : P.underlying t = some (.interface ms)) : Pv P n env ⟨some d, .binOp .eql t x (.const .nilIface) u, ty, pos, aft, g⟩ (.bool false) := fun a w he => by
  simp only [execOp, he.eval hx]
  have h1 : (eqGuard .eql t x (.const .nilIface) (.iface k v) .nilIface).run P w = .ok () w := by
    unfold eqGuard
    rfl
  have h2 : (Op.equal t (.iface k v) .nilIface).run P w = .ok false w := by
    show (Op.equalIn (9999 + 1) t (.iface k v) .nilIface).run P w = _
    rw [Op.equalIn]
    simp only [Sem.run_bind, run_underlying ht, Result.andThen_ok]
    rfl
  simp [binOp, Act.eval, h1, h2]
end
end Go.Sx
namespace Go.Proofs.YtdhdmbmknpjhbaaGreat
open Go Go.Sx Go.Proofs
abbrev zE : List Value := [.int .u8 0, .int .i64 0, .int .i64 0, .int .i64 0, .int .i64 0, .int .u8 0, .int .i64 0, .int .i64 0, .slice none 0 0, .slice none 0 0, .int .i64 0, .slice none 0 0]
abbrev zS : List Value := [.int .i64 0, .int .i64 0, .int .i64 0, .slice none 0 0, .slice none 0 0, .int .i64 0, .slice none 0 0]
def zen : Entry := ⟨0, 0, 0, 0, 0, zop, zgr⟩
theorem recE_ct (e : Int) (p4 p5 p6 : Nat) : CtR Tryz.prog 157 [.pointer (some ⟨p4, 0, none⟩), .pointer (some ⟨p5, 0, none⟩), .pointer (some ⟨p6, 0, none⟩)] [.cells p4 zE 64, .cells p5 [.int .i64 0] 3, .cells p6 [.int .i64 0] 45] [] (mF e)
    (fun u G Q => u = .tuple #[] ∧ G = [.cells p4 zE 64, .cells p5 [.int .i64 0] 3, .cells p6 [.int .i64 e] 45] ∧ Q = []) := by
  refine CtR.intro Tryz.func157 rfl rfl rfl rfl rfl (fun c hc => ?_)
  refine GC.seq' ?_
  refine GC.seq' ?_
  refine GC.region ?_
  refine GL.pure rfl (p_move rfl) ?_
  refine GL.pure rfl (p_ifNil rfl Tryz.underlying20) ?_
  refine GL.nil (?_ : GC _ _ _ _)
  refine GC.cond_false rfl ?_
  refine GC.skip (?_ : GC _ _ _ _)
  refine GC.seq' ?_
  refine GC.region ?_
  refine GL.pure rfl (p_move rfl) ?_
  refine GL.pure rfl (p_assert rfl Tryz.underlying200 (fun m h => by cases h)) ?_
  refine GL.pure rfl (p_move rfl) ?_
  refine GL.pure rfl (p_extract rfl rfl) ?_
  refine GL.pure rfl (p_extract rfl rfl) ?_
  refine GL.step rfl (t_alloc rfl ze_200) (GL.ex fun b_t4 => ?_)
  refine GL.step rfl (t_storeN (i := 0) rfl rfl rfl sz_200 rfl rfl rfl) ?_
  refine GL.pure rfl (p_assign rfl) ?_
  refine GL.nil (?_ : GC _ _ _ _)
  refine GC.seq' ?_
  refine GC.seq' ?_
  refine GC.region ?_
  refine GL.pure rfl (p_move rfl) ?_
  refine GL.pure rfl (p_not rfl) ?_
  refine GL.nil (?_ : GC _ _ _ _)
  refine GC.cond_false rfl ?_
  refine GC.skip (?_ : GC _ _ _ _)
  refine GC.seq' ?_
  refine GC.region ?_
  refine GL.step rfl (t_alloc rfl ze_64) (GL.ex fun b_t6 => ?_)
  refine GL.nil (?_ : GC _ _ _ _)
  refine GC.regionC (m := 6) (is := [0, 0]) (js := []) wide_ rfl rfl rfl ?_
  refine GA.take 0 rfl (by kernel_rfl) (by kernel_rfl) (by kernel_rfl) rfl (fun a w h => h.mem (is := [0, 0]) (js := []) rfl rfl) (i_mem (m_loadN (i := 0) rfl rfl ag_64 (vs := [_, _, _, _, _, _, _, _, _, _, _, _]) sz_64 ⟨rfl, rfl, rfl, rfl, rfl, rfl, rfl, rfl, rfl, rfl, rfl, rfl, trivial⟩)) ?_
  refine GA.take 1 rfl (by kernel_rfl) (by kernel_rfl) (by kernel_rfl) rfl (fun a w h => h.mem (is := [0, 0]) (js := []) rfl rfl) (i_pure (p_fieldAddr fo_200_0 rfl)) ?_
  refine GA.take 2 rfl (by kernel_rfl) (by kernel_rfl) (by kernel_rfl) rfl (fun a w h => h.mem (is := [0, 0]) (js := []) rfl rfl) (i_mem (m_load (i := 1) rfl rfl ag_45 rfl)) ?_
  refine GA.all (rs := [3]) (by kernel_rfl) (by simp) ?_
  refine GAs.cons (i := 3) rfl rfl (t_storeN (i := 2) rfl rfl rfl sz_64 rfl rfl rfl) (by rintro a w h; exact h.mem (is := [0, 0]) (js := []) rfl rfl) ?_ ?_
  · refine GA.all (rs := [4]) (by kernel_rfl) (by simp) ?_
    refine GAs.cons (i := 4) rfl rfl (t_store (i := 3) rfl rfl rfl rfl sz_3 rfl rfl rfl) (by rintro a w h; exact h.mem (is := [0, 0]) (js := []) rfl rfl) ?_ ?_
    · refine GA.all (rs := [5]) (by kernel_rfl) (by simp) ?_
      refine GAs.cons (i := 5) rfl rfl (t_store (i := 4) rfl rfl rfl rfl sz_45 rfl rfl rfl) (by rintro a w h; exact h.mem (is := [0, 0]) (js := []) rfl rfl) ?_ ?_
      · refine GA.done (by kernel_rfl) ?_
        refine fun a w h => Fin.back0 rfl (is := [2, 2, 2]) (js := []) rfl rfl ?_ h
        clear h
        exact ⟨rfl, rfl, rfl⟩
      exact GAs.nil
    exact GAs.nil
  exact GAs.nil
theorem idleE (p q r : Value) (w : World) : CallsD Tryz.prog 157 #[p, q, r] .returning w fun e u' w' => e = .returned (.tuple #[]) ∧ u' = .returning ∧ w' = w := by
  have hn : ∀ w : World, (binOp BinOp.eql 20 .nilIface .nilIface).run Tryz.prog w = .ok (.bool true) w := fun _ => by kernel_rfl
  refine callsD_of_wpS Tryz.func157 rfl fun c₀ cs hu => ?_
  apply wpS_seq
  apply wpS_region
  simp [wpOpsS, go_sem, recoverD, hu, Tryz.ntmps157, Exit.thenS]
  apply wpS_seq
  apply wpS_seq
  apply wpS_region
  simp [wpOpsS, go_sem, Exit.thenS, hn]
  refine wpS_cond (t := true) (by simp [Act.eval, Array.replicate]) ?_
  simp only [if_true]
  refine wpS_of_wp (wp_ret ?_)
  cases c₀
  simp_all [bodyPostS, results, Exit.thenS]
theorem dec1_ct (p e_ : Nat) (A : Option Addr) (b : List UInt8) (cp : Nat) (hb : b.length ≤ cp) (hcp' : cp ≤ 9223372036854775807) (hb' : b.length ≤ 10000000000000) : CtP Tryz.prog 134 [.pointer (some ⟨p, 0, none⟩)] (mleftG p e_ A b cp 0) [Pers.row Kd.u8 A b]
    (fun u G Q => ∃ (e : Entry) (t : Nat), mentF b 0 = some (e, t) ∧ t ≤ b.length ∧ EntR e u Q ∧ G = mleftG p e_ A b cp t) (fun v => mFault v ∧ mentF b 0 = none) := by
 refine CtP.intro Tryz.func134 rfl rfl rfl (fun c hc => ?_)
 refine GC.sr_ ?_; refine GL.step rfl (t_alloc rfl ze_64) (GL.ex fun b_t2 => ?_); refine GL.nl_ ?_; refine GC.sr_ ?_; refine GL.mv_ rfl rfl ?_; refine GL.callP rfl fn_135 rfl (is := [1]) (js := [0]) rfl rfl (by exact mentr_ct _ _ _ b _ 0 hb hcp' hb' (by omega)) (fun v a w he h => FinP.panic he h) (GL.ret ?_)
 rintro _ _ _ ⟨g4, t4, hs4, ht4, ⟨A4, cp4, B4, cq4, C4, cr4, j4, k4, l4, m4, n4, o4, rfl, rfl⟩, rfl⟩
 refine GL.step rfl (t_storeN (i := 1) rfl rfl rfl sz_64 rfl rfl rfl) ?_; refine GL.nl_ ?_; refine GC.ret ?_
 refine fun a w h => FinP.back (rs := [.cell 2 64]) (vs := [_]) (is := [0]) (js := [0, 1, 2]) rfl ⟨⟨1, _, _, _, _, rfl, rfl, .inr ⟨[_, _, _, _, _, _, _, _, _, _, _, _], rfl, ag_64, sz_64, ⟨rfl, rfl, rfl, rfl, rfl, rfl, rfl, rfl, rfl, rfl, rfl, rfl, trivial⟩⟩⟩, trivial⟩ rfl rfl ?_ h
 clear h
 exact ⟨_, _, hs4, ht4, ⟨_, _, _, _, _, _, j4, k4, l4, m4, n4, o4, rfl, rfl⟩, rfl⟩
abbrev DecR (b : List UInt8) (u : Value) (G : List Own) (Q : List Pers) : Prop := ∃ (e : Entry) (n : Nat) (k : Int) (A : Option Addr) (cp : Nat) (B : Option Addr) (cq : Nat) (C : Option Addr) (cr : Nat), ((k = 0 → mentF b 0 = some (e, n)) ∧ (k ≠ 0 → mentF b 0 = none)) ∧ n ≤ b.length ∧ e.op.data.length ≤ cp ∧ cp ≤ 9223372036854775807 ∧ e.op.old.length ≤ cq ∧ cq ≤ 9223372036854775807 ∧ e.grp.members.length ≤ cr ∧ cr ≤ 9223372036854775807 ∧ u = .tuple #[entV e A cp B cq C cr, .int .i64 (n : Int), .int .i64 k] ∧ G = [] ∧ Q = entQ e A B C
theorem readE_ct (A : Option Addr) (b : List UInt8) (cp : Nat) (hb : b.length ≤ cp) (hcp' : cp ≤ 9223372036854775807) (hb' : b.length ≤ 10000000000000) : Ct Tryz.prog 133 [.slice A b.length cp, .func (.func 134) #[] #[]] [] [Pers.row Kd.u8 A b] (DecR b) := by
 refine Ct.introD Tryz.func133 rfl rfl rfl (fun c hc hcD => ?_)
 refine GC.sr_ ?_; refine GL.step rfl (t_alloc rfl ze_64) (GL.ex fun b_t4 => ?_); refine GL.step rfl (t_alloc rfl ze_3) (GL.ex fun b_t5 => ?_); refine GL.step rfl (t_alloc rfl ze_45) (GL.ex fun b_t6 => ?_); refine GL.nl_ ?_
 refine GC.sr_ ?_; refine GL.pure rfl (p_makeFunc rfl rfl) ?_; refine GL.defer (f := 157) (us := [_, _, _]) hcD rfl ?_; refine GL.nl_ ?_; refine GC.sr_ ?_; refine GL.mv_ rfl rfl ?_; refine GL.pure rfl (p_build ze_203 of_203 rfl rfl) ?_
 refine GL.pure rfl (p_build ze_205 of_205 rfl rfl) ?_; refine GL.step rfl (t_box rfl rfl rfl) (GL.ex fun b_t12 => ?_); refine GL.as_ rfl rfl ?_; refine GL.nl_ ?_; refine GC.sr_ ?_
 iterate 2 refine GL.mv_ rfl rfl ?_
 refine GL.callPv rfl fn_134 rfl rfl (is := [0]) (js := [0]) rfl rfl (by exact dec1_ct _ _ _ _ _ (by omega) (by omega) (by omega)) (fun v a w he h => by obtain ⟨⟨ex, hex, rfl⟩, hno⟩ := he; exact FinD.catch fn_157 (recE_ct ex _ _ _) (isC := [2, 1, 0]) (jsC := []) rfl rfl (fun u G2 Q2 a w hR h => by obtain ⟨rfl, rfl, rfl⟩ := hR; exact Fin.back (rs := [.cell 4 64, .cell 5 3, .cell 6 45]) (vs := [_, _, _]) (is := []) (js := [1, 1, 0]) rfl ⟨⟨0, _, _, _, _, rfl, rfl, .inr ⟨[_, _, _, _, _, _, _, _, _, _, _, _], rfl, ag_64, sz_64, ⟨rfl, rfl, rfl, rfl, rfl, rfl, rfl, rfl, rfl, rfl, rfl, rfl, trivial⟩⟩⟩, ⟨1, _, _, _, _, rfl, rfl, .inl ⟨ag_3, rfl⟩⟩, ⟨2, _, _, _, _, rfl, rfl, .inl ⟨ag_45, rfl⟩⟩, trivial⟩ rfl rfl (by exact ⟨zen, 0, ex, none, 0, none, 0, none, 0, ⟨fun h => absurd h hex, fun _ => hno⟩, by omega, by simp [zen, zop], by omega, by simp [zen, zop], by omega, by simp [zen, zgr], by omega, rfl, rfl, rfl⟩) ((h.know (q := Pers.row Kd.u8 none []) (fun _ _ _ => .inl rfl)).know (q := Pers.row kI none []) (fun _ _ _ => .inl rfl))) h) (GL.ret ?_)
 rintro _ _ _ ⟨g15, t15, hs15, ht15, ⟨A15, cp15, B15, cq15, C15, cr15, j15, k15, l15, m15, n15, o15, rfl, rfl⟩, rfl⟩
 refine GL.step rfl (t_storeN (i := 3) rfl rfl rfl sz_64 rfl rfl rfl) ?_; refine GL.nl_ ?_; refine GC.seq' ?_; refine GC.regionC (m := 9) (is := [0]) (js := [0, 1, 2, 3]) wide_ rfl rfl rfl ?_; refine GA.take 1 rfl (by kernel_rfl) (by kernel_rfl) (by kernel_rfl) rfl (fun a w h => h.mem (is := [0]) (js := [0, 1, 2, 3]) rfl rfl) (i_pure (p_move rfl)) ?_
 refine GA.take 2 rfl (by kernel_rfl) (by kernel_rfl) (by kernel_rfl) rfl (fun a w h => h.mem (is := [0]) (js := [0, 1, 2, 3]) rfl rfl) (i_pure (p_nilCheck rfl)) ?_; refine GA.take 3 rfl (by kernel_rfl) (by kernel_rfl) (by kernel_rfl) rfl (fun a w h => h.mem (is := [0]) (js := [0, 1, 2, 3]) rfl rfl) (i_pure (p_fieldAddr fo_205_0 rfl)) ?_
 refine GA.take 4 rfl (by kernel_rfl) (by kernel_rfl) (by kernel_rfl) rfl (fun a w h => h.mem (is := [0]) (js := [0, 1, 2, 3]) rfl rfl) (i_pure (p_fieldAddr fo_203_1 rfl)) ?_; refine GA.take 5 rfl (by kernel_rfl) (by kernel_rfl) (by kernel_rfl) rfl (fun a w h => h.mem (is := [0]) (js := [0, 1, 2, 3]) rfl rfl) (i_mem (m_load (i := 0) rfl rfl ag_3 rfl)) ?_
 refine GA.all (rs := [0]) (by kernel_rfl) (by simp) ?_
 refine GAs.cons (i := 0) rfl rfl (t_mem rfl (m_loadN (i := 3) rfl rfl ag_64 (vs := [_, _, _, _, _, _, _, _, _, _, _, _]) sz_64 ⟨rfl, rfl, rfl, rfl, rfl, rfl, rfl, rfl, rfl, rfl, rfl, rfl, trivial⟩)) (by rintro a w h; exact h.mem (is := [0]) (js := [0, 1, 2, 3]) rfl rfl) ?_ ?_
 ·refine GA.all (rs := [6]) (by kernel_rfl) (by simp) ?_
  refine GAs.cons (i := 6) rfl rfl (t_storeN (i := 3) rfl rfl rfl sz_64 rfl rfl rfl) (by rintro a w h; exact h.mem (is := [0]) (js := [0, 1, 2, 3]) rfl rfl) ?_ ?_
  ·refine GA.all (rs := [7]) (by kernel_rfl) (by simp) ?_
   refine GAs.cons (i := 7) rfl rfl (t_store (i := 2) rfl rfl rfl rfl sz_3 rfl rfl rfl) (by rintro a w h; exact h.mem (is := [0]) (js := [0, 1, 2, 3]) rfl rfl) ?_ ?_
   ·refine GA.all (rs := [8]) (by kernel_rfl) (by simp) ?_
    refine GAs.cons (i := 8) rfl rfl (t_store (i := 1) rfl rfl rfl rfl sz_45 rfl rfl rfl) (by rintro a w h; exact h.mem (is := [0]) (js := [0, 1, 2, 3]) rfl rfl) ?_ ?_
    ·refine GA.done (by kernel_rfl) (?_ : GC _ _ _ _)
     refine GC.ret ?_
     refine fun a w h => FinD.back1 fn_157 (idleE _ _ _) (rs := [.cell 4 64, .cell 5 3, .cell 6 45]) (vs := [_, _, _]) (is := []) (js := [0, 1, 2]) rfl ⟨⟨3, _, _, _, _, rfl, rfl, .inr ⟨[_, _, _, _, _, _, _, _, _, _, _, _], rfl, ag_64, sz_64, ⟨rfl, rfl, rfl, rfl, rfl, rfl, rfl, rfl, rfl, rfl, rfl, rfl, trivial⟩⟩⟩, ⟨2, _, _, _, _, rfl, rfl, .inl ⟨ag_3, rfl⟩⟩, ⟨1, _, _, _, _, rfl, rfl, .inl ⟨ag_45, rfl⟩⟩, trivial⟩ rfl rfl ?_ h
     clear h
     exact ⟨_, _, 0, _, _, _, _, _, _, ⟨fun _ => hs15, fun h => absurd rfl h⟩, ht15, j15, k15, l15, m15, n15, o15, rfl, rfl, rfl⟩
    exact GAs.nil
   exact GAs.nil
  exact GAs.nil
 exact GAs.nil
theorem decent_ct (A : Option Addr) (b : List UInt8) (cp : Nat) (hb : b.length ≤ cp) (hcp' : cp ≤ 9223372036854775807) (hb' : b.length ≤ 10000000000000) : Ct Tryz.prog 96 [.slice A b.length cp] [] [Pers.row Kd.u8 A b] (DecR b) := by
 refine Ct.intro Tryz.func96 rfl rfl rfl (fun c hc => ?_)
 refine GC.sr_ ?_; refine GL.step rfl (t_alloc rfl ze_64) (GL.ex fun b_t2 => ?_)
 iterate 2 refine GL.as_ rfl rfl ?_
 refine GL.nl_ ?_; refine GC.sr_ ?_; refine GL.mv_ rfl rfl ?_; refine GL.step rfl (t_call rfl fn_133 rfl (is := []) (js := [0]) rfl rfl (by exact readE_ct _ b _ hb hcp' hb')) (GL.ret ?_)
 rintro _ _ _ ⟨g6, t6, f6, A6, cp6, B6, cq6, C6, cr6, hs6, ht6, j6, k6, l6, m6, n6, o6, rfl, rfl, rfl⟩
 iterate 3 refine GL.pure rfl (p_extract rfl rfl) ?_
 refine GL.step rfl (t_storeN (i := 0) rfl rfl rfl sz_64 rfl rfl rfl) ?_
 iterate 2 refine GL.as_ rfl rfl ?_
 refine GL.nl_ ?_; refine GC.ret ?_
 refine fun a w h => Fin.back (rs := [.cell 2 64, .tmp 3, .tmp 4]) (vs := [_, _, _]) (is := []) (js := [0, 1, 2]) rfl ⟨⟨0, _, _, _, _, rfl, rfl, .inr ⟨[_, _, _, _, _, _, _, _, _, _, _, _], rfl, ag_64, sz_64, ⟨rfl, rfl, rfl, rfl, rfl, rfl, rfl, rfl, rfl, rfl, rfl, rfl, trivial⟩⟩⟩, rfl, rfl, trivial⟩ rfl rfl ?_ h
 clear h
 exact ⟨_, _, _, _, _, _, _, _, _, hs6, ht6, j6, k6, l6, m6, n6, o6, rfl, rfl, rfl⟩
end Go.Proofs.YtdhdmbmknpjhbaaGreat
namespace Go.Proofs.YtdhdmbmknpjhbaaGreat
open Go Go.Sx Go.Proofs
theorem zstLen : SttLen zst := ⟨by simp [zst], by simp [zst], by simp [zst, zgr], fun p hp => by simp [zst] at hp, fun r hr => by simp [zst] at hr⟩
theorem recS_ct (e : Int) (p4 p5 p6 : Nat) : CtR Tryz.prog 170 [.pointer (some ⟨p4, 0, none⟩), .pointer (some ⟨p5, 0, none⟩), .pointer (some ⟨p6, 0, none⟩)] [.cells p4 zS 39, .cells p5 [.int .i64 0] 3, .cells p6 [.int .i64 0] 45] [] (mF e)
    (fun u G Q => u = .tuple #[] ∧ G = [.cells p4 zS 39, .cells p5 [.int .i64 0] 3, .cells p6 [.int .i64 e] 45] ∧ Q = []) := by
  refine CtR.intro Tryz.func170 rfl rfl rfl rfl rfl (fun c hc => ?_)
  refine GC.seq' ?_
  refine GC.seq' ?_
  refine GC.region ?_
  refine GL.pure rfl (p_move rfl) ?_
  refine GL.pure rfl (p_ifNil rfl Tryz.underlying20) ?_
  refine GL.nil (?_ : GC _ _ _ _)
  refine GC.cond_false rfl ?_
  refine GC.skip (?_ : GC _ _ _ _)
  refine GC.seq' ?_
  refine GC.region ?_
  refine GL.pure rfl (p_move rfl) ?_
  refine GL.pure rfl (p_assert rfl Tryz.underlying200 (fun m h => by cases h)) ?_
  refine GL.pure rfl (p_move rfl) ?_
  refine GL.pure rfl (p_extract rfl rfl) ?_
  refine GL.pure rfl (p_extract rfl rfl) ?_
  refine GL.step rfl (t_alloc rfl ze_200) (GL.ex fun b_t4 => ?_)
  refine GL.step rfl (t_storeN (i := 0) rfl rfl rfl sz_200 rfl rfl rfl) ?_
  refine GL.pure rfl (p_assign rfl) ?_
  refine GL.nil (?_ : GC _ _ _ _)
  refine GC.seq' ?_
  refine GC.seq' ?_
  refine GC.region ?_
  refine GL.pure rfl (p_move rfl) ?_
  refine GL.pure rfl (p_not rfl) ?_
  refine GL.nil (?_ : GC _ _ _ _)
  refine GC.cond_false rfl ?_
  refine GC.skip (?_ : GC _ _ _ _)
  refine GC.seq' ?_
  refine GC.region ?_
  refine GL.step rfl (t_alloc rfl ze_39) (GL.ex fun b_t6 => ?_)
  refine GL.nil (?_ : GC _ _ _ _)
  refine GC.regionC (m := 6) (is := [0, 0]) (js := []) wide_ rfl rfl rfl ?_
  refine GA.take 0 rfl (by kernel_rfl) (by kernel_rfl) (by kernel_rfl) rfl (fun a w h => h.mem (is := [0, 0]) (js := []) rfl rfl) (i_mem (m_loadN (i := 0) rfl rfl ag_39 (vs := [_, _, _, _, _, _, _]) sz_39 ⟨rfl, rfl, rfl, rfl, rfl, rfl, rfl, trivial⟩)) ?_
  refine GA.take 1 rfl (by kernel_rfl) (by kernel_rfl) (by kernel_rfl) rfl (fun a w h => h.mem (is := [0, 0]) (js := []) rfl rfl) (i_pure (p_fieldAddr fo_200_0 rfl)) ?_
  refine GA.take 2 rfl (by kernel_rfl) (by kernel_rfl) (by kernel_rfl) rfl (fun a w h => h.mem (is := [0, 0]) (js := []) rfl rfl) (i_mem (m_load (i := 1) rfl rfl ag_45 rfl)) ?_
  refine GA.all (rs := [3]) (by kernel_rfl) (by simp) ?_
  refine GAs.cons (i := 3) rfl rfl (t_storeN (i := 2) rfl rfl rfl sz_39 rfl rfl rfl) (by rintro a w h; exact h.mem (is := [0, 0]) (js := []) rfl rfl) ?_ ?_
  · refine GA.all (rs := [4]) (by kernel_rfl) (by simp) ?_
    refine GAs.cons (i := 4) rfl rfl (t_store (i := 3) rfl rfl rfl rfl sz_3 rfl rfl rfl) (by rintro a w h; exact h.mem (is := [0, 0]) (js := []) rfl rfl) ?_ ?_
    · refine GA.all (rs := [5]) (by kernel_rfl) (by simp) ?_
      refine GAs.cons (i := 5) rfl rfl (t_store (i := 4) rfl rfl rfl rfl sz_45 rfl rfl rfl) (by rintro a w h; exact h.mem (is := [0, 0]) (js := []) rfl rfl) ?_ ?_
      · refine GA.done (by kernel_rfl) ?_
        refine fun a w h => Fin.back0 rfl (is := [2, 2, 2]) (js := []) rfl rfl ?_ h
        clear h
        exact ⟨rfl, rfl, rfl⟩
      exact GAs.nil
    exact GAs.nil
  exact GAs.nil
theorem idleS (p q r : Value) (w : World) : CallsD Tryz.prog 170 #[p, q, r] .returning w fun e u' w' => e = .returned (.tuple #[]) ∧ u' = .returning ∧ w' = w := by
  have hn : ∀ w : World, (binOp BinOp.eql 20 .nilIface .nilIface).run Tryz.prog w = .ok (.bool true) w := fun _ => by kernel_rfl
  refine callsD_of_wpS Tryz.func170 rfl fun c₀ cs hu => ?_
  apply wpS_seq
  apply wpS_region
  simp [wpOpsS, go_sem, recoverD, hu, Tryz.ntmps170, Exit.thenS]
  apply wpS_seq
  apply wpS_seq
  apply wpS_region
  simp [wpOpsS, go_sem, Exit.thenS, hn]
  refine wpS_cond (t := true) (by simp [Act.eval, Array.replicate]) ?_
  simp only [if_true]
  refine wpS_of_wp (wp_ret ?_)
  cases c₀
  simp_all [bodyPostS, results, Exit.thenS]
theorem dec2_ct (p e_ : Nat) (A : Option Addr) (b : List UInt8) (cp : Nat) (hb : b.length ≤ cp) (hcp' : cp ≤ 9223372036854775807) (hb' : b.length ≤ 10000000000000) : CtP Tryz.prog 155 [.pointer (some ⟨p, 0, none⟩)] (mleftG p e_ A b cp 0) [Pers.row Kd.u8 A b]
    (fun u G Q => ∃ (e : Stt) (t : Nat), mstF b 0 = some (e, t) ∧ t ≤ b.length ∧ SttLen e ∧ SttR e u Q ∧ G = mleftG p e_ A b cp t) (fun v => mFault v ∧ mstF b 0 = none) := by
 refine CtP.intro Tryz.func155 rfl rfl rfl (fun c hc => ?_)
 refine GC.sr_ ?_; refine GL.step rfl (t_alloc rfl ze_39) (GL.ex fun b_t2 => ?_); refine GL.nl_ ?_; refine GC.sr_ ?_; refine GL.mv_ rfl rfl ?_; refine GL.callP rfl fn_156 rfl (is := [1]) (js := [0]) rfl rfl (by exact mstr_ct _ _ _ b _ 0 hb hcp' hb' (by omega)) (fun v a w he h => FinP.panic he h) (GL.ret ?_)
 rintro _ _ _ ⟨g4, t4, hs4, ht4, hl4, ⟨A4, cp4, B4, cq4, C4, cr4, j4, k4, l4, m4, n4, o4, rfl, rfl⟩, rfl⟩
 refine GL.step rfl (t_storeN (i := 1) rfl rfl rfl sz_39 rfl rfl rfl) ?_; refine GL.nl_ ?_; refine GC.ret ?_
 refine fun a w h => FinP.back (rs := [.cell 2 39]) (vs := [_]) (is := [0]) (js := [0, 1, 2]) rfl ⟨⟨1, _, _, _, _, rfl, rfl, .inr ⟨[_, _, _, _, _, _, _], rfl, ag_39, sz_39, ⟨rfl, rfl, rfl, rfl, rfl, rfl, rfl, trivial⟩⟩⟩, trivial⟩ rfl rfl ?_ h
 clear h
 exact ⟨_, _, hs4, ht4, hl4, ⟨_, _, _, _, _, _, j4, k4, l4, m4, n4, o4, rfl, rfl⟩, rfl⟩
abbrev DecT (b : List UInt8) (u : Value) (G : List Own) (Q : List Pers) : Prop := ∃ (e : Stt) (n : Nat) (k : Int) (A : Option Addr) (cp : Nat) (B : Option Addr) (cq : Nat) (C : Option Addr) (cr : Nat), ((k = 0 → mstF b 0 = some (e, n)) ∧ (k ≠ 0 → mstF b 0 = none)) ∧ n ≤ b.length ∧ SttLen e ∧ e.pages.length ≤ cp ∧ cp ≤ 9223372036854775807 ∧ e.rows.length ≤ cq ∧ cq ≤ 9223372036854775807 ∧ e.grp.members.length ≤ cr ∧ cr ≤ 9223372036854775807 ∧ u = .tuple #[sttV e A cp B cq C cr, .int .i64 (n : Int), .int .i64 k] ∧ G = [] ∧ Q = sttQ e A B C
theorem readS_ct (A : Option Addr) (b : List UInt8) (cp : Nat) (hb : b.length ≤ cp) (hcp' : cp ≤ 9223372036854775807) (hb' : b.length ≤ 10000000000000) : Ct Tryz.prog 154 [.slice A b.length cp, .func (.func 155) #[] #[]] [] [Pers.row Kd.u8 A b] (DecT b) := by
 refine Ct.introD Tryz.func154 rfl rfl rfl (fun c hc hcD => ?_)
 refine GC.sr_ ?_; refine GL.step rfl (t_alloc rfl ze_39) (GL.ex fun b_t4 => ?_); refine GL.step rfl (t_alloc rfl ze_3) (GL.ex fun b_t5 => ?_); refine GL.step rfl (t_alloc rfl ze_45) (GL.ex fun b_t6 => ?_); refine GL.nl_ ?_
 refine GC.sr_ ?_; refine GL.pure rfl (p_makeFunc rfl rfl) ?_; refine GL.defer (f := 170) (us := [_, _, _]) hcD rfl ?_; refine GL.nl_ ?_; refine GC.sr_ ?_; refine GL.mv_ rfl rfl ?_; refine GL.pure rfl (p_build ze_203 of_203 rfl rfl) ?_
 refine GL.pure rfl (p_build ze_205 of_205 rfl rfl) ?_; refine GL.step rfl (t_box rfl rfl rfl) (GL.ex fun b_t12 => ?_); refine GL.as_ rfl rfl ?_; refine GL.nl_ ?_; refine GC.sr_ ?_
 iterate 2 refine GL.mv_ rfl rfl ?_
 refine GL.callPv rfl fn_155 rfl rfl (is := [0]) (js := [0]) rfl rfl (by exact dec2_ct _ _ _ _ _ (by omega) (by omega) (by omega)) (fun v a w he h => by obtain ⟨⟨ex, hex, rfl⟩, hno⟩ := he; exact FinD.catch fn_170 (recS_ct ex _ _ _) (isC := [2, 1, 0]) (jsC := []) rfl rfl (fun u G2 Q2 a w hR h => by obtain ⟨rfl, rfl, rfl⟩ := hR; exact Fin.back (rs := [.cell 4 39, .cell 5 3, .cell 6 45]) (vs := [_, _, _]) (is := []) (js := [2, 1, 0]) rfl ⟨⟨0, _, _, _, _, rfl, rfl, .inr ⟨[_, _, _, _, _, _, _], rfl, ag_39, sz_39, ⟨rfl, rfl, rfl, rfl, rfl, rfl, rfl, trivial⟩⟩⟩, ⟨1, _, _, _, _, rfl, rfl, .inl ⟨ag_3, rfl⟩⟩, ⟨2, _, _, _, _, rfl, rfl, .inl ⟨ag_45, rfl⟩⟩, trivial⟩ rfl rfl (by exact ⟨zst, 0, ex, none, 0, none, 0, none, 0, ⟨fun h => absurd h hex, fun _ => hno⟩, by omega, zstLen, by simp [zst], by omega, by simp [zst], by omega, by simp [zst, zgr], by omega, rfl, rfl, rfl⟩) (((h.know (q := Pers.row kPage none []) (fun _ _ _ => .inl rfl)).know (q := Pers.row kRow none []) (fun _ _ _ => .inl rfl)).know (q := Pers.row kI none []) (fun _ _ _ => .inl rfl))) h) (GL.ret ?_)
 rintro _ _ _ ⟨g15, t15, hs15, ht15, hl15, ⟨A15, cp15, B15, cq15, C15, cr15, j15, k15, l15, m15, n15, o15, rfl, rfl⟩, rfl⟩
 refine GL.step rfl (t_storeN (i := 3) rfl rfl rfl sz_39 rfl rfl rfl) ?_; refine GL.nl_ ?_; refine GC.seq' ?_; refine GC.regionC (m := 9) (is := [0]) (js := [0, 1, 2, 3]) wide_ rfl rfl rfl ?_; refine GA.take 1 rfl (by kernel_rfl) (by kernel_rfl) (by kernel_rfl) rfl (fun a w h => h.mem (is := [0]) (js := [0, 1, 2, 3]) rfl rfl) (i_pure (p_move rfl)) ?_
 refine GA.take 2 rfl (by kernel_rfl) (by kernel_rfl) (by kernel_rfl) rfl (fun a w h => h.mem (is := [0]) (js := [0, 1, 2, 3]) rfl rfl) (i_pure (p_nilCheck rfl)) ?_; refine GA.take 3 rfl (by kernel_rfl) (by kernel_rfl) (by kernel_rfl) rfl (fun a w h => h.mem (is := [0]) (js := [0, 1, 2, 3]) rfl rfl) (i_pure (p_fieldAddr fo_205_0 rfl)) ?_
 refine GA.take 4 rfl (by kernel_rfl) (by kernel_rfl) (by kernel_rfl) rfl (fun a w h => h.mem (is := [0]) (js := [0, 1, 2, 3]) rfl rfl) (i_pure (p_fieldAddr fo_203_1 rfl)) ?_; refine GA.take 5 rfl (by kernel_rfl) (by kernel_rfl) (by kernel_rfl) rfl (fun a w h => h.mem (is := [0]) (js := [0, 1, 2, 3]) rfl rfl) (i_mem (m_load (i := 0) rfl rfl ag_3 rfl)) ?_
 refine GA.all (rs := [0]) (by kernel_rfl) (by simp) ?_
 refine GAs.cons (i := 0) rfl rfl (t_mem rfl (m_loadN (i := 3) rfl rfl ag_39 (vs := [_, _, _, _, _, _, _]) sz_39 ⟨rfl, rfl, rfl, rfl, rfl, rfl, rfl, trivial⟩)) (by rintro a w h; exact h.mem (is := [0]) (js := [0, 1, 2, 3]) rfl rfl) ?_ ?_
 ·refine GA.all (rs := [6]) (by kernel_rfl) (by simp) ?_
  refine GAs.cons (i := 6) rfl rfl (t_storeN (i := 3) rfl rfl rfl sz_39 rfl rfl rfl) (by rintro a w h; exact h.mem (is := [0]) (js := [0, 1, 2, 3]) rfl rfl) ?_ ?_
  ·refine GA.all (rs := [7]) (by kernel_rfl) (by simp) ?_
   refine GAs.cons (i := 7) rfl rfl (t_store (i := 2) rfl rfl rfl rfl sz_3 rfl rfl rfl) (by rintro a w h; exact h.mem (is := [0]) (js := [0, 1, 2, 3]) rfl rfl) ?_ ?_
   ·refine GA.all (rs := [8]) (by kernel_rfl) (by simp) ?_
    refine GAs.cons (i := 8) rfl rfl (t_store (i := 1) rfl rfl rfl rfl sz_45 rfl rfl rfl) (by rintro a w h; exact h.mem (is := [0]) (js := [0, 1, 2, 3]) rfl rfl) ?_ ?_
    ·refine GA.done (by kernel_rfl) (?_ : GC _ _ _ _)
     refine GC.ret ?_
     refine fun a w h => FinD.back1 fn_170 (idleS _ _ _) (rs := [.cell 4 39, .cell 5 3, .cell 6 45]) (vs := [_, _, _]) (is := []) (js := [0, 1, 2]) rfl ⟨⟨3, _, _, _, _, rfl, rfl, .inr ⟨[_, _, _, _, _, _, _], rfl, ag_39, sz_39, ⟨rfl, rfl, rfl, rfl, rfl, rfl, rfl, trivial⟩⟩⟩, ⟨2, _, _, _, _, rfl, rfl, .inl ⟨ag_3, rfl⟩⟩, ⟨1, _, _, _, _, rfl, rfl, .inl ⟨ag_45, rfl⟩⟩, trivial⟩ rfl rfl ?_ h
     clear h
     exact ⟨_, _, 0, _, _, _, _, _, _, ⟨fun _ => hs15, fun h => absurd rfl h⟩, ht15, hl15, j15, k15, l15, m15, n15, o15, rfl, rfl, rfl⟩
    exact GAs.nil
   exact GAs.nil
  exact GAs.nil
 exact GAs.nil
theorem decstt_ct (A : Option Addr) (b : List UInt8) (cp : Nat) (hb : b.length ≤ cp) (hcp' : cp ≤ 9223372036854775807) (hb' : b.length ≤ 10000000000000) : Ct Tryz.prog 132 [.slice A b.length cp] [] [Pers.row Kd.u8 A b] (DecT b) := by
 refine Ct.intro Tryz.func132 rfl rfl rfl (fun c hc => ?_)
 refine GC.sr_ ?_; refine GL.step rfl (t_alloc rfl ze_39) (GL.ex fun b_t2 => ?_)
 iterate 2 refine GL.as_ rfl rfl ?_
 refine GL.nl_ ?_; refine GC.sr_ ?_; refine GL.mv_ rfl rfl ?_; refine GL.step rfl (t_call rfl fn_154 rfl (is := []) (js := [0]) rfl rfl (by exact readS_ct _ b _ hb hcp' hb')) (GL.ret ?_)
 rintro _ _ _ ⟨g6, t6, f6, A6, cp6, B6, cq6, C6, cr6, hs6, ht6, hl6, j6, k6, l6, m6, n6, o6, rfl, rfl, rfl⟩
 iterate 3 refine GL.pure rfl (p_extract rfl rfl) ?_
 refine GL.step rfl (t_storeN (i := 0) rfl rfl rfl sz_39 rfl rfl rfl) ?_
 iterate 2 refine GL.as_ rfl rfl ?_
 refine GL.nl_ ?_; refine GC.ret ?_
 refine fun a w h => Fin.back (rs := [.cell 2 39, .tmp 3, .tmp 4]) (vs := [_, _, _]) (is := []) (js := [0, 1, 2]) rfl ⟨⟨0, _, _, _, _, rfl, rfl, .inr ⟨[_, _, _, _, _, _, _], rfl, ag_39, sz_39, ⟨rfl, rfl, rfl, rfl, rfl, rfl, rfl, trivial⟩⟩⟩, rfl, rfl, trivial⟩ rfl rfl ?_ h
 clear h
 exact ⟨_, _, _, _, _, _, _, _, _, hs6, ht6, hl6, j6, k6, l6, m6, n6, o6, rfl, rfl, rfl⟩
end Go.Proofs.YtdhdmbmknpjhbaaGreat
namespace Go.Proofs.YtdhdmbmknpjhbaaGreat
open Go Go.Sx Go.Proofs
abbrev wFt : Value := .iface 90 (.agg #[])
theorem wtake_ct (p e_ : Nat) (A : Option Addr) (b : List UInt8) (cp n : Nat) (e : Int) (hn : e = 0 → n ≤ b.length) (hcp : b.length ≤ cp) (hcp' : cp ≤ 9223372036854775807) : CtP Tryz.prog 97 [.pointer (some ⟨p, 0, none⟩), .int .i64 (n : Int), .int .i64 e] (leftG p e_ A b cp) [Pers.row Kd.u8 A b]
    (fun u G Q => e = 0 ∧ ∃ A' c', (b.drop n).length ≤ c' ∧ c' ≤ 9223372036854775807 ∧ u = .tuple #[] ∧ G = leftG p e_ A' (b.drop n) c' ∧ Q = [Pers.row Kd.u8 A' (b.drop n)]) (fun v => e ≠ 0 ∧ v = wFt) := by
 refine CtP.intro Tryz.func97 rfl rfl rfl (fun c hc => ?_)
 refine GC.seq' ?_; refine GC.sr_ ?_; refine GL.mv_ rfl rfl ?_; refine GL.pure rfl (p_neq rfl rfl) ?_; refine GL.nl_ ?_; refine GC.cond rfl (fun h1 => ?_) (fun h1 => ?_)
 ·try simp only [tst_] at h1
  refine GC.region ?_; refine GL.pure rfl (p_build ze_90 of_90 rfl rfl) ?_; refine GL.pure rfl (p_mkIface Tryz.underlying90 (fun m h => by cases h) rfl) ?_; refine GL.panicN rfl (fun a w h => ?_)
  exact FinP.panic ⟨by assumption, rfl⟩ h
 ·try simp only [tst_] at h1
  refine GC.skip (?_ : GC _ _ _ _)
  refine GC.region ?_
  have hn_ := hn (by omega)
  iterate 2 refine GL.mv_ rfl rfl ?_
  refine GL.pure rfl (p_nilCheck rfl) ?_; refine GL.pure rfl (p_fieldAddr fo_94_0 rfl) ?_; refine GL.step rfl (t_mem rfl (m_load (i := 0) rfl rfl ag_25 rfl)) ?_; refine GL.mv_ rfl rfl ?_; refine GL.step rfl (t_cut_l (j := 0) rfl rfl rfl rfl Tryz.underlying25 sz_5 (by omega) (by omega) (by omega)) ?_
  rw [show ((n : Int)).toNat = n from rfl, seg_drop]
  refine GL.pure rfl (p_nilCheck rfl) ?_; refine GL.pure rfl (p_fieldAddr fo_94_0 rfl) ?_; refine GL.step rfl (t_store (i := 0) rfl rfl rfl rfl sz_25 rfl rfl rfl) ?_; refine GL.nil ?_
  refine fun a w h => FinP.back0 rfl (is := [0]) (js := [0]) rfl rfl ?_ h
  clear h
  exact ⟨by omega, _, _, by rw [List.length_drop]; omega, by omega, rfl, rfl, rfl⟩
def wnumF (n : Nat) (L : List UInt8) : Option (Int × List UInt8) := if n ≤ L.length then some (((valN (seg L 0 n) : Nat) : Int), L.drop n) else none
theorem wnumF_rng {n : Nat} {L : List UInt8} {v : Int} {M : List UInt8} (h : wnumF n L = some (v, M)) : 0 ≤ v ∧ v < (256 ^ n : Nat) ∧ M.length + n = L.length := by
  unfold wnumF at h
  split at h
  · rename_i hq
    obtain ⟨h1, h2⟩ := Prod.mk.inj (Option.some.inj h)
    have hv : valN (seg L 0 n) < 256 ^ n := valN_rng hq (by omega)
    subst h2
    rw [List.length_drop]
    omega
  · cases h
theorem wnum_ct (p e_ : Nat) (A : Option Addr) (b : List UInt8) (cp n : Nat) (hn : 1 ≤ n) (hn' : n ≤ 8) (hcp : b.length ≤ cp) (hcp' : cp ≤ 9223372036854775807) (hb : b.length ≤ 10000000000000) : CtP Tryz.prog 93 [.pointer (some ⟨p, 0, none⟩), .int .i64 (n : Int)] (leftG p e_ A b cp) [Pers.row Kd.u8 A b]
    (fun u G Q => ∃ v L' A' c', wnumF n b = some (v, L') ∧ L'.length ≤ c' ∧ c' ≤ 9223372036854775807 ∧ u = .int .u64 v ∧ G = leftG p e_ A' L' c' ∧ Q = [Pers.row Kd.u8 A' L']) (fun v => v = wFt ∧ wnumF n b = none) := by
 refine CtP.intro Tryz.func93 rfl rfl rfl (fun c hc => ?_)
 refine GC.sr_ ?_; refine GL.as_ rfl rfl ?_; refine GL.nl_ ?_; refine GC.sr_ ?_; refine GL.mv_ rfl rfl ?_; refine GL.pure rfl (p_nilCheck rfl) ?_; refine GL.pure rfl (p_fieldAddr fo_94_0 rfl) ?_; refine GL.step rfl (t_mem rfl (m_load (i := 0) rfl rfl ag_25 rfl)) ?_
 refine GL.mv_ rfl rfl ?_; refine GL.step rfl (t_call rfl fn_91 rfl (is := []) (js := [0]) rfl rfl (by exact get_all _ b _ 0 n hn hn' hcp (by omega) (by omega))) (GL.ret ?_)
 rintro _ _ _ ⟨rfl, rfl, rfl⟩
 refine GL.mv_ rfl rfl ?_
 iterate 3 refine GL.pure rfl (p_extract rfl rfl) ?_
 iterate 3 refine GL.as_ rfl rfl ?_
 refine GL.nl_ ?_; refine GC.sr_ ?_
 iterate 3 refine GL.mv_ rfl rfl ?_
 refine GL.callP rfl fn_97 rfl (is := [0]) (js := [0]) rfl rfl (by exact wtake_ct _ _ _ b _ n _ (fun h => by have := getE_zero h; omega) hcp hcp') (fun v a w he h => by exact FinP.panic ⟨he.2, by rw [wnumF, if_neg (fun hq => he.1 (if_pos (by omega)))]⟩ h) (GL.ret ?_)
 rintro _ _ _ ⟨he21, A21, c21, l21, k21, rfl, rfl, rfl⟩
 refine GL.nl_ ?_; refine GC.sr_ ?_; refine GL.mv_ rfl rfl ?_; refine GL.as_ rfl rfl ?_; refine GL.nl_ ?_; refine GC.ret ?_
 refine fun a w h => FinP.back (rs := [.tmp 4]) (vs := [_]) (is := [0]) (js := [0]) rfl ⟨rfl, trivial⟩ rfl rfl ?_ h
 clear h
 have hq := getE_zero he21
 exact ⟨_, _, _, _, by rw [wnumF, if_pos (by omega)], l21, k21, by show Value.int _ ((getV b 0 n : Nat) : Int) = _; rw [getV, if_pos hq, Nat.zero_add], rfl, rfl⟩
def wsmF (L : List UInt8) : Option (Int × List UInt8) := (wnumF 8 L).bind fun r => if r.1 ≤ 4611686018427387904 then some r else none
theorem wsmF_rng {L : List UInt8} {v : Int} {M : List UInt8} (h : wsmF L = some (v, M)) : 0 ≤ v ∧ v ≤ 4611686018427387904 ∧ M.length + 8 = L.length := by
  unfold wsmF at h
  cases hn : wnumF 8 L with
  | none => rw [hn] at h; cases h
  | some r =>
    rw [hn, Option.bind_some] at h
    split at h
    · obtain rfl := Option.some.inj h
      have := wnumF_rng hn
      omega
    · cases h
theorem wsm_ct (p e_ : Nat) (A : Option Addr) (b : List UInt8) (cp : Nat) (hcp : b.length ≤ cp) (hcp' : cp ≤ 9223372036854775807) (hb : b.length ≤ 10000000000000) : CtP Tryz.prog 94 [.pointer (some ⟨p, 0, none⟩)] (leftG p e_ A b cp) [Pers.row Kd.u8 A b]
    (fun u G Q => ∃ v L' A' c', wsmF b = some (v, L') ∧ L'.length ≤ c' ∧ c' ≤ 9223372036854775807 ∧ u = .int .i64 v ∧ G = leftG p e_ A' L' c' ∧ Q = [Pers.row Kd.u8 A' L']) (fun v => v = wFt ∧ wsmF b = none) := by
 refine CtP.intro Tryz.func94 rfl rfl rfl (fun c hc => ?_)
 refine GC.sr_ ?_; refine GL.as_ rfl rfl ?_; refine GL.nl_ ?_; refine GC.sr_ ?_; refine GL.mv_ rfl rfl ?_; refine GL.callP rfl fn_93 rfl (is := [0]) (js := [0]) rfl rfl (by exact (wnum_ct _ _ _ b _ 8 (by omega) (by omega) hcp hcp' hb).mono (fun _ _ _ h => h) (fun _ h => ⟨h.1, by rw [wsmF, h.2]; rfl⟩)) (fun v a w he h => FinP.panic he h) (GL.ret ?_)
 rintro _ _ _ ⟨v5, L5, A5, c5, hs5, l5, k5, rfl, rfl, rfl⟩
 obtain ⟨hv5, hw5, hx5⟩ := wnumF_rng hs5
 refine GL.as_ rfl rfl ?_; refine GL.nl_ ?_; refine GC.seq' ?_; refine GC.sr_ ?_; refine GL.mv_ rfl rfl ?_; refine GL.pure rfl (p_gtr rfl rfl) ?_; refine GL.nl_ ?_; refine GC.cond rfl (fun h1 => ?_) (fun h1 => ?_)
 ·try simp only [tst_] at h1
  refine GC.region ?_; refine GL.pure rfl (p_build ze_90 of_90 rfl rfl) ?_; refine GL.pure rfl (p_mkIface Tryz.underlying90 (fun m h => by cases h) rfl) ?_; refine GL.panicN rfl (fun a w h => ?_)
  exact FinP.panic ⟨rfl, by rw [wsmF, hs5, Option.bind_some]; exact if_neg (by omega)⟩ h
 ·try simp only [tst_] at h1
  refine GC.skip (?_ : GC _ _ _ _)
  refine GC.sr_ ?_; refine GL.mv_ rfl rfl ?_; refine GL.pure rfl (p_convR (t := 23) (r := v5) (by rw [Tryz.underlying23]; simp) Tryz.underlying3 rfl (cvI (by omega) (by omega))) ?_
  refine GL.as_ rfl rfl ?_; refine GL.nl_ ?_; refine GC.ret ?_
  refine fun a w h => FinP.back (rs := [.tmp 2]) (vs := [_]) (is := [0]) (js := [0]) rfl ⟨rfl, trivial⟩ rfl rfl ?_ h
  clear h
  exact ⟨_, _, _, _, by rw [wsmF, hs5, Option.bind_some]; exact if_pos (by omega), l5, k5, rfl, rfl, rfl⟩
def wgrpF (L : List UInt8) : Option (Grp × List UInt8) :=
  (wsmF L).bind fun e => (wnumF 1 e.2).bind fun c => (manyF (wnumF 1) c.2 c.1.toNat).map fun r => (⟨e.1, r.1⟩, r.2)
theorem wgrp_ct (p e_ : Nat) (A : Option Addr) (b : List UInt8) (cp : Nat) (hcp : b.length ≤ cp) (hcp' : cp ≤ 9223372036854775807) (hb : b.length ≤ 10000000000000) : CtP Tryz.prog 131 [.pointer (some ⟨p, 0, none⟩)] (leftG p e_ A b cp) [Pers.row Kd.u8 A b]
    (fun u G Q => ∃ (g : Grp) (L' : List UInt8) (A' : Option Addr) (c' : Nat) (B' : Option Addr) (d' : Nat), wgrpF b = some (g, L') ∧ (L'.length ≤ b.length ∧ g.members.length ≤ 255) ∧ L'.length ≤ c' ∧ c' ≤ 9223372036854775807 ∧ g.members.length ≤ d' ∧ d' ≤ 9223372036854775807 ∧ u = .agg #[.int .i64 g.epoch, .slice B' g.members.length d'] ∧ G = leftG p e_ A' L' c' ∧ Q = [Pers.row kI B' g.members, Pers.row Kd.u8 A' L']) (fun v => v = wFt ∧ wgrpF b = none) := by
 have hp1 : (256 : Nat) ^ 1 = 256 := p256_1
 refine CtP.intro Tryz.func131 rfl rfl rfl (fun c hc => ?_)
 refine GC.sr_ ?_; refine GL.step rfl (t_alloc rfl ze_33) (GL.ex fun b_t2 => ?_); refine GL.nl_ ?_; refine GC.sr_ ?_; refine GL.mv_ rfl rfl ?_; refine GL.pure rfl (p_nilCheck rfl) ?_; refine GL.pure rfl (p_fieldAddr fo_96_0 rfl) ?_
 refine GL.callP rfl fn_94 rfl (is := [1]) (js := [0]) rfl rfl (by exact (wsm_ct _ _ _ b _ hcp hcp' hb).mono (fun _ _ _ h => h) (fun _ h => ⟨h.1, by rw [wgrpF, h.2]; rfl⟩)) (fun v a w he h => FinP.panic he h) (GL.ret ?_)
 rintro _ _ _ ⟨v7, L7, A7, c7, hs7, l7, k7, rfl, rfl, rfl⟩
 obtain ⟨hv7, hw7, hx7⟩ := wsmF_rng hs7
 refine GL.pure rfl (p_build ze_33 of_33 rfl rfl) ?_; refine GL.step rfl (t_alloc rfl ze_33) (GL.ex fun b_t3 => ?_); refine GL.step rfl (t_storeN (i := 0) rfl rfl rfl sz_33 rfl rfl rfl) ?_; refine GL.nl_ ?_; refine GC.seq' ?_
 refine GC.sr_ ?_; refine GL.mv_ rfl rfl ?_; refine GL.pure rfl (p_nilCheck rfl) ?_; refine GL.pure rfl (p_fieldAddr fo_96_0 rfl) ?_; refine GL.callP rfl fn_93 rfl (is := [1]) (js := [0]) rfl rfl (by exact (wnum_ct _ _ _ L7 _ 1 (by omega) (by omega) l7 k7 (by omega)).mono (fun _ _ _ h => h) (fun _ h => ⟨h.1, by simp only [wgrpF, hs7, Option.bind_some, h.2, Option.bind_none]⟩)) (fun v a w he h => FinP.panic he h) (GL.ret ?_)
 rintro _ _ _ ⟨v12, L12, A12, c12, hs12, l12, k12, rfl, rfl, rfl⟩
 obtain ⟨hv12, hw12, hx12⟩ := wnumF_rng hs12
 refine GL.nilrow 3 1 ?_; refine GL.pure rfl (p_convR (t := 23) (r := v12) (by rw [Tryz.underlying23]; simp) Tryz.underlying3 rfl (cvI (by omega) (by omega))) ?_
 refine GL.mv_ rfl rfl ?_; refine GL.nl_ ?_; refine GC.block ?_; refine GC.loopK6 (ks := [0, 2, 3, 13]) (is := [3]) (js := [0, 1, 2]) (fun (k : Nat) (xs : List Int) (U : Value) (L : List UInt8) (Al : Option Addr) (cl : Nat) => (xs.length = k ∧ L.length ≤ b.length ∧ L.length ≤ cl ∧ cl ≤ 9223372036854775807) ∧ (k : Int) ≤ v12 ∧ manyF (wnumF 1) L12 k = some (xs, L)) (fun (k : Nat) (xs : List Int) (U : Value) (L : List UInt8) (Al : Option Addr) (cl : Nat) => [(14, .int .i64 (k : Int))]) (fun (k : Nat) (xs : List Int) (U : Value) (L : List UInt8) (Al : Option Addr) (cl : Nat) => [.cells p [.slice Al L.length cl] e_, .cells b_t3 [.int .i64 v7, U] 33, .row U 3 1 xs.length (xs.map (Value.int .i64))]) (fun (k : Nat) (xs : List Int) (U : Value) (L : List UInt8) (Al : Option Addr) (cl : Nat) => [Pers.row Kd.u8 Al L]) (fun (k : Nat) (xs : List Int) (U : Value) (L : List UInt8) (Al : Option Addr) (cl : Nat) => v12.toNat - k) (0) ([]) (_) (L12) (_) (_) rfl rfl rfl (fun a w h => ⟨⟨⟨rfl, by omega, l12, k12⟩, by omega, rfl⟩, h.cutK (is := [1, 1, 0, 0]) (js := [0, 0, 1, 2]) (ks := [0, 2, 3, 13]) ⟨rfl, trivial⟩ rfl rfl rfl⟩) ?_
 intro k xs U L Al cl hk
 try dsimp only [List.cons_append, List.nil_append] at hk ⊢
 refine GC.sr_ ?_; refine GL.pure rfl (p_lss rfl rfl) ?_; refine GL.nl_ ?_; refine GC.seq' ?_; refine GC.cond rfl (fun h1 => ?_) (fun h1 => ?_)
 ·try simp only [tst_] at h1
  refine GC.skip (?_ : GC _ _ _ _)
  refine GC.seq' ?_; refine GC.block ?_; refine GC.regionX (m := 11) (is := [3]) (js := [0, 1, 2, 3]) wide_ rfl rfl rfl (fun _ _ _ hd hp hD => ⟨hd.trans hD, .inr hp⟩) ?_
  refine GX.take 0 rfl (by kernel_rfl) (by kernel_rfl) (by kernel_rfl) rfl (fun a w h => h.mem (is := [3]) (js := [0, 1, 2, 3]) rfl rfl) (i_pure (p_fieldAddr fo_33_1 rfl)) ?_
  refine GX.take 2 rfl (by kernel_rfl) (by kernel_rfl) (by kernel_rfl) rfl (fun a w h => h.mem (is := [3]) (js := [0, 1, 2, 3]) rfl rfl) (i_pure (p_move rfl)) ?_
  refine GX.take 3 rfl (by kernel_rfl) (by kernel_rfl) (by kernel_rfl) rfl (fun a w h => h.mem (is := [3]) (js := [0, 1, 2, 3]) rfl rfl) (i_pure (p_nilCheck rfl)) ?_
  refine GX.take 4 rfl (by kernel_rfl) (by kernel_rfl) (by kernel_rfl) rfl (fun a w h => h.mem (is := [3]) (js := [0, 1, 2, 3]) rfl rfl) (i_pure (p_fieldAddr fo_96_0 rfl)) ?_
  refine GX.all (rs := [1, 5]) (by kernel_rfl) (by simp) ?_
  refine GXs.cons (i := 1) rfl rfl (t_mem rfl (m_load (i := 1) rfl rfl ag_31 rfl)) (by rintro a w h; exact h.mem (is := [3]) (js := [0, 1, 2, 3]) rfl rfl) ?_ ?_
  ·refine GX.all (rs := [5]) (by kernel_rfl) (by simp) ?_
   refine GXs.consP (i := 5) rfl rfl fn_93 rfl (is := [0]) (js := [0]) rfl rfl (by exact (wnum_ct _ _ _ L _ 1 (by omega) (by omega) hk.1.2.2.1 hk.1.2.2.2 (by omega)).mono (fun _ _ _ h => h) (fun _ h => ⟨h.1, by simp only [wgrpF, hs7, hs12, Option.bind_some]; rw [manyF_fail hk.2.2 h.2 (by omega)]; rfl⟩)) (by rintro a w ⟨_, _, _, ⟨v21, L21, A21, c21, hs21, l21, k21, rfl, rfl, rfl⟩, h⟩; exact h.mem (is := [3]) (js := [1, 2, 3, 4]) rfl rfl) (GX.ret ?_) ?_
   ·rintro _ _ _ ⟨v21, L21, A21, c21, hs21, l21, k21, rfl, rfl, rfl⟩
    obtain ⟨hv21, hw21, hx21⟩ := wnumF_rng hs21
    refine GX.take 6 rfl (by kernel_rfl) (by kernel_rfl) (by kernel_rfl) rfl (fun a w h => h.mem (is := [3]) (js := [1, 2, 3, 4]) rfl rfl) (i_pure (p_convR (t := 23) (r := v21) (by rw [Tryz.underlying23]; simp) Tryz.underlying3 rfl (cvI (by omega) (by omega)))) ?_
    refine GX.all (rs := [7]) (by kernel_rfl) (by simp) ?_
    refine GXs.cons (i := 7) rfl rfl (t_buildSlice rfl Tryz.underlying31 sz_3 ze_3 rfl rfl rfl rfl rfl rfl) (by rintro a w ⟨_, h⟩; exact h.mem (is := [4]) (js := [1, 2, 3, 4]) rfl rfl) (GX.ex fun b_t23 => ?_) ?_
    ·refine GX.all (rs := [8]) (by kernel_rfl) (by simp) ?_
     refine GXs.cons (i := 8) rfl rfl (t_append (i := 3) (k := 0) rfl el_31 rfl rfl rfl rfl rfl (allOne_mem rfl) (by have := hk.1.1; omega) (fun _ => rfl)) (by rintro a w ⟨_, h⟩; exact h.mem (is := [4]) (js := [1, 2, 3, 4]) rfl rfl) (GX.ex fun v24 => ?_) ?_
     ·refine GX.shape (i := 3) rfl (fun A_v24 c_v24 e_v24 l_v24 k_v24 => ?_)
      subst e_v24
      refine GX.take 9 rfl (by kernel_rfl) (by kernel_rfl) (by kernel_rfl) rfl (fun a w h => h.mem (is := [4]) (js := [1, 2, 3, 4]) rfl rfl) (i_pure (p_fieldAddr fo_33_1 rfl)) ?_
      refine GX.all (rs := [10]) (by kernel_rfl) (by simp) ?_
      refine GXs.cons (i := 10) rfl rfl (t_store (i := 2) rfl rfl rfl rfl sz_31 rfl rfl rfl) (by rintro a w h; exact h.mem (is := [4]) (js := [1, 2, 3, 4]) rfl rfl) ?_ ?_
      ·refine GX.done (by kernel_rfl) (?_ : GC _ _ _ _)
       refine GC.region ?_; refine GL.rowIs (i := 3) (m' := ((xs ++ [v21])).length) (cs' := ((xs ++ [v21])).map (Value.int .i64)) rfl (by first | rfl | (simp; done) | (simp; omega)) (by first | rfl | (simp; done)) rfl ?_
       refine GL.pure rfl (p_add rfl rfl (w64 (by omega) (by omega))) ?_; refine GL.mv_ rfl rfl ?_; refine GL.nil ?_
       exact fun a w h => ⟨(k + 1), (xs ++ [v21]), (_), (_), (_), (_), (by omega), ⟨⟨by simp; omega, by omega, l21, k21⟩, by omega, manyF_next hk.2.2 hs21⟩, h.cut (is := [1, 1, 1, 1]) (js := [0, 2, 3, 4]) ⟨rfl, rfl, rfl, rfl, rfl, trivial⟩ rfl rfl⟩
      exact GXs.nil
     exact GXs.nil
    exact GXs.nil
   exact GXs.nil
  refine GXs.consP (i := 5) rfl rfl fn_93 rfl (is := [0]) (js := [0]) rfl rfl (by exact (wnum_ct _ _ _ L _ 1 (by omega) (by omega) hk.1.2.2.1 hk.1.2.2.2 (by omega)).mono (fun _ _ _ h => h) (fun _ h => ⟨h.1, by simp only [wgrpF, hs7, hs12, Option.bind_some]; rw [manyF_fail hk.2.2 h.2 (by omega)]; rfl⟩)) (by rintro a w ⟨_, _, _, ⟨v21, L21, A21, c21, hs21, l21, k21, rfl, rfl, rfl⟩, h⟩; exact h.mem (is := [3]) (js := [1, 2, 3, 4]) rfl rfl) (GX.ret ?_) ?_
  ·rintro _ _ _ ⟨v21, L21, A21, c21, hs21, l21, k21, rfl, rfl, rfl⟩
   obtain ⟨hv21, hw21, hx21⟩ := wnumF_rng hs21
   refine GX.take 6 rfl (by kernel_rfl) (by kernel_rfl) (by kernel_rfl) rfl (fun a w h => h.mem (is := [3]) (js := [1, 2, 3, 4]) rfl rfl) (i_pure (p_convR (t := 23) (r := v21) (by rw [Tryz.underlying23]; simp) Tryz.underlying3 rfl (cvI (by omega) (by omega)))) ?_
   refine GX.all (rs := [1, 7]) (by kernel_rfl) (by simp) ?_
   refine GXs.cons (i := 1) rfl rfl (t_mem rfl (m_load (i := 1) rfl rfl ag_31 rfl)) (by rintro a w h; exact h.mem (is := [3]) (js := [1, 2, 3, 4]) rfl rfl) ?_ ?_
   ·refine GX.all (rs := [7]) (by kernel_rfl) (by simp) ?_
    refine GXs.cons (i := 7) rfl rfl (t_buildSlice rfl Tryz.underlying31 sz_3 ze_3 rfl rfl rfl rfl rfl rfl) (by rintro a w ⟨_, h⟩; exact h.mem (is := [4]) (js := [1, 2, 3, 4]) rfl rfl) (GX.ex fun b_t23 => ?_) ?_
    ·refine GX.all (rs := [8]) (by kernel_rfl) (by simp) ?_
     refine GXs.cons (i := 8) rfl rfl (t_append (i := 3) (k := 0) rfl el_31 rfl rfl rfl rfl rfl (allOne_mem rfl) (by have := hk.1.1; omega) (fun _ => rfl)) (by rintro a w ⟨_, h⟩; exact h.mem (is := [4]) (js := [1, 2, 3, 4]) rfl rfl) (GX.ex fun v24 => ?_) ?_
     ·refine GX.shape (i := 3) rfl (fun A_v24 c_v24 e_v24 l_v24 k_v24 => ?_)
      subst e_v24
      refine GX.take 9 rfl (by kernel_rfl) (by kernel_rfl) (by kernel_rfl) rfl (fun a w h => h.mem (is := [4]) (js := [1, 2, 3, 4]) rfl rfl) (i_pure (p_fieldAddr fo_33_1 rfl)) ?_
      refine GX.all (rs := [10]) (by kernel_rfl) (by simp) ?_
      refine GXs.cons (i := 10) rfl rfl (t_store (i := 2) rfl rfl rfl rfl sz_31 rfl rfl rfl) (by rintro a w h; exact h.mem (is := [4]) (js := [1, 2, 3, 4]) rfl rfl) ?_ ?_
      ·refine GX.done (by kernel_rfl) (?_ : GC _ _ _ _)
       refine GC.region ?_; refine GL.rowIs (i := 3) (m' := ((xs ++ [v21])).length) (cs' := ((xs ++ [v21])).map (Value.int .i64)) rfl (by first | rfl | (simp; done) | (simp; omega)) (by first | rfl | (simp; done)) rfl ?_
       refine GL.pure rfl (p_add rfl rfl (w64 (by omega) (by omega))) ?_; refine GL.mv_ rfl rfl ?_; refine GL.nil ?_
       exact fun a w h => ⟨(k + 1), (xs ++ [v21]), (_), (_), (_), (_), (by omega), ⟨⟨by simp; omega, by omega, l21, k21⟩, by omega, manyF_next hk.2.2 hs21⟩, h.cut (is := [1, 1, 1, 1]) (js := [0, 2, 3, 4]) ⟨rfl, rfl, rfl, rfl, rfl, trivial⟩ rfl rfl⟩
      exact GXs.nil
     exact GXs.nil
    exact GXs.nil
   refine GXs.cons (i := 7) rfl rfl (t_buildSlice rfl Tryz.underlying31 sz_3 ze_3 rfl rfl rfl rfl rfl rfl) (by rintro a w ⟨_, h⟩; exact h.mem (is := [4]) (js := [1, 2, 3, 4]) rfl rfl) (GX.ex fun b_t23 => ?_) ?_
   ·refine GX.all (rs := [1]) (by kernel_rfl) (by simp) ?_
    refine GXs.cons (i := 1) rfl rfl (t_mem rfl (m_load (i := 2) rfl rfl ag_31 rfl)) (by rintro a w h; exact h.mem (is := [4]) (js := [1, 2, 3, 4]) rfl rfl) ?_ ?_
    ·refine GX.all (rs := [8]) (by kernel_rfl) (by simp) ?_
     refine GXs.cons (i := 8) rfl rfl (t_append (i := 3) (k := 0) rfl el_31 rfl rfl rfl rfl rfl (allOne_mem rfl) (by have := hk.1.1; omega) (fun _ => rfl)) (by rintro a w ⟨_, h⟩; exact h.mem (is := [4]) (js := [1, 2, 3, 4]) rfl rfl) (GX.ex fun v24 => ?_) ?_
     ·refine GX.shape (i := 3) rfl (fun A_v24 c_v24 e_v24 l_v24 k_v24 => ?_)
      subst e_v24
      refine GX.take 9 rfl (by kernel_rfl) (by kernel_rfl) (by kernel_rfl) rfl (fun a w h => h.mem (is := [4]) (js := [1, 2, 3, 4]) rfl rfl) (i_pure (p_fieldAddr fo_33_1 rfl)) ?_
      refine GX.all (rs := [10]) (by kernel_rfl) (by simp) ?_
      refine GXs.cons (i := 10) rfl rfl (t_store (i := 2) rfl rfl rfl rfl sz_31 rfl rfl rfl) (by rintro a w h; exact h.mem (is := [4]) (js := [1, 2, 3, 4]) rfl rfl) ?_ ?_
      ·refine GX.done (by kernel_rfl) (?_ : GC _ _ _ _)
       refine GC.region ?_; refine GL.rowIs (i := 3) (m' := ((xs ++ [v21])).length) (cs' := ((xs ++ [v21])).map (Value.int .i64)) rfl (by first | rfl | (simp; done) | (simp; omega)) (by first | rfl | (simp; done)) rfl ?_
       refine GL.pure rfl (p_add rfl rfl (w64 (by omega) (by omega))) ?_; refine GL.mv_ rfl rfl ?_; refine GL.nil ?_
       exact fun a w h => ⟨(k + 1), (xs ++ [v21]), (_), (_), (_), (_), (by omega), ⟨⟨by simp; omega, by omega, l21, k21⟩, by omega, manyF_next hk.2.2 hs21⟩, h.cut (is := [1, 1, 1, 1]) (js := [0, 2, 3, 4]) ⟨rfl, rfl, rfl, rfl, rfl, trivial⟩ rfl rfl⟩
      exact GXs.nil
     exact GXs.nil
    exact GXs.nil
   exact GXs.nil
  exact GXs.nil
 ·try simp only [tst_] at h1
  refine GC.exit (?_ : GC _ _ _ _)
  refine GC.sr_ ?_; refine GL.shape (i := 2) rfl (fun A_M c_M e_M l_M k_M => ?_)
  subst e_M
  refine GL.freezeI (i := 2) rfl ?_; refine GL.step rfl (t_mem rfl (m_loadN (i := 1) rfl rfl ag_33 (vs := [_, _]) sz_33 ⟨rfl, rfl, trivial⟩)) ?_; refine GL.step rfl (t_storeN (i := 2) rfl rfl rfl sz_33 rfl rfl rfl) ?_; refine GL.nl_ ?_
  refine GC.ret ?_
  refine fun a w h => FinP.back (rs := [.cell 2 33]) (vs := [_]) (is := [0]) (js := [0, 1]) rfl ⟨⟨2, _, _, _, _, rfl, rfl, .inr ⟨[_, _], rfl, ag_33, sz_33, ⟨rfl, rfl, trivial⟩⟩⟩, trivial⟩ rfl rfl ?_ h
  clear h
  exact ⟨⟨v7, xs⟩, _, _, _, _, _, by simp only [wgrpF, hs7, hs12, Option.bind_some]; rw [show v12.toNat = k by omega, hk.2.2]; rfl, ⟨hk.1.2.1, by have := hk.1.1; show xs.length ≤ 255; omega⟩, hk.1.2.2.1, hk.1.2.2.2, l_M, k_M, rfl, rfl, rfl⟩
end Go.Proofs.YtdhdmbmknpjhbaaGreat
namespace Go.Proofs.YtdhdmbmknpjhbaaGreat
open Go Go.Sx Go.Proofs
def bitN (n k : Int) : Int := IntKind.u8.wrap ((BitVec.ofInt IntKind.u8.bits n &&& BitVec.ofInt IntKind.u8.bits k).toNat : Int)
def wpO (n : Int) (L : List UInt8) : Option (OpD × List UInt8) := if bitN n 1 = 0 then some (zop, L) else (decOp L).map fun o => (o.1, L.drop o.2)
def wpR (n : Int) (L : List UInt8) : Option (Res × List UInt8) := if bitN n 2 = 0 then some (rz, L) else (decRes L).map fun o => (o.1, L.drop o.2)
def wpG (n : Int) (L : List UInt8) : Option (Grp × List UInt8) := if bitN n 4 = 0 then some (zgr, L) else wgrpF L
def wpS (n : Int) (L : List UInt8) : Option (Stt × List UInt8) := if bitN n 8 = 0 then some (zst, L) else (mstF L 0).map fun o => (o.1, L.drop o.2)
def wprtF (L : List UInt8) : Option ((OpD × Res × Grp × Stt) × List UInt8) :=
  (wnumF 1 L).bind fun n => (wpO n.1 n.2).bind fun o => (wpR n.1 o.2).bind fun r => (wpG n.1 r.2).bind fun g => (wpS n.1 g.2).map fun s => ((o.1, r.1, g.1, s.1), s.2)
theorem drop_len {L : List UInt8} {n : Nat} : (L.drop n).length ≤ L.length := by rw [List.length_drop]; omega
abbrev msgT (o : OpD) (r : Res) (g : Grp) (s : Stt) (x : Lie) : List Value := [.int .u8 o.kind, .int .i64 o.at_, .int .i64 o.n, .slice x.a1 o.data.length x.c1, .slice x.a2 o.old.length x.c2, .int .u8 r.code, .slice x.a3 r.data.length x.c3, .int .i64 g.epoch, .slice x.a4 g.members.length x.c4,
  .int .i64 s.num, .int .i64 s.shp.bl, .int .i64 s.shp.sz, .slice x.a5 s.pages.length x.c5, .slice x.a6 s.rows.length x.c6, .int .i64 s.grp.epoch, .slice x.a7 s.grp.members.length x.c7, .slice none 0 0]
abbrev msgU (o : OpD) (r : Res) (g : Grp) (s : Stt) (x : Lie) : List Pers := [Pers.row Kd.u8 x.a1 o.data, Pers.row Kd.u8 x.a2 o.old, Pers.row Kd.u8 x.a3 r.data, Pers.row kI x.a4 g.members, Pers.row kPage x.a5 s.pages, Pers.row kRow x.a6 s.rows, Pers.row kI x.a7 s.grp.members]
theorem wprt_ct (p e_ q_ f_ : Nat) (y0 y1 y2 y3 y4 y5 y6 y7 y8 y9 y10 : Value) (A : Option Addr) (b : List UInt8) (cp : Nat) (hcp : b.length ≤ cp) (hcp' : cp ≤ 9223372036854775807) (hb : b.length ≤ 10000000000000) : CtP Tryz.prog 95 [.pointer (some ⟨p, 0, none⟩), .pointer (some ⟨q_, 0, none⟩)] (leftG p e_ A b cp ++ [.cells q_ [y0, y1, y2, y3, y4, y5, y6, y7, y8, y9, y10, .int .u8 0, .int .i64 0, .int .i64 0, .slice none 0 0, .slice none 0 0, .int .u8 0, .slice none 0 0, .int .i64 0, .slice none 0 0, .int .i64 0, .int .i64 0, .int .i64 0, .slice none 0 0, .slice none 0 0, .int .i64 0, .slice none 0 0, .slice none 0 0] f_]) [Pers.row Kd.u8 A b]
    (fun u G Q => ∃ (o : OpD) (r : Res) (g : Grp) (s : Stt) (L' : List UInt8) (x : Lie), wprtF b = some ((o, r, g, s), L') ∧ L'.length ≤ b.length ∧ L'.length ≤ x.c8 ∧ x.c8 ≤ 9223372036854775807 ∧ u = .tuple #[] ∧ G = leftG p e_ x.a8 L' x.c8 ++ [.cells q_ ([y0, y1, y2, y3, y4, y5, y6, y7, y8, y9, y10] ++ msgT o r g s x) f_] ∧ Q = msgU o r g s x ++ [Pers.row Kd.u8 x.a8 L']) (fun v => v = wFt ∧ wprtF b = none) := by
 have hp1 : (256 : Nat) ^ 1 = 256 := p256_1
 refine CtP.intro Tryz.func95 rfl rfl rfl (fun c hc => ?_)
 refine GC.sr_ ?_; refine GL.mv_ rfl rfl ?_; refine GL.pure rfl (p_nilCheck rfl) ?_; refine GL.pure rfl (p_fieldAddr fo_96_0 rfl) ?_; refine GL.callP rfl fn_93 rfl (is := [0]) (js := [0]) rfl rfl (by exact (wnum_ct _ _ _ b _ 1 (by omega) (by omega) hcp hcp' hb).mono (fun _ _ _ h => h) (fun _ h => ⟨h.1, by rw [wprtF, h.2]; rfl⟩)) (fun v a w he h => FinP.panic he h) (GL.ret ?_)
 rintro _ _ _ ⟨v17, L17, A17, c17, hs17, l17, k17, rfl, rfl, rfl⟩
 obtain ⟨hv17, hw17, hx17⟩ := wnumF_rng hs17
 refine GL.pure rfl (p_convR (t := 23) (r := v17) (by rw [Tryz.underlying23]; simp) Tryz.underlying5 rfl (by simp [IntKind.wrap, IntKind.bits, IntKind.signed]; omega)) ?_; refine GL.know (q := Pers.row Kd.u8 none []) (fun _ _ _ => .inl rfl) ?_
 refine GL.know (q := Pers.row kI none []) (fun _ _ _ => .inl rfl) ?_; refine GL.know (q := Pers.row kPage none []) (fun _ _ _ => .inl rfl) ?_; refine GL.know (q := Pers.row kRow none []) (fun _ _ _ => .inl rfl) ?_; refine GL.as_ rfl rfl ?_
 refine GL.nl_ ?_; refine GC.joinK3 (ks := [0, 1, 4]) (is := []) (js := [0, 1, 2, 3, 5]) (fun (o : OpD) (L1 : List UInt8) (x : Lie) => wpO v17 L17 = some (o, L1) ∧ L1.length ≤ b.length ∧ L1.length ≤ x.c8 ∧ x.c8 ≤ 9223372036854775807) (fun (o : OpD) (L1 : List UInt8) (x : Lie) => []) (fun (o : OpD) (L1 : List UInt8) (x : Lie) => [.cells p [.slice x.a8 L1.length x.c8] e_, .cells q_ [y0, y1, y2, y3, y4, y5, y6, y7, y8, y9, y10, .int .u8 o.kind, .int .i64 o.at_, .int .i64 o.n, .slice x.a1 o.data.length x.c1, .slice x.a2 o.old.length x.c2, .int .u8 0, .slice none 0 0, .int .i64 0, .slice none 0 0, .int .i64 0, .int .i64 0, .int .i64 0, .slice none 0 0, .slice none 0 0, .int .i64 0, .slice none 0 0, .slice none 0 0] f_]) (fun (o : OpD) (L1 : List UInt8) (x : Lie) => [Pers.row Kd.u8 x.a1 o.data, Pers.row Kd.u8 x.a2 o.old, Pers.row Kd.u8 x.a8 L1]) rfl rfl rfl ?_ ?_
 ·refine GC.sr_ ?_; refine GL.mv_ rfl rfl ?_; refine GL.pure rfl (p_andR (r := bitN v17 1) rfl rfl rfl) ?_; refine GL.pure rfl (p_neq rfl rfl) ?_; refine GL.nl_ ?_; refine GC.cond rfl (fun h1 => ?_) (fun h1 => ?_)
  ·try simp only [tst_] at h1
   refine GC.sr_ ?_; refine GL.mv_ rfl rfl ?_; refine GL.pure rfl (p_nilCheck rfl) ?_; refine GL.pure rfl (p_fieldAddr fo_96_0 rfl) ?_; refine GL.pure rfl (p_fieldAddr fo_94_0 rfl) ?_; refine GL.step rfl (t_mem rfl (m_load (i := 0) rfl rfl ag_25 rfl)) ?_
   refine GL.step rfl (t_call rfl fn_129 rfl (is := []) (js := [4]) rfl rfl (by exact decop_ct _ L17 _ l17 k17 (by omega))) (GL.ret ?_)
   rintro _ _ _ ⟨o28, n28, e28, A28, c28, B28, d28, hs28, hn28, l28, k28, m28, p28, rfl, rfl, rfl⟩
   refine GL.mv_ rfl rfl ?_
   iterate 3 refine GL.pure rfl (p_extract rfl rfl) ?_
   refine GL.step rfl (t_alloc rfl ze_27) (GL.ex fun b_t5 => ?_); refine GL.step rfl (t_storeN (i := 0) rfl rfl rfl sz_27 rfl rfl rfl) ?_
   iterate 2 refine GL.as_ rfl rfl ?_
   refine GL.nl_ ?_; refine GC.sr_ ?_; refine GL.mv_ rfl rfl ?_; refine GL.pure rfl (p_nilCheck rfl) ?_; refine GL.pure rfl (p_fieldAddr fo_96_0 rfl) ?_
   iterate 2 refine GL.mv_ rfl rfl ?_
   refine GL.callP rfl fn_97 rfl (is := [1]) (js := [6]) rfl rfl (by exact (wtake_ct _ _ _ L17 _ n28 e28 (fun _ => hn28.1) l17 k17).mono (fun _ _ _ h => h) (fun _ h => ⟨h.2, by simp only [wprtF, hs17, Option.bind_some]; rw [wpO, if_neg (by assumption), hn28.2 h.1]; rfl⟩)) (fun v a w he h => FinP.panic he h) (GL.ret ?_)
   rintro _ _ _ ⟨he37, A37, c37, l37, k37, rfl, rfl, rfl⟩
   refine GL.nl_ ?_; refine GC.region ?_; refine GL.mv_ rfl rfl ?_; refine GL.step rfl (t_mem rfl (m_loadN (i := 1) rfl rfl ag_27 (vs := [_, _, _, _, _]) sz_27 ⟨rfl, rfl, rfl, rfl, rfl, trivial⟩)) ?_; refine GL.pure rfl (p_nilCheck rfl) ?_
   refine GL.pure rfl (p_fieldAddr fo_42_11 rfl) ?_; refine GL.step rfl (t_storeN (i := 2) rfl rfl rfl sz_27 rfl rfl rfl) ?_; refine GL.nil ?_
   exact fun a w h => ⟨(o28), (L17.drop n28), (⟨A28, c28, B28, d28, none, 0, none, 0, none, 0, none, 0, none, 0, A37, c37⟩), ⟨by rw [wpO, if_neg (by assumption), hs28 he37]; rfl, by have := @drop_len L17 n28; omega, l37, k37⟩, h.cut (is := [0, 1]) (js := [1, 2, 0, 3, 4, 5, 6, 8]) ⟨rfl, rfl, rfl, trivial⟩ rfl rfl⟩
  ·try simp only [tst_] at h1
   refine GC.skip ?_
   exact fun a w h => ⟨(zop), (L17), (⟨none, 0, none, 0, none, 0, none, 0, none, 0, none, 0, none, 0, A17, c17⟩), ⟨by rw [wpO, if_pos (by assumption)], by omega, l17, k17⟩, h.cut (is := [0, 0]) (js := [3, 3, 4, 0, 1, 2, 3, 5]) ⟨rfl, rfl, rfl, trivial⟩ rfl rfl⟩
 ·intro o L1 x hO
  try dsimp only [List.cons_append, List.nil_append] at hO ⊢
  obtain ⟨hO, hO1, hO2, hO3⟩ := hO
  refine GC.joinK3 (ks := [0, 1, 4]) (is := []) (js := [0, 1, 3, 4, 5, 6, 7]) (fun (r : Res) (L2 : List UInt8) (y : Lie) => wpR v17 L1 = some (r, L2) ∧ L2.length ≤ b.length ∧ L2.length ≤ y.c8 ∧ y.c8 ≤ 9223372036854775807) (fun (r : Res) (L2 : List UInt8) (y : Lie) => []) (fun (r : Res) (L2 : List UInt8) (y : Lie) => [.cells p [.slice y.a8 L2.length y.c8] e_, .cells q_ [y0, y1, y2, y3, y4, y5, y6, y7, y8, y9, y10, .int .u8 o.kind, .int .i64 o.at_, .int .i64 o.n, .slice x.a1 o.data.length x.c1, .slice x.a2 o.old.length x.c2, .int .u8 r.code, .slice y.a3 r.data.length y.c3, .int .i64 0, .slice none 0 0, .int .i64 0, .int .i64 0, .int .i64 0, .slice none 0 0, .slice none 0 0, .int .i64 0, .slice none 0 0, .slice none 0 0] f_]) (fun (r : Res) (L2 : List UInt8) (y : Lie) => [Pers.row Kd.u8 y.a3 r.data, Pers.row Kd.u8 y.a8 L2]) rfl rfl rfl ?_ ?_
  ·refine GC.sr_ ?_; refine GL.mv_ rfl rfl ?_; refine GL.pure rfl (p_andR (r := bitN v17 2) rfl rfl rfl) ?_; refine GL.pure rfl (p_neq rfl rfl) ?_; refine GL.nl_ ?_; refine GC.cond rfl (fun h2 => ?_) (fun h2 => ?_)
   ·try simp only [tst_] at h2
    refine GC.sr_ ?_; refine GL.mv_ rfl rfl ?_; refine GL.pure rfl (p_nilCheck rfl) ?_; refine GL.pure rfl (p_fieldAddr fo_96_0 rfl) ?_; refine GL.pure rfl (p_fieldAddr fo_94_0 rfl) ?_; refine GL.step rfl (t_mem rfl (m_load (i := 0) rfl rfl ag_25 rfl)) ?_
    refine GL.step rfl (t_call rfl fn_130 rfl (is := []) (js := [2]) rfl rfl (by exact decres_ct _ L1 _ hO2 hO3 (by omega))) (GL.ret ?_)
    rintro _ _ _ ⟨o51, n51, e51, A51, c51, hs51, hn51, l51, k51, rfl, rfl, rfl⟩
    refine GL.mv_ rfl rfl ?_
    iterate 3 refine GL.pure rfl (p_extract rfl rfl) ?_
    refine GL.step rfl (t_alloc rfl ze_30) (GL.ex fun b_t8 => ?_); refine GL.step rfl (t_storeN (i := 0) rfl rfl rfl sz_30 rfl rfl rfl) ?_
    iterate 2 refine GL.as_ rfl rfl ?_
    refine GL.nl_ ?_; refine GC.sr_ ?_; refine GL.mv_ rfl rfl ?_; refine GL.pure rfl (p_nilCheck rfl) ?_; refine GL.pure rfl (p_fieldAddr fo_96_0 rfl) ?_
    iterate 2 refine GL.mv_ rfl rfl ?_
    refine GL.callP rfl fn_97 rfl (is := [1]) (js := [3]) rfl rfl (by exact (wtake_ct _ _ _ L1 _ n51 e51 (fun _ => hn51.1) hO2 hO3).mono (fun _ _ _ h => h) (fun _ h => ⟨h.2, by simp only [wprtF, hs17, hO, Option.bind_some]; rw [wpR, if_neg (by assumption), hn51.2 h.1]; rfl⟩)) (fun v a w he h => FinP.panic he h) (GL.ret ?_)
    rintro _ _ _ ⟨he60, A60, c60, l60, k60, rfl, rfl, rfl⟩
    refine GL.nl_ ?_; refine GC.region ?_; refine GL.mv_ rfl rfl ?_; refine GL.step rfl (t_mem rfl (m_loadN (i := 1) rfl rfl ag_30 (vs := [_, _]) sz_30 ⟨rfl, rfl, trivial⟩)) ?_; refine GL.pure rfl (p_nilCheck rfl) ?_; refine GL.pure rfl (p_fieldAddr fo_42_12 rfl) ?_
    refine GL.step rfl (t_storeN (i := 2) rfl rfl rfl sz_30 rfl rfl rfl) ?_; refine GL.nil ?_
    exact fun a w h => ⟨(o51), (L1.drop n51), (⟨none, 0, none, 0, A51, c51, none, 0, none, 0, none, 0, none, 0, A60, c60⟩), ⟨by rw [wpR, if_neg (by assumption), hs51 he60]; rfl, by have := @drop_len L1 n51; omega, l60, k60⟩, h.cut (is := [0, 1]) (js := [1, 0, 2, 3, 5, 6, 7, 8, 9]) ⟨rfl, rfl, rfl, trivial⟩ rfl rfl⟩
   ·try simp only [tst_] at h2
    refine GC.skip ?_
    exact fun a w h => ⟨(rz), (L1), (⟨none, 0, none, 0, none, 0, none, 0, none, 0, none, 0, none, 0, x.a8, x.c8⟩), ⟨by rw [wpR, if_pos (by assumption)], by omega, hO2, hO3⟩, h.cut (is := [0, 0]) (js := [6, 2, 0, 1, 3, 4, 5, 6, 7]) ⟨rfl, rfl, rfl, trivial⟩ rfl rfl⟩
  ·intro r L2 y hR
   try dsimp only [List.cons_append, List.nil_append] at hR ⊢
   obtain ⟨hR, hR1, hR2, hR3⟩ := hR
   refine GC.joinK3 (ks := [0, 1, 4]) (is := []) (js := [0, 2, 3, 4, 5, 6, 7, 8]) (fun (g : Grp) (L3 : List UInt8) (z : Lie) => wpG v17 L2 = some (g, L3) ∧ L3.length ≤ b.length ∧ L3.length ≤ z.c8 ∧ z.c8 ≤ 9223372036854775807) (fun (g : Grp) (L3 : List UInt8) (z : Lie) => []) (fun (g : Grp) (L3 : List UInt8) (z : Lie) => [.cells p [.slice z.a8 L3.length z.c8] e_, .cells q_ [y0, y1, y2, y3, y4, y5, y6, y7, y8, y9, y10, .int .u8 o.kind, .int .i64 o.at_, .int .i64 o.n, .slice x.a1 o.data.length x.c1, .slice x.a2 o.old.length x.c2, .int .u8 r.code, .slice y.a3 r.data.length y.c3, .int .i64 g.epoch, .slice z.a4 g.members.length z.c4, .int .i64 0, .int .i64 0, .int .i64 0, .slice none 0 0, .slice none 0 0, .int .i64 0, .slice none 0 0, .slice none 0 0] f_]) (fun (g : Grp) (L3 : List UInt8) (z : Lie) => [Pers.row kI z.a4 g.members, Pers.row Kd.u8 z.a8 L3]) rfl rfl rfl ?_ ?_
   ·refine GC.sr_ ?_; refine GL.mv_ rfl rfl ?_; refine GL.pure rfl (p_andR (r := bitN v17 4) rfl rfl rfl) ?_; refine GL.pure rfl (p_neq rfl rfl) ?_; refine GL.nl_ ?_; refine GC.cond rfl (fun h3 => ?_) (fun h3 => ?_)
    ·try simp only [tst_] at h3
     refine GC.region ?_
     iterate 2 refine GL.mv_ rfl rfl ?_
     refine GL.callP rfl fn_131 rfl (is := [0]) (js := [1]) rfl rfl (by exact (wgrp_ct _ _ _ L2 _ hR2 hR3 (by omega)).mono (fun _ _ _ h => h) (fun _ h => ⟨h.1, by simp only [wprtF, hs17, hO, hR, Option.bind_some]; rw [wpG, if_neg (by assumption), h.2]; rfl⟩)) (fun v a w he h => FinP.panic he h) (GL.ret ?_)
     rintro _ _ _ ⟨g70, L70, A70, c70, B70, d70, hs70, ht70, l70, k70, m70, n70, rfl, rfl, rfl⟩
     refine GL.pure rfl (p_nilCheck rfl) ?_; refine GL.pure rfl (p_fieldAddr fo_42_13 rfl) ?_; refine GL.step rfl (t_storeN (i := 1) rfl rfl rfl sz_33 rfl rfl rfl) ?_; refine GL.nil ?_
     exact fun a w h => ⟨(g70), (L70), (⟨none, 0, none, 0, none, 0, B70, d70, none, 0, none, 0, none, 0, A70, c70⟩), ⟨by rw [wpG, if_neg (by assumption), hs70], by omega, l70, k70⟩, h.cut (is := [0, 0]) (js := [0, 1, 2, 4, 5, 6, 7, 8, 9, 10]) ⟨rfl, rfl, rfl, trivial⟩ rfl rfl⟩
    ·try simp only [tst_] at h3
     refine GC.skip ?_
     exact fun a w h => ⟨(zgr), (L2), (⟨none, 0, none, 0, none, 0, none, 0, none, 0, none, 0, none, 0, y.a8, y.c8⟩), ⟨by rw [wpG, if_pos (by assumption)], by omega, hR2, hR3⟩, h.cut (is := [0, 0]) (js := [6, 1, 0, 2, 3, 4, 5, 6, 7, 8]) ⟨rfl, rfl, rfl, trivial⟩ rfl rfl⟩
   ·intro g L3 z hG
    try dsimp only [List.cons_append, List.nil_append] at hG ⊢
    obtain ⟨hG, hG1, hG2, hG3⟩ := hG
    refine GC.sr_ ?_; refine GL.mv_ rfl rfl ?_; refine GL.pure rfl (p_andR (r := bitN v17 8) rfl rfl rfl) ?_; refine GL.pure rfl (p_neq rfl rfl) ?_; refine GL.nl_ ?_; refine GC.cond rfl (fun h4 => ?_) (fun h4 => ?_)
    ·try simp only [tst_] at h4
     refine GC.sr_ ?_; refine GL.mv_ rfl rfl ?_; refine GL.pure rfl (p_nilCheck rfl) ?_; refine GL.pure rfl (p_fieldAddr fo_96_0 rfl) ?_; refine GL.pure rfl (p_fieldAddr fo_94_0 rfl) ?_; refine GL.step rfl (t_mem rfl (m_load (i := 0) rfl rfl ag_25 rfl)) ?_
     refine GL.step rfl (t_call rfl fn_132 rfl (is := []) (js := [1]) rfl rfl (by exact decstt_ct _ L3 _ hG2 hG3 (by omega))) (GL.ret ?_)
     rintro _ _ _ ⟨g82, t82, f82, A82, cp82, B82, cq82, C82, cr82, hs82, ht82, hl82, j82, k82, l82, m82, n82, o82, rfl, rfl, rfl⟩
     refine GL.mv_ rfl rfl ?_
     iterate 3 refine GL.pure rfl (p_extract rfl rfl) ?_
     refine GL.step rfl (t_alloc rfl ze_39) (GL.ex fun b_t11 => ?_); refine GL.step rfl (t_storeN (i := 0) rfl rfl rfl sz_39 rfl rfl rfl) ?_
     iterate 2 refine GL.as_ rfl rfl ?_
     refine GL.nl_ ?_; refine GC.sr_ ?_; refine GL.mv_ rfl rfl ?_; refine GL.pure rfl (p_nilCheck rfl) ?_; refine GL.pure rfl (p_fieldAddr fo_96_0 rfl) ?_
     iterate 2 refine GL.mv_ rfl rfl ?_
     refine GL.callP rfl fn_97 rfl (is := [1]) (js := [4]) rfl rfl (by exact (wtake_ct _ _ _ L3 _ t82 f82 (fun _ => ht82) hG2 hG3).mono (fun _ _ _ h => h) (fun _ h => ⟨h.2, by simp only [wprtF, hs17, hO, hR, hG, Option.bind_some]; rw [wpS, if_neg (by assumption), hs82.2 h.1]; rfl⟩)) (fun v a w he h => FinP.panic he h) (GL.ret ?_)
     rintro _ _ _ ⟨he91, A91, c91, l91, k91, rfl, rfl, rfl⟩
     refine GL.nl_ ?_; refine GC.region ?_; refine GL.mv_ rfl rfl ?_; refine GL.step rfl (t_mem rfl (m_loadN (i := 1) rfl rfl ag_39 (vs := [_, _, _, _, _, _, _]) sz_39 ⟨rfl, rfl, rfl, rfl, rfl, rfl, rfl, trivial⟩)) ?_; refine GL.pure rfl (p_nilCheck rfl) ?_
     refine GL.pure rfl (p_fieldAddr fo_42_14 rfl) ?_; refine GL.step rfl (t_storeN (i := 2) rfl rfl rfl sz_39 rfl rfl rfl) ?_; refine GL.nil ?_
     refine fun a w h => FinP.back0 rfl (is := [0, 1]) (js := [7, 8, 6, 4, 1, 2, 3, 0]) rfl rfl ?_ h
     clear h
     exact ⟨o, r, g, g82, _, ⟨x.a1, x.c1, x.a2, x.c2, y.a3, y.c3, z.a4, z.c4, A82, cp82, B82, cq82, C82, cr82, A91, c91⟩, by simp only [wprtF, hs17, hO, hR, hG, Option.bind_some]; rw [wpS, if_neg (by assumption), hs82.1 he91]; rfl, by have := @drop_len L3 t82; omega, l91, k91, rfl, rfl, rfl⟩
    ·try simp only [tst_] at h4
     refine GC.skip ?_
     refine fun a w h => FinP.back0 rfl (is := [0, 0]) (js := [3, 4, 2, 0, 6, 5, 7, 1]) rfl rfl ?_ h
     clear h
     exact ⟨o, r, g, zst, L3, ⟨x.a1, x.c1, x.a2, x.c2, y.a3, y.c3, z.a4, z.c4, none, 0, none, 0, none, 0, z.a8, z.c8⟩, by simp only [wprtF, hs17, hO, hR, hG, Option.bind_some]; rw [wpS, if_pos (by assumption)]; rfl, by omega, hG2, hG3, rfl, rfl, rfl⟩
end Go.Proofs.YtdhdmbmknpjhbaaGreat
namespace Go.Proofs.YtdhdmbmknpjhbaaGreat
open Go Go.Sx Go.Proofs
def went (L : List UInt8) : Option (Entry × List UInt8) := (mentF L 0).map fun e => (e.1, L.drop e.2)
def wmsgF (b : List UInt8) : Option (Msg × List UInt8) :=
  (wnumF 1 b).bind fun k => (wnumF 8 k.2).bind fun s => (wnumF 8 s.2).bind fun d => (wsmF d.2).bind fun a1 => (wsmF a1.2).bind fun a2 => (wsmF a2.2).bind fun a3 => (wsmF a3.2).bind fun a4 => (wsmF a4.2).bind fun a5 => (wnumF 8 a5.2).bind fun nn => (wsmF nn.2).bind fun cl => (wsmF cl.2).bind fun sr => (wprtF sr.2).bind fun x => (wnumF 4 x.2).bind fun n => (manyF went n.2 n.1.toNat).map fun r =>
    (⟨k.1, IntKind.i64.wrap s.1, IntKind.i64.wrap d.1, a1.1, a2.1, a3.1, a4.1, a5.1, nn.1, cl.1, sr.1, x.1.1, x.1.2.1, x.1.2.2.1, x.1.2.2.2, r.1⟩, r.2)
theorem wmsg_ct (p e_ : Nat) (A : Option Addr) (b : List UInt8) (cp : Nat) (hcp : b.length ≤ cp) (hcp' : cp ≤ 9223372036854775807) (hb : b.length ≤ 10000000000000) : CtP Tryz.prog 50 [.pointer (some ⟨p, 0, none⟩)] (leftG p e_ A b cp) [Pers.row Kd.u8 A b]
    (fun u G Q => ∃ (m : Msg) (s : Lie) (L' : List UInt8) (A' : Option Addr) (c' : Nat), wmsgF b = some (m, L') ∧ L'.length ≤ c' ∧ c' ≤ 9223372036854775807 ∧ u = msgV m s ∧ G = leftG p e_ A' L' c' ∧ Q = msgQ m s ++ [Pers.row Kd.u8 A' L']) (fun v => v = wFt ∧ wmsgF b = none) := by
 have hp1 : (256 : Nat) ^ 1 = 256 := p256_1
 have hp4 : (256 : Nat) ^ 4 = 4294967296 := p256_4
 refine CtP.intro Tryz.func50 rfl rfl rfl (fun c hc => ?_)
 refine GC.sr_ ?_; refine GL.step rfl (t_alloc rfl ze_42) (GL.ex fun b_t2 => ?_); refine GL.nl_ ?_; refine GC.seq' ?_; refine GC.regionXM (m := 18) (M := fun a w => ∃ v10 : Int, ∃ L10 : List UInt8, ∃ v15 : Int, ∃ L15 : List UInt8, ∃ v20 : Int, ∃ L20 : List UInt8, ∃ A20 : Option Addr, ∃ c20 : Nat, ∃ b_t3 : Nat, (wnumF 1 b = some (v10, L10) ∧ wnumF 8 L10 = some (v15, L15) ∧ wnumF 8 L15 = some (v20, L20) ∧ L20.length ≤ c20 ∧ c20 ≤ 9223372036854775807) ∧ St c 95 [(0, .pointer (some ⟨p, 0, none⟩)), (2, .pointer (some ⟨b_t2, 0, none⟩)), (3, .pointer (some ⟨b_t3, 0, none⟩))] [.cells p [.slice A20 L20.length c20] e_, .cells b_t3 [.int .u8 v10, .int .i64 (IntKind.i64.wrap v15), .int .i64 (IntKind.i64.wrap v20), .int .i64 0, .int .i64 0, .int .i64 0, .int .i64 0, .int .i64 0, .int .u64 0, .int .i64 0, .int .i64 0, .int .u8 0, .int .i64 0, .int .i64 0, .slice none 0 0, .slice none 0 0, .int .u8 0, .slice none 0 0, .int .i64 0, .slice none 0 0, .int .i64 0, .int .i64 0, .int .i64 0, .slice none 0 0, .slice none 0 0, .int .i64 0, .slice none 0 0, .slice none 0 0] 42, .cells b_t2 [.int .u8 0, .int .i64 0, .int .i64 0, .int .i64 0, .int .i64 0, .int .i64 0, .int .i64 0, .int .i64 0, .int .u64 0, .int .i64 0, .int .i64 0, .int .u8 0, .int .i64 0, .int .i64 0, .slice none 0 0, .slice none 0 0, .int .u8 0, .slice none 0 0, .int .i64 0, .slice none 0 0, .int .i64 0, .int .i64 0, .int .i64 0, .slice none 0 0, .slice none 0 0, .int .i64 0, .slice none 0 0, .slice none 0 0] 42] [Pers.row Kd.u8 A20 L20] a w) (is := [0]) (js := [0]) wide_ rfl rfl rfl (fun _ _ _ hd hp hD => ⟨hd.trans hD, .inr hp⟩) ?_ ?_
 ·refine GX.take 0 rfl (by kernel_rfl) (by kernel_rfl) (by kernel_rfl) rfl (fun a w h => h.mem (is := [0]) (js := [0]) rfl rfl) (i_pure (p_move rfl)) ?_
  refine GX.take 1 rfl (by kernel_rfl) (by kernel_rfl) (by kernel_rfl) rfl (fun a w h => h.mem (is := [0]) (js := [0]) rfl rfl) (i_pure (p_nilCheck rfl)) ?_
  refine GX.take 2 rfl (by kernel_rfl) (by kernel_rfl) (by kernel_rfl) rfl (fun a w h => h.mem (is := [0]) (js := [0]) rfl rfl) (i_pure (p_fieldAddr fo_96_0 rfl)) ?_
  refine GX.take 5 rfl (by kernel_rfl) (by kernel_rfl) (by kernel_rfl) rfl (fun a w h => h.mem (is := [0]) (js := [0]) rfl rfl) (i_pure (p_move rfl)) ?_
  refine GX.take 6 rfl (by kernel_rfl) (by kernel_rfl) (by kernel_rfl) rfl (fun a w h => h.mem (is := [0]) (js := [0]) rfl rfl) (i_pure (p_nilCheck rfl)) ?_
  refine GX.take 7 rfl (by kernel_rfl) (by kernel_rfl) (by kernel_rfl) rfl (fun a w h => h.mem (is := [0]) (js := [0]) rfl rfl) (i_pure (p_fieldAddr fo_96_0 rfl)) ?_
  refine GX.take 10 rfl (by kernel_rfl) (by kernel_rfl) (by kernel_rfl) rfl (fun a w h => h.mem (is := [0]) (js := [0]) rfl rfl) (i_pure (p_move rfl)) ?_
  refine GX.take 11 rfl (by kernel_rfl) (by kernel_rfl) (by kernel_rfl) rfl (fun a w h => h.mem (is := [0]) (js := [0]) rfl rfl) (i_pure (p_nilCheck rfl)) ?_
  refine GX.take 12 rfl (by kernel_rfl) (by kernel_rfl) (by kernel_rfl) rfl (fun a w h => h.mem (is := [0]) (js := [0]) rfl rfl) (i_pure (p_fieldAddr fo_96_0 rfl)) ?_
  refine GX.all (rs := [3, 16]) (by kernel_rfl) (by simp) ?_
  refine GXs.consP (i := 3) rfl rfl fn_93 rfl (is := [1]) (js := [0]) rfl rfl (by exact (wnum_ct _ _ _ b _ 1 (by omega) (by omega) hcp hcp' (by omega)).mono (fun _ _ _ h => h) (fun _ h => ⟨h.1, by simp only [wmsgF, h.2, Option.bind_none]⟩)) (by rintro a w ⟨_, _, _, ⟨v10, L10, A10, c10, hs10, l10, k10, rfl, rfl, rfl⟩, h⟩; exact h.mem (is := [1]) (js := [1]) rfl rfl) (GX.ret ?_) ?_
  ·rintro _ _ _ ⟨v10, L10, A10, c10, hs10, l10, k10, rfl, rfl, rfl⟩
   obtain ⟨hv10, hw10, hx10⟩ := wnumF_rng hs10
   refine GX.take 4 rfl (by kernel_rfl) (by kernel_rfl) (by kernel_rfl) rfl (fun a w h => h.mem (is := [1]) (js := [1]) rfl rfl) (i_pure (p_convR (t := 23) (r := v10) (by rw [Tryz.underlying23]; simp) Tryz.underlying22 rfl (by simp [IntKind.wrap, IntKind.bits, IntKind.signed]; omega))) ?_
   refine GX.all (rs := [8, 16]) (by kernel_rfl) (by simp) ?_
   refine GXs.consP (i := 8) rfl rfl fn_93 rfl (is := [0]) (js := [0]) rfl rfl (by exact (wnum_ct _ _ _ L10 _ 8 (by omega) (by omega) l10 k10 (by omega)).mono (fun _ _ _ h => h) (fun _ h => ⟨h.1, by simp only [wmsgF, hs10, Option.bind_some, h.2, Option.bind_none]⟩)) (by rintro a w ⟨_, _, _, ⟨v15, L15, A15, c15, hs15, l15, k15, rfl, rfl, rfl⟩, h⟩; exact h.mem (is := [1]) (js := [2]) rfl rfl) (GX.ret ?_) ?_
   ·rintro _ _ _ ⟨v15, L15, A15, c15, hs15, l15, k15, rfl, rfl, rfl⟩
    obtain ⟨hv15, hw15, hx15⟩ := wnumF_rng hs15
    refine GX.take 9 rfl (by kernel_rfl) (by kernel_rfl) (by kernel_rfl) rfl (fun a w h => h.mem (is := [1]) (js := [2]) rfl rfl) (i_pure (p_conv (t := 23) (by rw [Tryz.underlying23]; simp) Tryz.underlying2 rfl)) ?_
    refine GX.all (rs := [13, 16]) (by kernel_rfl) (by simp) ?_
    refine GXs.consP (i := 13) rfl rfl fn_93 rfl (is := [0]) (js := [0]) rfl rfl (by exact (wnum_ct _ _ _ L15 _ 8 (by omega) (by omega) l15 k15 (by omega)).mono (fun _ _ _ h => h) (fun _ h => ⟨h.1, by simp only [wmsgF, hs10, hs15, Option.bind_some, h.2, Option.bind_none]⟩)) (by rintro a w ⟨_, _, _, ⟨v20, L20, A20, c20, hs20, l20, k20, rfl, rfl, rfl⟩, h⟩; exact h.mem (is := [1]) (js := [3]) rfl rfl) (GX.ret ?_) ?_
    ·rintro _ _ _ ⟨v20, L20, A20, c20, hs20, l20, k20, rfl, rfl, rfl⟩
     obtain ⟨hv20, hw20, hx20⟩ := wnumF_rng hs20
     refine GX.take 14 rfl (by kernel_rfl) (by kernel_rfl) (by kernel_rfl) rfl (fun a w h => h.mem (is := [1]) (js := [3]) rfl rfl) (i_pure (p_conv (t := 23) (by rw [Tryz.underlying23]; simp) Tryz.underlying2 rfl)) ?_
     refine GX.take 15 rfl (by kernel_rfl) (by kernel_rfl) (by kernel_rfl) rfl (fun a w h => h.mem (is := [1]) (js := [3]) rfl rfl) (i_pure (p_build ze_42 of_42 rfl rfl)) ?_
     refine GX.all (rs := [16]) (by kernel_rfl) (by simp) ?_
     refine GXs.cons (i := 16) rfl rfl (t_alloc rfl ze_42) (by rintro a w ⟨_, h⟩; exact h.mem (is := [2]) (js := [3]) rfl rfl) (GX.ex fun b_t3 => ?_) ?_
     ·refine GX.all (rs := [17]) (by kernel_rfl) (by simp) ?_
      refine GXs.cons (i := 17) rfl rfl (t_storeN (i := 0) rfl rfl rfl sz_42 rfl rfl rfl) (by rintro a w h; exact h.mem (is := [2]) (js := [3]) rfl rfl) ?_ ?_
      ·exact GX.done (by kernel_rfl) (fun a w h => ⟨_, _, _, _, _, _, _, _, _, ⟨hs10, hs15, hs20, l20, k20⟩, h.cut (is := [1, 0, 0]) (js := [0]) ⟨rfl, rfl, rfl, trivial⟩ rfl rfl⟩)
      exact GXs.nil
     exact GXs.nil
    refine GXs.cons (i := 16) rfl rfl (t_alloc rfl ze_42) (by rintro a w ⟨_, h⟩; exact h.mem (is := [2]) (js := [2]) rfl rfl) (GX.ex fun b_t3 => ?_) ?_
    ·refine GX.all (rs := [13]) (by kernel_rfl) (by simp) ?_
     refine GXs.consP (i := 13) rfl rfl fn_93 rfl (is := [1]) (js := [0]) rfl rfl (by exact (wnum_ct _ _ _ L15 _ 8 (by omega) (by omega) l15 k15 (by omega)).mono (fun _ _ _ h => h) (fun _ h => ⟨h.1, by simp only [wmsgF, hs10, hs15, Option.bind_some, h.2, Option.bind_none]⟩)) (by rintro a w ⟨_, _, _, ⟨v20, L20, A20, c20, hs20, l20, k20, rfl, rfl, rfl⟩, h⟩; exact h.mem (is := [2]) (js := [3]) rfl rfl) (GX.ret ?_) ?_
     ·rintro _ _ _ ⟨v20, L20, A20, c20, hs20, l20, k20, rfl, rfl, rfl⟩
      obtain ⟨hv20, hw20, hx20⟩ := wnumF_rng hs20
      refine GX.take 14 rfl (by kernel_rfl) (by kernel_rfl) (by kernel_rfl) rfl (fun a w h => h.mem (is := [2]) (js := [3]) rfl rfl) (i_pure (p_conv (t := 23) (by rw [Tryz.underlying23]; simp) Tryz.underlying2 rfl)) ?_
      refine GX.take 15 rfl (by kernel_rfl) (by kernel_rfl) (by kernel_rfl) rfl (fun a w h => h.mem (is := [2]) (js := [3]) rfl rfl) (i_pure (p_build ze_42 of_42 rfl rfl)) ?_
      refine GX.all (rs := [17]) (by kernel_rfl) (by simp) ?_
      refine GXs.cons (i := 17) rfl rfl (t_storeN (i := 1) rfl rfl rfl sz_42 rfl rfl rfl) (by rintro a w h; exact h.mem (is := [2]) (js := [3]) rfl rfl) ?_ ?_
      ·exact GX.done (by kernel_rfl) (fun a w h => ⟨_, _, _, _, _, _, _, _, _, ⟨hs10, hs15, hs20, l20, k20⟩, h.cut (is := [0, 0, 0]) (js := [0]) ⟨rfl, rfl, rfl, trivial⟩ rfl rfl⟩)
      exact GXs.nil
     exact GXs.nil
    exact GXs.nil
   refine GXs.cons (i := 16) rfl rfl (t_alloc rfl ze_42) (by rintro a w ⟨_, h⟩; exact h.mem (is := [2]) (js := [1]) rfl rfl) (GX.ex fun b_t3 => ?_) ?_
   ·refine GX.all (rs := [8]) (by kernel_rfl) (by simp) ?_
    refine GXs.consP (i := 8) rfl rfl fn_93 rfl (is := [1]) (js := [0]) rfl rfl (by exact (wnum_ct _ _ _ L10 _ 8 (by omega) (by omega) l10 k10 (by omega)).mono (fun _ _ _ h => h) (fun _ h => ⟨h.1, by simp only [wmsgF, hs10, Option.bind_some, h.2, Option.bind_none]⟩)) (by rintro a w ⟨_, _, _, ⟨v15, L15, A15, c15, hs15, l15, k15, rfl, rfl, rfl⟩, h⟩; exact h.mem (is := [2]) (js := [2]) rfl rfl) (GX.ret ?_) ?_
    ·rintro _ _ _ ⟨v15, L15, A15, c15, hs15, l15, k15, rfl, rfl, rfl⟩
     obtain ⟨hv15, hw15, hx15⟩ := wnumF_rng hs15
     refine GX.take 9 rfl (by kernel_rfl) (by kernel_rfl) (by kernel_rfl) rfl (fun a w h => h.mem (is := [2]) (js := [2]) rfl rfl) (i_pure (p_conv (t := 23) (by rw [Tryz.underlying23]; simp) Tryz.underlying2 rfl)) ?_
     refine GX.all (rs := [13]) (by kernel_rfl) (by simp) ?_
     refine GXs.consP (i := 13) rfl rfl fn_93 rfl (is := [0]) (js := [0]) rfl rfl (by exact (wnum_ct _ _ _ L15 _ 8 (by omega) (by omega) l15 k15 (by omega)).mono (fun _ _ _ h => h) (fun _ h => ⟨h.1, by simp only [wmsgF, hs10, hs15, Option.bind_some, h.2, Option.bind_none]⟩)) (by rintro a w ⟨_, _, _, ⟨v20, L20, A20, c20, hs20, l20, k20, rfl, rfl, rfl⟩, h⟩; exact h.mem (is := [2]) (js := [3]) rfl rfl) (GX.ret ?_) ?_
     ·rintro _ _ _ ⟨v20, L20, A20, c20, hs20, l20, k20, rfl, rfl, rfl⟩
      obtain ⟨hv20, hw20, hx20⟩ := wnumF_rng hs20
      refine GX.take 14 rfl (by kernel_rfl) (by kernel_rfl) (by kernel_rfl) rfl (fun a w h => h.mem (is := [2]) (js := [3]) rfl rfl) (i_pure (p_conv (t := 23) (by rw [Tryz.underlying23]; simp) Tryz.underlying2 rfl)) ?_
      refine GX.take 15 rfl (by kernel_rfl) (by kernel_rfl) (by kernel_rfl) rfl (fun a w h => h.mem (is := [2]) (js := [3]) rfl rfl) (i_pure (p_build ze_42 of_42 rfl rfl)) ?_
      refine GX.all (rs := [17]) (by kernel_rfl) (by simp) ?_
      refine GXs.cons (i := 17) rfl rfl (t_storeN (i := 1) rfl rfl rfl sz_42 rfl rfl rfl) (by rintro a w h; exact h.mem (is := [2]) (js := [3]) rfl rfl) ?_ ?_
      ·exact GX.done (by kernel_rfl) (fun a w h => ⟨_, _, _, _, _, _, _, _, _, ⟨hs10, hs15, hs20, l20, k20⟩, h.cut (is := [0, 0, 0]) (js := [0]) ⟨rfl, rfl, rfl, trivial⟩ rfl rfl⟩)
      exact GXs.nil
     exact GXs.nil
    exact GXs.nil
   exact GXs.nil
  refine GXs.cons (i := 16) rfl rfl (t_alloc rfl ze_42) (by rintro a w ⟨_, h⟩; exact h.mem (is := [1]) (js := [0]) rfl rfl) (GX.ex fun b_t3 => ?_) ?_
  ·refine GX.all (rs := [3]) (by kernel_rfl) (by simp) ?_
   refine GXs.consP (i := 3) rfl rfl fn_93 rfl (is := [2]) (js := [0]) rfl rfl (by exact (wnum_ct _ _ _ b _ 1 (by omega) (by omega) hcp hcp' (by omega)).mono (fun _ _ _ h => h) (fun _ h => ⟨h.1, by simp only [wmsgF, h.2, Option.bind_none]⟩)) (by rintro a w ⟨_, _, _, ⟨v10, L10, A10, c10, hs10, l10, k10, rfl, rfl, rfl⟩, h⟩; exact h.mem (is := [2]) (js := [1]) rfl rfl) (GX.ret ?_) ?_
   ·rintro _ _ _ ⟨v10, L10, A10, c10, hs10, l10, k10, rfl, rfl, rfl⟩
    obtain ⟨hv10, hw10, hx10⟩ := wnumF_rng hs10
    refine GX.take 4 rfl (by kernel_rfl) (by kernel_rfl) (by kernel_rfl) rfl (fun a w h => h.mem (is := [2]) (js := [1]) rfl rfl) (i_pure (p_convR (t := 23) (r := v10) (by rw [Tryz.underlying23]; simp) Tryz.underlying22 rfl (by simp [IntKind.wrap, IntKind.bits, IntKind.signed]; omega))) ?_
    refine GX.all (rs := [8]) (by kernel_rfl) (by simp) ?_
    refine GXs.consP (i := 8) rfl rfl fn_93 rfl (is := [0]) (js := [0]) rfl rfl (by exact (wnum_ct _ _ _ L10 _ 8 (by omega) (by omega) l10 k10 (by omega)).mono (fun _ _ _ h => h) (fun _ h => ⟨h.1, by simp only [wmsgF, hs10, Option.bind_some, h.2, Option.bind_none]⟩)) (by rintro a w ⟨_, _, _, ⟨v15, L15, A15, c15, hs15, l15, k15, rfl, rfl, rfl⟩, h⟩; exact h.mem (is := [2]) (js := [2]) rfl rfl) (GX.ret ?_) ?_
    ·rintro _ _ _ ⟨v15, L15, A15, c15, hs15, l15, k15, rfl, rfl, rfl⟩
     obtain ⟨hv15, hw15, hx15⟩ := wnumF_rng hs15
     refine GX.take 9 rfl (by kernel_rfl) (by kernel_rfl) (by kernel_rfl) rfl (fun a w h => h.mem (is := [2]) (js := [2]) rfl rfl) (i_pure (p_conv (t := 23) (by rw [Tryz.underlying23]; simp) Tryz.underlying2 rfl)) ?_
     refine GX.all (rs := [13]) (by kernel_rfl) (by simp) ?_
     refine GXs.consP (i := 13) rfl rfl fn_93 rfl (is := [0]) (js := [0]) rfl rfl (by exact (wnum_ct _ _ _ L15 _ 8 (by omega) (by omega) l15 k15 (by omega)).mono (fun _ _ _ h => h) (fun _ h => ⟨h.1, by simp only [wmsgF, hs10, hs15, Option.bind_some, h.2, Option.bind_none]⟩)) (by rintro a w ⟨_, _, _, ⟨v20, L20, A20, c20, hs20, l20, k20, rfl, rfl, rfl⟩, h⟩; exact h.mem (is := [2]) (js := [3]) rfl rfl) (GX.ret ?_) ?_
     ·rintro _ _ _ ⟨v20, L20, A20, c20, hs20, l20, k20, rfl, rfl, rfl⟩
      obtain ⟨hv20, hw20, hx20⟩ := wnumF_rng hs20
      refine GX.take 14 rfl (by kernel_rfl) (by kernel_rfl) (by kernel_rfl) rfl (fun a w h => h.mem (is := [2]) (js := [3]) rfl rfl) (i_pure (p_conv (t := 23) (by rw [Tryz.underlying23]; simp) Tryz.underlying2 rfl)) ?_
      refine GX.take 15 rfl (by kernel_rfl) (by kernel_rfl) (by kernel_rfl) rfl (fun a w h => h.mem (is := [2]) (js := [3]) rfl rfl) (i_pure (p_build ze_42 of_42 rfl rfl)) ?_
      refine GX.all (rs := [17]) (by kernel_rfl) (by simp) ?_
      refine GXs.cons (i := 17) rfl rfl (t_storeN (i := 1) rfl rfl rfl sz_42 rfl rfl rfl) (by rintro a w h; exact h.mem (is := [2]) (js := [3]) rfl rfl) ?_ ?_
      ·exact GX.done (by kernel_rfl) (fun a w h => ⟨_, _, _, _, _, _, _, _, _, ⟨hs10, hs15, hs20, l20, k20⟩, h.cut (is := [0, 0, 0]) (js := [0]) ⟨rfl, rfl, rfl, trivial⟩ rfl rfl⟩)
      exact GXs.nil
     exact GXs.nil
    exact GXs.nil
   exact GXs.nil
  exact GXs.nil
 ·refine (?_ : GC _ _ _ _)
  refine GC.ex fun v10 => GC.ex fun L10 => GC.ex fun v15 => GC.ex fun L15 => GC.ex fun v20 => GC.ex fun L20 => GC.ex fun A20 => GC.ex fun c20 => GC.ex fun b_t3 => GC.and fun ⟨hs10, hs15, hs20, l20, k20⟩ => ?_; refine GC.seq' ?_
  obtain ⟨hv10, hw10, hx10⟩ := wnumF_rng hs10
  obtain ⟨hv15, hw15, hx15⟩ := wnumF_rng hs15
  obtain ⟨hv20, hw20, hx20⟩ := wnumF_rng hs20
  refine GC.regionXM (m := 30) (M := fun a w => ∃ v26 : Int, ∃ L26 : List UInt8, ∃ v30 : Int, ∃ L30 : List UInt8, ∃ v34 : Int, ∃ L34 : List UInt8, ∃ v38 : Int, ∃ L38 : List UInt8, ∃ v42 : Int, ∃ L42 : List UInt8, ∃ A42 : Option Addr, ∃ c42 : Nat, (wsmF L20 = some (v26, L26) ∧ wsmF L26 = some (v30, L30) ∧ wsmF L30 = some (v34, L34) ∧ wsmF L34 = some (v38, L38) ∧ wsmF L38 = some (v42, L42) ∧ L42.length ≤ c42 ∧ c42 ≤ 9223372036854775807) ∧ St c 95 [(0, .pointer (some ⟨p, 0, none⟩)), (2, .pointer (some ⟨b_t2, 0, none⟩)), (3, .pointer (some ⟨b_t3, 0, none⟩))] [.cells p [.slice A42 L42.length c42] e_, .cells b_t3 [.int .u8 v10, .int .i64 (IntKind.i64.wrap v15), .int .i64 (IntKind.i64.wrap v20), .int .i64 v26, .int .i64 v30, .int .i64 v34, .int .i64 v38, .int .i64 v42, .int .u64 0, .int .i64 0, .int .i64 0, .int .u8 0, .int .i64 0, .int .i64 0, .slice none 0 0, .slice none 0 0, .int .u8 0, .slice none 0 0, .int .i64 0, .slice none 0 0, .int .i64 0, .int .i64 0, .int .i64 0, .slice none 0 0, .slice none 0 0, .int .i64 0, .slice none 0 0, .slice none 0 0] 42, .cells b_t2 [.int .u8 0, .int .i64 0, .int .i64 0, .int .i64 0, .int .i64 0, .int .i64 0, .int .i64 0, .int .i64 0, .int .u64 0, .int .i64 0, .int .i64 0, .int .u8 0, .int .i64 0, .int .i64 0, .slice none 0 0, .slice none 0 0, .int .u8 0, .slice none 0 0, .int .i64 0, .slice none 0 0, .int .i64 0, .int .i64 0, .int .i64 0, .slice none 0 0, .slice none 0 0, .int .i64 0, .slice none 0 0, .slice none 0 0] 42] [Pers.row Kd.u8 A42 L42] a w) (is := [2]) (js := [0]) wide_ rfl rfl rfl (fun _ _ _ hd hp hD => ⟨hd.trans hD, .inr hp⟩) ?_ ?_
  ·refine GX.take 0 rfl (by kernel_rfl) (by kernel_rfl) (by kernel_rfl) rfl (fun a w h => h.mem (is := [2]) (js := [0]) rfl rfl) (i_pure (p_move rfl)) ?_
   refine GX.take 1 rfl (by kernel_rfl) (by kernel_rfl) (by kernel_rfl) rfl (fun a w h => h.mem (is := [2]) (js := [0]) rfl rfl) (i_pure (p_nilCheck rfl)) ?_
   refine GX.take 2 rfl (by kernel_rfl) (by kernel_rfl) (by kernel_rfl) rfl (fun a w h => h.mem (is := [2]) (js := [0]) rfl rfl) (i_pure (p_fieldAddr fo_96_0 rfl)) ?_
   refine GX.take 4 rfl (by kernel_rfl) (by kernel_rfl) (by kernel_rfl) rfl (fun a w h => h.mem (is := [2]) (js := [0]) rfl rfl) (i_pure (p_move rfl)) ?_
   refine GX.take 5 rfl (by kernel_rfl) (by kernel_rfl) (by kernel_rfl) rfl (fun a w h => h.mem (is := [2]) (js := [0]) rfl rfl) (i_pure (p_nilCheck rfl)) ?_
   refine GX.take 6 rfl (by kernel_rfl) (by kernel_rfl) (by kernel_rfl) rfl (fun a w h => h.mem (is := [2]) (js := [0]) rfl rfl) (i_pure (p_fieldAddr fo_96_0 rfl)) ?_
   refine GX.take 8 rfl (by kernel_rfl) (by kernel_rfl) (by kernel_rfl) rfl (fun a w h => h.mem (is := [2]) (js := [0]) rfl rfl) (i_pure (p_move rfl)) ?_
   refine GX.take 9 rfl (by kernel_rfl) (by kernel_rfl) (by kernel_rfl) rfl (fun a w h => h.mem (is := [2]) (js := [0]) rfl rfl) (i_pure (p_nilCheck rfl)) ?_
   refine GX.take 10 rfl (by kernel_rfl) (by kernel_rfl) (by kernel_rfl) rfl (fun a w h => h.mem (is := [2]) (js := [0]) rfl rfl) (i_pure (p_fieldAddr fo_96_0 rfl)) ?_
   refine GX.take 12 rfl (by kernel_rfl) (by kernel_rfl) (by kernel_rfl) rfl (fun a w h => h.mem (is := [2]) (js := [0]) rfl rfl) (i_pure (p_move rfl)) ?_
   refine GX.take 13 rfl (by kernel_rfl) (by kernel_rfl) (by kernel_rfl) rfl (fun a w h => h.mem (is := [2]) (js := [0]) rfl rfl) (i_pure (p_nilCheck rfl)) ?_
   refine GX.take 14 rfl (by kernel_rfl) (by kernel_rfl) (by kernel_rfl) rfl (fun a w h => h.mem (is := [2]) (js := [0]) rfl rfl) (i_pure (p_fieldAddr fo_96_0 rfl)) ?_
   refine GX.take 16 rfl (by kernel_rfl) (by kernel_rfl) (by kernel_rfl) rfl (fun a w h => h.mem (is := [2]) (js := [0]) rfl rfl) (i_pure (p_move rfl)) ?_
   refine GX.take 17 rfl (by kernel_rfl) (by kernel_rfl) (by kernel_rfl) rfl (fun a w h => h.mem (is := [2]) (js := [0]) rfl rfl) (i_pure (p_nilCheck rfl)) ?_
   refine GX.take 18 rfl (by kernel_rfl) (by kernel_rfl) (by kernel_rfl) rfl (fun a w h => h.mem (is := [2]) (js := [0]) rfl rfl) (i_pure (p_fieldAddr fo_96_0 rfl)) ?_
   refine GX.all (rs := [3]) (by kernel_rfl) (by simp) ?_
   refine GXs.consP (i := 3) rfl rfl fn_94 rfl (is := [0]) (js := [0]) rfl rfl (by exact (wsm_ct _ _ _ L20 _ l20 k20 (by omega)).mono (fun _ _ _ h => h) (fun _ h => ⟨h.1, by simp only [wmsgF, hs10, hs15, hs20, Option.bind_some, h.2, Option.bind_none]⟩)) (by rintro a w ⟨_, _, _, ⟨v26, L26, A26, c26, hs26, l26, k26, rfl, rfl, rfl⟩, h⟩; exact h.mem (is := [2]) (js := [1]) rfl rfl) (GX.ret ?_) ?_
   ·rintro _ _ _ ⟨v26, L26, A26, c26, hs26, l26, k26, rfl, rfl, rfl⟩
    obtain ⟨hv26, hw26, hx26⟩ := wsmF_rng hs26
    refine GX.all (rs := [7]) (by kernel_rfl) (by simp) ?_
    refine GXs.consP (i := 7) rfl rfl fn_94 rfl (is := [0]) (js := [0]) rfl rfl (by exact (wsm_ct _ _ _ L26 _ l26 k26 (by omega)).mono (fun _ _ _ h => h) (fun _ h => ⟨h.1, by simp only [wmsgF, hs10, hs15, hs20, hs26, Option.bind_some, h.2, Option.bind_none]⟩)) (by rintro a w ⟨_, _, _, ⟨v30, L30, A30, c30, hs30, l30, k30, rfl, rfl, rfl⟩, h⟩; exact h.mem (is := [2]) (js := [2]) rfl rfl) (GX.ret ?_) ?_
    ·rintro _ _ _ ⟨v30, L30, A30, c30, hs30, l30, k30, rfl, rfl, rfl⟩
     obtain ⟨hv30, hw30, hx30⟩ := wsmF_rng hs30
     refine GX.all (rs := [11]) (by kernel_rfl) (by simp) ?_
     refine GXs.consP (i := 11) rfl rfl fn_94 rfl (is := [0]) (js := [0]) rfl rfl (by exact (wsm_ct _ _ _ L30 _ l30 k30 (by omega)).mono (fun _ _ _ h => h) (fun _ h => ⟨h.1, by simp only [wmsgF, hs10, hs15, hs20, hs26, hs30, Option.bind_some, h.2, Option.bind_none]⟩)) (by rintro a w ⟨_, _, _, ⟨v34, L34, A34, c34, hs34, l34, k34, rfl, rfl, rfl⟩, h⟩; exact h.mem (is := [2]) (js := [3]) rfl rfl) (GX.ret ?_) ?_
     ·rintro _ _ _ ⟨v34, L34, A34, c34, hs34, l34, k34, rfl, rfl, rfl⟩
      obtain ⟨hv34, hw34, hx34⟩ := wsmF_rng hs34
      refine GX.all (rs := [15]) (by kernel_rfl) (by simp) ?_
      refine GXs.consP (i := 15) rfl rfl fn_94 rfl (is := [0]) (js := [0]) rfl rfl (by exact (wsm_ct _ _ _ L34 _ l34 k34 (by omega)).mono (fun _ _ _ h => h) (fun _ h => ⟨h.1, by simp only [wmsgF, hs10, hs15, hs20, hs26, hs30, hs34, Option.bind_some, h.2, Option.bind_none]⟩)) (by rintro a w ⟨_, _, _, ⟨v38, L38, A38, c38, hs38, l38, k38, rfl, rfl, rfl⟩, h⟩; exact h.mem (is := [2]) (js := [4]) rfl rfl) (GX.ret ?_) ?_
      ·rintro _ _ _ ⟨v38, L38, A38, c38, hs38, l38, k38, rfl, rfl, rfl⟩
       obtain ⟨hv38, hw38, hx38⟩ := wsmF_rng hs38
       refine GX.all (rs := [19]) (by kernel_rfl) (by simp) ?_
       refine GXs.consP (i := 19) rfl rfl fn_94 rfl (is := [0]) (js := [0]) rfl rfl (by exact (wsm_ct _ _ _ L38 _ l38 k38 (by omega)).mono (fun _ _ _ h => h) (fun _ h => ⟨h.1, by simp only [wmsgF, hs10, hs15, hs20, hs26, hs30, hs34, hs38, Option.bind_some, h.2, Option.bind_none]⟩)) (by rintro a w ⟨_, _, _, ⟨v42, L42, A42, c42, hs42, l42, k42, rfl, rfl, rfl⟩, h⟩; exact h.mem (is := [2]) (js := [5]) rfl rfl) (GX.ret ?_) ?_
       ·rintro _ _ _ ⟨v42, L42, A42, c42, hs42, l42, k42, rfl, rfl, rfl⟩
        obtain ⟨hv42, hw42, hx42⟩ := wsmF_rng hs42
        refine GX.take 20 rfl (by kernel_rfl) (by kernel_rfl) (by kernel_rfl) rfl (fun a w h => h.mem (is := [2]) (js := [5]) rfl rfl) (i_pure (p_fieldAddr fo_42_3 rfl)) ?_
        refine GX.all (rs := [21]) (by kernel_rfl) (by simp) ?_
        refine GXs.cons (i := 21) rfl rfl (t_store (i := 1) rfl rfl rfl rfl sz_3 rfl rfl rfl) (by rintro a w h; exact h.mem (is := [2]) (js := [5]) rfl rfl) ?_ ?_
        ·refine GX.take 22 rfl (by kernel_rfl) (by kernel_rfl) (by kernel_rfl) rfl (fun a w h => h.mem (is := [2]) (js := [5]) rfl rfl) (i_pure (p_fieldAddr fo_42_4 rfl)) ?_
         refine GX.all (rs := [23]) (by kernel_rfl) (by simp) ?_
         refine GXs.cons (i := 23) rfl rfl (t_store (i := 1) rfl rfl rfl rfl sz_3 rfl rfl rfl) (by rintro a w h; exact h.mem (is := [2]) (js := [5]) rfl rfl) ?_ ?_
         ·refine GX.take 24 rfl (by kernel_rfl) (by kernel_rfl) (by kernel_rfl) rfl (fun a w h => h.mem (is := [2]) (js := [5]) rfl rfl) (i_pure (p_fieldAddr fo_42_5 rfl)) ?_
          refine GX.all (rs := [25]) (by kernel_rfl) (by simp) ?_
          refine GXs.cons (i := 25) rfl rfl (t_store (i := 1) rfl rfl rfl rfl sz_3 rfl rfl rfl) (by rintro a w h; exact h.mem (is := [2]) (js := [5]) rfl rfl) ?_ ?_
          ·refine GX.take 26 rfl (by kernel_rfl) (by kernel_rfl) (by kernel_rfl) rfl (fun a w h => h.mem (is := [2]) (js := [5]) rfl rfl) (i_pure (p_fieldAddr fo_42_6 rfl)) ?_
           refine GX.all (rs := [27]) (by kernel_rfl) (by simp) ?_
           refine GXs.cons (i := 27) rfl rfl (t_store (i := 1) rfl rfl rfl rfl sz_3 rfl rfl rfl) (by rintro a w h; exact h.mem (is := [2]) (js := [5]) rfl rfl) ?_ ?_
           ·refine GX.take 28 rfl (by kernel_rfl) (by kernel_rfl) (by kernel_rfl) rfl (fun a w h => h.mem (is := [2]) (js := [5]) rfl rfl) (i_pure (p_fieldAddr fo_42_7 rfl)) ?_
            refine GX.all (rs := [29]) (by kernel_rfl) (by simp) ?_
            refine GXs.cons (i := 29) rfl rfl (t_store (i := 1) rfl rfl rfl rfl sz_3 rfl rfl rfl) (by rintro a w h; exact h.mem (is := [2]) (js := [5]) rfl rfl) ?_ ?_
            ·exact GX.done (by kernel_rfl) (fun a w h => ⟨_, _, _, _, _, _, _, _, _, _, _, _, ⟨hs26, hs30, hs34, hs38, hs42, l42, k42⟩, h.cut (is := [0, 0, 0]) (js := [0]) ⟨rfl, rfl, rfl, trivial⟩ rfl rfl⟩)
            exact GXs.nil
           exact GXs.nil
          exact GXs.nil
         exact GXs.nil
        exact GXs.nil
       exact GXs.nil
      exact GXs.nil
     exact GXs.nil
    exact GXs.nil
   exact GXs.nil
  ·refine (?_ : GC _ _ _ _)
   refine GC.ex fun v26 => GC.ex fun L26 => GC.ex fun v30 => GC.ex fun L30 => GC.ex fun v34 => GC.ex fun L34 => GC.ex fun v38 => GC.ex fun L38 => GC.ex fun v42 => GC.ex fun L42 => GC.ex fun A42 => GC.ex fun c42 => GC.and fun ⟨hs26, hs30, hs34, hs38, hs42, l42, k42⟩ => ?_
   refine GC.sr_ ?_
   obtain ⟨hv26, hw26, hx26⟩ := wsmF_rng hs26
   obtain ⟨hv30, hw30, hx30⟩ := wsmF_rng hs30
   obtain ⟨hv34, hw34, hx34⟩ := wsmF_rng hs34
   obtain ⟨hv38, hw38, hx38⟩ := wsmF_rng hs38
   obtain ⟨hv42, hw42, hx42⟩ := wsmF_rng hs42
   refine GL.mv_ rfl rfl ?_; refine GL.pure rfl (p_nilCheck rfl) ?_; refine GL.pure rfl (p_fieldAddr fo_96_0 rfl) ?_; refine GL.callP rfl fn_93 rfl (is := [0]) (js := [0]) rfl rfl (by exact (wnum_ct _ _ _ L42 _ 8 (by omega) (by omega) l42 k42 (by omega)).mono (fun _ _ _ h => h) (fun _ h => ⟨h.1, by simp only [wmsgF, hs10, hs15, hs20, hs26, hs30, hs34, hs38, hs42, Option.bind_some, h.2, Option.bind_none]⟩)) (fun v a w he h => FinP.panic he h) (GL.ret ?_)
   rintro _ _ _ ⟨v51, L51, A51, c51, hs51, l51, k51, rfl, rfl, rfl⟩
   obtain ⟨hv51, hw51, hx51⟩ := wnumF_rng hs51
   refine GL.pure rfl (p_fieldAddr fo_42_8 rfl) ?_; refine GL.step rfl (t_store (i := 1) rfl rfl rfl rfl sz_23 rfl rfl rfl) ?_; refine GL.nl_ ?_; refine GC.seq' ?_; refine GC.regionXM (m := 12) (M := fun a w => ∃ v56 : Int, ∃ L56 : List UInt8, ∃ v60 : Int, ∃ L60 : List UInt8, ∃ A60 : Option Addr, ∃ c60 : Nat, (wsmF L51 = some (v56, L56) ∧ wsmF L56 = some (v60, L60) ∧ L60.length ≤ c60 ∧ c60 ≤ 9223372036854775807) ∧ St c 95 [(0, .pointer (some ⟨p, 0, none⟩)), (2, .pointer (some ⟨b_t2, 0, none⟩)), (3, .pointer (some ⟨b_t3, 0, none⟩))] [.cells p [.slice A60 L60.length c60] e_, .cells b_t3 [.int .u8 v10, .int .i64 (IntKind.i64.wrap v15), .int .i64 (IntKind.i64.wrap v20), .int .i64 v26, .int .i64 v30, .int .i64 v34, .int .i64 v38, .int .i64 v42, .int .u64 v51, .int .i64 v56, .int .i64 v60, .int .u8 0, .int .i64 0, .int .i64 0, .slice none 0 0, .slice none 0 0, .int .u8 0, .slice none 0 0, .int .i64 0, .slice none 0 0, .int .i64 0, .int .i64 0, .int .i64 0, .slice none 0 0, .slice none 0 0, .int .i64 0, .slice none 0 0, .slice none 0 0] 42, .cells b_t2 [.int .u8 0, .int .i64 0, .int .i64 0, .int .i64 0, .int .i64 0, .int .i64 0, .int .i64 0, .int .i64 0, .int .u64 0, .int .i64 0, .int .i64 0, .int .u8 0, .int .i64 0, .int .i64 0, .slice none 0 0, .slice none 0 0, .int .u8 0, .slice none 0 0, .int .i64 0, .slice none 0 0, .int .i64 0, .int .i64 0, .int .i64 0, .slice none 0 0, .slice none 0 0, .int .i64 0, .slice none 0 0, .slice none 0 0] 42] [Pers.row Kd.u8 A60 L60] a w) (is := [2]) (js := [0, 1]) wide_ rfl rfl rfl (fun _ _ _ hd hp hD => ⟨hd.trans hD, .inr hp⟩) ?_ ?_
   ·refine GX.take 0 rfl (by kernel_rfl) (by kernel_rfl) (by kernel_rfl) rfl (fun a w h => h.mem (is := [2]) (js := [0, 1]) rfl rfl) (i_pure (p_move rfl)) ?_
    refine GX.take 1 rfl (by kernel_rfl) (by kernel_rfl) (by kernel_rfl) rfl (fun a w h => h.mem (is := [2]) (js := [0, 1]) rfl rfl) (i_pure (p_nilCheck rfl)) ?_
    refine GX.take 2 rfl (by kernel_rfl) (by kernel_rfl) (by kernel_rfl) rfl (fun a w h => h.mem (is := [2]) (js := [0, 1]) rfl rfl) (i_pure (p_fieldAddr fo_96_0 rfl)) ?_
    refine GX.take 4 rfl (by kernel_rfl) (by kernel_rfl) (by kernel_rfl) rfl (fun a w h => h.mem (is := [2]) (js := [0, 1]) rfl rfl) (i_pure (p_move rfl)) ?_
    refine GX.take 5 rfl (by kernel_rfl) (by kernel_rfl) (by kernel_rfl) rfl (fun a w h => h.mem (is := [2]) (js := [0, 1]) rfl rfl) (i_pure (p_nilCheck rfl)) ?_
    refine GX.take 6 rfl (by kernel_rfl) (by kernel_rfl) (by kernel_rfl) rfl (fun a w h => h.mem (is := [2]) (js := [0, 1]) rfl rfl) (i_pure (p_fieldAddr fo_96_0 rfl)) ?_
    refine GX.all (rs := [3]) (by kernel_rfl) (by simp) ?_
    refine GXs.consP (i := 3) rfl rfl fn_94 rfl (is := [0]) (js := [0]) rfl rfl (by exact (wsm_ct _ _ _ L51 _ l51 k51 (by omega)).mono (fun _ _ _ h => h) (fun _ h => ⟨h.1, by simp only [wmsgF, hs10, hs15, hs20, hs26, hs30, hs34, hs38, hs42, hs51, Option.bind_some, h.2, Option.bind_none]⟩)) (by rintro a w ⟨_, _, _, ⟨v56, L56, A56, c56, hs56, l56, k56, rfl, rfl, rfl⟩, h⟩; exact h.mem (is := [2]) (js := [1, 2]) rfl rfl) (GX.ret ?_) ?_
    ·rintro _ _ _ ⟨v56, L56, A56, c56, hs56, l56, k56, rfl, rfl, rfl⟩
     obtain ⟨hv56, hw56, hx56⟩ := wsmF_rng hs56
     refine GX.all (rs := [7]) (by kernel_rfl) (by simp) ?_
     refine GXs.consP (i := 7) rfl rfl fn_94 rfl (is := [0]) (js := [0]) rfl rfl (by exact (wsm_ct _ _ _ L56 _ l56 k56 (by omega)).mono (fun _ _ _ h => h) (fun _ h => ⟨h.1, by simp only [wmsgF, hs10, hs15, hs20, hs26, hs30, hs34, hs38, hs42, hs51, hs56, Option.bind_some, h.2, Option.bind_none]⟩)) (by rintro a w ⟨_, _, _, ⟨v60, L60, A60, c60, hs60, l60, k60, rfl, rfl, rfl⟩, h⟩; exact h.mem (is := [2]) (js := [2, 3]) rfl rfl) (GX.ret ?_) ?_
     ·rintro _ _ _ ⟨v60, L60, A60, c60, hs60, l60, k60, rfl, rfl, rfl⟩
      obtain ⟨hv60, hw60, hx60⟩ := wsmF_rng hs60
      refine GX.take 8 rfl (by kernel_rfl) (by kernel_rfl) (by kernel_rfl) rfl (fun a w h => h.mem (is := [2]) (js := [2, 3]) rfl rfl) (i_pure (p_fieldAddr fo_42_9 rfl)) ?_
      refine GX.all (rs := [9]) (by kernel_rfl) (by simp) ?_
      refine GXs.cons (i := 9) rfl rfl (t_store (i := 1) rfl rfl rfl rfl sz_3 rfl rfl rfl) (by rintro a w h; exact h.mem (is := [2]) (js := [2, 3]) rfl rfl) ?_ ?_
      ·refine GX.take 10 rfl (by kernel_rfl) (by kernel_rfl) (by kernel_rfl) rfl (fun a w h => h.mem (is := [2]) (js := [2, 3]) rfl rfl) (i_pure (p_fieldAddr fo_42_10 rfl)) ?_
       refine GX.all (rs := [11]) (by kernel_rfl) (by simp) ?_
       refine GXs.cons (i := 11) rfl rfl (t_store (i := 1) rfl rfl rfl rfl sz_3 rfl rfl rfl) (by rintro a w h; exact h.mem (is := [2]) (js := [2, 3]) rfl rfl) ?_ ?_
       ·exact GX.done (by kernel_rfl) (fun a w h => ⟨_, _, _, _, _, _, ⟨hs56, hs60, l60, k60⟩, h.cut (is := [0, 0, 0]) (js := [0]) ⟨rfl, rfl, rfl, trivial⟩ rfl rfl⟩)
       exact GXs.nil
      exact GXs.nil
     exact GXs.nil
    exact GXs.nil
   ·refine (?_ : GC _ _ _ _)
    refine GC.ex fun v56 => GC.ex fun L56 => GC.ex fun v60 => GC.ex fun L60 => GC.ex fun A60 => GC.ex fun c60 => GC.and fun ⟨hs56, hs60, l60, k60⟩ => ?_; refine GC.sr_ ?_
    obtain ⟨hv56, hw56, hx56⟩ := wsmF_rng hs56
    obtain ⟨hv60, hw60, hx60⟩ := wsmF_rng hs60
    refine GL.mv_ rfl rfl ?_; refine GL.callP rfl fn_95 rfl (is := [0, 0]) (js := [0]) rfl rfl (by exact (wprt_ct _ _ _ _ _ _ _ _ _ _ _ _ _ _ _ _ L60 _ l60 k60 (by omega)).mono (fun _ _ _ h => h) (fun _ h => ⟨h.1, by simp only [wmsgF, hs10, hs15, hs20, hs26, hs30, hs34, hs38, hs42, hs51, hs56, hs60, Option.bind_some, h.2, Option.bind_none]⟩)) (fun v a w he h => FinP.panic he h) (GL.ret ?_)
    rintro _ _ _ ⟨o64, r64, g64, s64, L64, x64, hs64, hx64, l64, k64, rfl, rfl, rfl⟩
    refine GL.nl_ ?_; refine GC.seq' ?_; refine GC.sr_ ?_; refine GL.mv_ rfl rfl ?_; refine GL.pure rfl (p_nilCheck rfl) ?_; refine GL.pure rfl (p_fieldAddr fo_96_0 rfl) ?_; refine GL.callP rfl fn_93 rfl (is := [0]) (js := [7]) rfl rfl (by exact (wnum_ct _ _ _ L64 _ 4 (by omega) (by omega) l64 k64 (by omega)).mono (fun _ _ _ h => h) (fun _ h => ⟨h.1, by simp only [wmsgF, hs10, hs15, hs20, hs26, hs30, hs34, hs38, hs42, hs51, hs56, hs60, Option.bind_some, hs64, h.2, Option.bind_none]⟩)) (fun v a w he h => FinP.panic he h) (GL.ret ?_)
    rintro _ _ _ ⟨v68, L68, A68, c68, hs68, l68, k68, rfl, rfl, rfl⟩
    obtain ⟨hv68, hw68, hx68⟩ := wnumF_rng hs68
    refine GL.nilrow 64 12 ?_; refine GL.know (q := Pers.reps kEntry [] []) (fun _ _ _ => rfl) ?_; refine GL.mv_ rfl rfl ?_; refine GL.nl_ ?_; refine GC.block ?_; refine GC.loopK7 (ks := [0, 2, 3, 68]) (is := [3]) (js := [1, 2, 3, 4, 5, 6, 7, 8, 9, 10]) (fun (k : Nat) (es : List Entry) (V : Value) (cs : List Value) (L : List UInt8) (Al : Option Addr) (cl : Nat) => (es.length = k ∧ L.length ≤ b.length ∧ L.length ≤ cl ∧ cl ≤ 9223372036854775807) ∧ (k : Int) ≤ v68 ∧ manyF went L68 k = some (es, L)) (fun (k : Nat) (es : List Entry) (V : Value) (cs : List Value) (L : List UInt8) (Al : Option Addr) (cl : Nat) => [(69, .int .u64 (k : Int))]) (fun (k : Nat) (es : List Entry) (V : Value) (cs : List Value) (L : List UInt8) (Al : Option Addr) (cl : Nat) => [.cells p [.slice Al L.length cl] e_, .cells b_t3 [.int .u8 v10, .int .i64 (IntKind.i64.wrap v15), .int .i64 (IntKind.i64.wrap v20), .int .i64 v26, .int .i64 v30, .int .i64 v34, .int .i64 v38, .int .i64 v42, .int .u64 v51, .int .i64 v56, .int .i64 v60, .int .u8 o64.kind, .int .i64 o64.at_, .int .i64 o64.n, .slice x64.a1 o64.data.length x64.c1, .slice x64.a2 o64.old.length x64.c2, .int .u8 r64.code, .slice x64.a3 r64.data.length x64.c3, .int .i64 g64.epoch, .slice x64.a4 g64.members.length x64.c4, .int .i64 s64.num, .int .i64 s64.shp.bl, .int .i64 s64.shp.sz, .slice x64.a5 s64.pages.length x64.c5, .slice x64.a6 s64.rows.length x64.c6, .int .i64 s64.grp.epoch, .slice x64.a7 s64.grp.members.length x64.c7, V] 42, .row V 64 12 es.length cs]) (fun (k : Nat) (es : List Entry) (V : Value) (cs : List Value) (L : List UInt8) (Al : Option Addr) (cl : Nat) => [Pers.reps kEntry es cs, Pers.row Kd.u8 Al L]) (fun (k : Nat) (es : List Entry) (V : Value) (cs : List Value) (L : List UInt8) (Al : Option Addr) (cl : Nat) => v68.toNat - k) (0) ([]) (_) ([]) (L68) (_) (_) rfl rfl rfl (fun a w h => ⟨⟨⟨rfl, by omega, l68, k68⟩, by omega, rfl⟩, h.cutK (is := [1, 1, 0, 0]) (js := [0, 1, 1, 2, 3, 4, 5, 6, 7, 8, 9, 10]) (ks := [0, 2, 3, 68]) ⟨rfl, trivial⟩ rfl rfl rfl⟩) ?_
    intro k es V cs L Al cl hk
    try dsimp only [List.cons_append, List.nil_append] at hk ⊢
    refine GC.sr_ ?_; refine GL.pure rfl (p_lss rfl rfl) ?_; refine GL.nl_ ?_; refine GC.seq' ?_; refine GC.cond rfl (fun h1 => ?_) (fun h1 => ?_)
    ·try simp only [tst_] at h1
     refine GC.skip (?_ : GC _ _ _ _)
     refine GC.seq' ?_; refine GC.block ?_; refine GC.sr_ ?_; refine GL.mv_ rfl rfl ?_; refine GL.pure rfl (p_nilCheck rfl) ?_; refine GL.pure rfl (p_fieldAddr fo_96_0 rfl) ?_; refine GL.pure rfl (p_fieldAddr fo_94_0 rfl) ?_
     refine GL.step rfl (t_mem rfl (m_load (i := 0) rfl rfl ag_25 rfl)) ?_; refine GL.step rfl (t_call rfl fn_96 rfl (is := []) (js := [1]) rfl rfl (by exact decent_ct _ L _ hk.1.2.2.1 hk.1.2.2.2 (by omega))) (GL.ret ?_)
     rintro _ _ _ ⟨g77, t77, f77, A77, cp77, B77, cq77, C77, cr77, hs77, ht77, j77, k77, l77, m77, n77, o77, rfl, rfl, rfl⟩
     refine GL.mv_ rfl rfl ?_
     iterate 3 refine GL.pure rfl (p_extract rfl rfl) ?_
     refine GL.step rfl (t_alloc rfl ze_64) (GL.ex fun b_t4 => ?_); refine GL.step rfl (t_storeN (i := 0) rfl rfl rfl sz_64 rfl rfl rfl) ?_
     iterate 2 refine GL.as_ rfl rfl ?_
     refine GL.nl_ ?_; refine GC.sr_ ?_; refine GL.mv_ rfl rfl ?_; refine GL.pure rfl (p_nilCheck rfl) ?_; refine GL.pure rfl (p_fieldAddr fo_96_0 rfl) ?_
     iterate 2 refine GL.mv_ rfl rfl ?_
     refine GL.callP rfl fn_97 rfl (is := [1]) (js := [4]) rfl rfl (by exact (wtake_ct _ _ _ L _ t77 f77 (fun _ => ht77) hk.1.2.2.1 hk.1.2.2.2).mono (fun _ _ _ h => h) (fun _ h => ⟨h.2, by simp only [wmsgF, hs10, hs15, hs20, hs26, hs30, hs34, hs38, hs42, hs51, hs56, hs60, hs64, hs68, Option.bind_some]; rw [manyF_fail hk.2.2 (show went L = none from by rw [went, hs77.2 h.1]; rfl) (by omega)]; rfl⟩)) (fun v a w he h => FinP.panic he h) (GL.ret ?_)
     rintro _ _ _ ⟨he86, A86, c86, l86, k86, rfl, rfl, rfl⟩
     refine GL.nl_ ?_; refine GC.region ?_; refine GL.pure rfl (p_fieldAddr fo_42_15 rfl) ?_; refine GL.step rfl (t_mem rfl (m_load (i := 2) rfl rfl ag_40 rfl)) ?_; refine GL.step rfl (t_mem rfl (m_loadN (i := 1) rfl rfl ag_64 (vs := [_, _, _, _, _, _, _, _, _, _, _, _]) sz_64 ⟨rfl, rfl, rfl, rfl, rfl, rfl, rfl, rfl, rfl, rfl, rfl, rfl, trivial⟩)) ?_
     refine GL.snoc (j := 4) (js := [1, 2, 3]) g77 ((), ((), ((), ((), ((), (((), ((), ((), ((A77, cp77), (B77, cq77))))), ((), (C77, cr77)))))))) rfl rfl ⟨trivial, trivial, trivial, trivial, trivial, ⟨trivial, trivial, trivial, ⟨j77, k77⟩, ⟨l77, m77⟩⟩, trivial, n77, o77⟩ ?_
     refine GL.step rfl (t_buildSlice rfl Tryz.underlying40 sz_64 ze_64 rfl rfl rfl rfl rfl rfl) (GL.ex fun b_t90 => ?_); refine GL.step rfl (t_append (i := 4) (k := 0) rfl el_40 rfl rfl rfl rfl rfl (allOne_mem rfl) (by have := hk.1.1; omega) (fun _ => rfl)) (GL.ex fun v91 => ?_)
     refine GL.shape (i := 4) rfl (fun A_v91 c_v91 e_v91 l_v91 k_v91 => ?_)
     subst e_v91
     refine GL.pure rfl (p_fieldAddr fo_42_15 rfl) ?_; refine GL.step rfl (t_store (i := 3) rfl rfl rfl rfl sz_40 rfl rfl rfl) ?_
     refine GL.nil (?_ : GC _ _ _ _)
     refine GC.region ?_; refine GL.pure rfl (p_add rfl rfl (cvU (by omega) (by omega))) ?_; refine GL.mv_ rfl rfl ?_; refine GL.nil ?_
     exact fun a w h => ⟨(k + 1), (es ++ [g77]), (_), (_), (L.drop t77), (_), (_), (by omega), ⟨⟨by simp; omega, by have := @drop_len L t77; omega, l86, k86⟩, by omega, manyF_next hk.2.2 (show went L = some _ from by rw [went, hs77.1 he86]; rfl)⟩, by rw [List.length_append]; exact h.cut (is := [1, 2, 2, 2]) (js := [0, 1, 7, 8, 9, 10, 11, 12, 13, 14, 15, 16]) ⟨rfl, rfl, rfl, rfl, rfl, trivial⟩ rfl rfl⟩
    ·try simp only [tst_] at h1
     refine GC.exit (?_ : GC _ _ _ _)
     refine GC.sr_ ?_; refine GL.shape (i := 2) rfl (fun A_EN c_EN e_EN l_EN k_EN => ?_)
     subst e_EN
     refine GL.freezeR (i := 2) (j := 0) rfl rfl (by decide) ?_; refine GL.step rfl (t_mem rfl (m_loadN (i := 1) rfl rfl ag_42 (vs := [_, _, _, _, _, _, _, _, _, _, _, _, _, _, _, _, _, _, _, _, _, _, _, _, _, _, _, _]) sz_42 ⟨rfl, rfl, rfl, rfl, rfl, rfl, rfl, rfl, rfl, rfl, rfl, rfl, rfl, rfl, rfl, rfl, rfl, rfl, rfl, rfl, rfl, rfl, rfl, rfl, rfl, rfl, rfl, rfl, trivial⟩)) ?_
     refine GL.step rfl (t_storeN (i := 2) rfl rfl rfl sz_42 rfl rfl rfl) ?_; refine GL.nl_ ?_; refine GC.ret ?_
     refine fun a w h => FinP.back (rs := [.cell 2 42]) (vs := [_]) (is := [0]) (js := [4, 5, 6, 7, 8, 9, 10, 0, 2]) rfl ⟨⟨2, _, _, _, _, rfl, rfl, .inr ⟨[_, _, _, _, _, _, _, _, _, _, _, _, _, _, _, _, _, _, _, _, _, _, _, _, _, _, _, _], rfl, ag_42, sz_42, ⟨rfl, rfl, rfl, rfl, rfl, rfl, rfl, rfl, rfl, rfl, rfl, rfl, rfl, rfl, rfl, rfl, rfl, rfl, rfl, rfl, rfl, rfl, rfl, rfl, rfl, rfl, rfl, rfl, trivial⟩⟩⟩, trivial⟩ rfl rfl ?_ h
     clear h
     exact ⟨⟨v10, IntKind.i64.wrap v15, IntKind.i64.wrap v20, v26, v30, v34, v38, v42, v51, v56, v60, o64, r64, g64, s64, es⟩, ⟨x64.a1, x64.c1, x64.a2, x64.c2, x64.a3, x64.c3, x64.a4, x64.c4, x64.a5, x64.c5, x64.a6, x64.c6, x64.a7, x64.c7, A_EN, c_EN⟩, L, _, _, by simp only [wmsgF, hs10, hs15, hs20, hs26, hs30, hs34, hs38, hs42, hs51, hs56, hs60, hs64, hs68, Option.bind_some]; rw [show v68.toNat = k by omega, hk.2.2]; rfl, hk.1.2.2.1, hk.1.2.2.2, rfl, rfl, rfl⟩
end Go.Proofs.YtdhdmbmknpjhbaaGreat
namespace Go.Proofs.YtdhdmbmknpjhbaaGreat
open Go Go.Sx Go.Proofs
theorem manyF_len {α σ : Type} {f : σ → Option (α × σ)} {t : σ} : ∀ {k : Nat} {xs : List α} {u : σ}, manyF f t k = some (xs, u) → xs.length = k
  | 0, xs, u, h => by
    obtain ⟨rfl, _⟩ := Prod.mk.inj (Option.some.inj h)
    rfl
  | k + 1, xs, u, h => by
    simp only [manyF, Option.bind_eq_some_iff, Option.map_eq_some_iff] at h
    obtain ⟨⟨ys, v⟩, h1, ⟨x, w⟩, h2, h3⟩ := h
    obtain ⟨rfl, _⟩ := Prod.mk.inj h3
    have := manyF_len h1
    simp [this]
theorem manyF_all {α σ : Type} {P : α → Prop} {f : σ → Option (α × σ)} {t : σ} (hf : ∀ t x v, f t = some (x, v) → P x) : ∀ {k : Nat} {xs : List α} {u : σ}, manyF f t k = some (xs, u) → ∀ x ∈ xs, P x
  | 0, xs, u, h => by
    obtain ⟨rfl, _⟩ := Prod.mk.inj (Option.some.inj h)
    intro x hx; cases hx
  | k + 1, xs, u, h => by
    simp only [manyF, Option.bind_eq_some_iff, Option.map_eq_some_iff] at h
    obtain ⟨⟨ys, v⟩, h1, ⟨x, w⟩, h2, h3⟩ := h
    obtain ⟨rfl, _⟩ := Prod.mk.inj h3
    intro y hy
    rcases List.mem_append.1 hy with hy | hy
    · exact manyF_all hf h1 y hy
    · rw [List.mem_singleton.1 hy]; exact hf _ _ _ h2
theorem manyF_dec {α : Type} {f : List UInt8 → Option (α × List UInt8)} {t : List UInt8} (hf : ∀ t x v, f t = some (x, v) → v.length + 1 ≤ t.length) : ∀ {k : Nat} {xs : List α} {u : List UInt8}, manyF f t k = some (xs, u) → u.length + k ≤ t.length
  | 0, xs, u, h => by
    obtain ⟨_, rfl⟩ := Prod.mk.inj (Option.some.inj h)
    exact Nat.le_refl _
  | k + 1, xs, u, h => by
    simp only [manyF, Option.bind_eq_some_iff, Option.map_eq_some_iff] at h
    obtain ⟨⟨ys, v⟩, h1, ⟨x, w⟩, h2, h3⟩ := h
    obtain ⟨_, rfl⟩ := Prod.mk.inj h3
    have := manyF_dec hf h1
    have := hf _ _ _ h2
    dsimp only at *
    omega
theorem ent_len {e : Entry} (h : entOk e) : EntLen e := by
  obtain ⟨_, _, _, _, h5⟩ := h
  rcases h5 with ⟨_, h, _, h2⟩ | ⟨_, h, h2, _⟩
  · have := form_rng h
    exact ⟨by unfold lenOk; omega, by unfold lenOk; omega, by omega⟩
  · have := grp_rng h2
    exact ⟨by rw [h]; simp [zop], by rw [h]; simp [zop], by omega⟩
theorem held_len {s : Stt} (h : heldOk s) : SttLen s := by
  have r := held_rng h
  have h1 := r.pl
  have h2 := r.rl
  have h3 := grp_rng r.gr
  refine ⟨by omega, by omega, by omega, fun p hp => ?_, fun p hp => ?_⟩
  · have := (r.pg p hp).2.2.2.2; unfold lenOk; omega
  · have := (res_rng (r.rw_ p hp).2.2).2.2; unfold lenOk; omega
theorem mentF_ok {b : List UInt8} {t : Nat} {e : Entry} {u : Nat} (h : mentF b t = some (e, u)) : entOk e := by
  simp only [mentF, Option.bind_eq_some_iff, mentC] at h
  obtain ⟨_, _, _, _, _, _, _, _, _, _, _, _, h⟩ := h
  split at h
  · rename_i h0
    rw [Option.some.inj h] at h0
    rwa [entE_iff] at h0
  · cases h
theorem mstF_ok {b : List UInt8} {t : Nat} {e : Stt} {u : Nat} (h : mstF b t = some (e, u)) : heldOk e := by
  simp only [mstF, Option.bind_eq_some_iff, mstC] at h
  obtain ⟨_, _, _, _, _, _, _, _, _, _, _, _, _, _, _, _, h⟩ := h
  split at h
  · rename_i h0
    rw [← (Prod.mk.inj (Option.some.inj h)).1]
    exact h0.1
  · cases h
theorem decOp_ok {b : List UInt8} {o : OpD} {n : Nat} (h : decOp b = some (o, n)) : formD o := by
  unfold decOp at h
  split at h
  · rename_i hh
    rw [← (Prod.mk.inj (Option.some.inj h)).1]
    exact (formE_iff ..).1 hh.2
  · cases h
theorem wnum_lt {n : Nat} {L M : List UInt8} {v : Int} (h : wnumF n L = some (v, M)) : M.length + n = L.length := (wnumF_rng h).2.2
theorem went_ok {L M : List UInt8} {e : Entry} (h : went L = some (e, M)) : entOk e := by
  simp only [went, Option.map_eq_some_iff] at h
  obtain ⟨⟨e', u⟩, h1, h2⟩ := h
  obtain ⟨rfl, _⟩ := Prod.mk.inj h2
  exact mentF_ok h1
theorem mnumF_step {b : List UInt8} {t n u : Nat} {v : Int} (h : mnumF b t n = some (v, u)) : u = t + n ∧ u ≤ b.length := ⟨(mnumF_rng h).2.1, (mnumF_rng h).1⟩
theorem mentF_step {b : List UInt8} {e : Entry} {u : Nat} (h : mentF b 0 = some (e, u)) : 1 ≤ u ∧ 1 ≤ b.length := by
  simp only [mentF, Option.bind_eq_some_iff] at h
  obtain ⟨⟨k, t1⟩, h1, ⟨n, t2⟩, h2, ⟨v, t3⟩, h3, ⟨cc, t4⟩, h4, ⟨s, t5⟩, h5, ⟨x, t6⟩, h6, h7⟩ := h
  have e1 := mnumF_step h1
  have e2 := mnumF_step h2
  have e3 := mnumF_step h3
  have e4 := mnumF_step h4
  have e5 := mnumF_step h5
  dsimp only at *
  simp only [mentC] at h7
  split at h7
  · obtain ⟨_, rfl⟩ := Prod.mk.inj (Option.some.inj h7)
    refine ⟨?_, by omega⟩
    unfold mentB at h6
    split at h6
    · simp only [Option.map_eq_some_iff] at h6
      obtain ⟨⟨o, m⟩, _, h8⟩ := h6
      have := (Prod.mk.inj h8).2
      dsimp only at this
      omega
    · split at h6
      · simp only [Option.map_eq_some_iff, mgrpF, Option.bind_eq_some_iff] at h6
        obtain ⟨⟨o, m⟩, ⟨⟨g1, u1⟩, h8, ⟨g2, u2⟩, h9, ⟨g3, u3⟩, h10, h11⟩, h12⟩ := h6
        have f1 := mnumF_step h8
        have f2 := mnumF_step h9
        have := (Prod.mk.inj h12).2
        have := (Prod.mk.inj h11).2
        dsimp only at *
        have hge : ∀ (k : Nat) (xs : List Int) (u : Nat), manyF (fun t => mnumF b t 1) u2 k = some (xs, u) → u2 ≤ u := by
          intro k
          induction k with
          | zero => intro xs u h; obtain ⟨_, rfl⟩ := Prod.mk.inj (Option.some.inj h); exact Nat.le_refl _
          | succ k ih =>
            intro xs u h
            simp only [manyF, Option.bind_eq_some_iff, Option.map_eq_some_iff] at h
            obtain ⟨⟨ys, v⟩, j1, ⟨x, w⟩, j2, j3⟩ := h
            obtain ⟨_, rfl⟩ := Prod.mk.inj j3
            have := ih _ _ j1
            have := mnumF_step j2
            dsimp only at *
            omega
        have := hge _ _ _ h10
        omega
      · have := (Prod.mk.inj (Option.some.inj h6)).2
        omega
  · cases h7
theorem went_dec (t : List UInt8) (x : Entry) (v : List UInt8) (h : went t = some (x, v)) : v.length + 1 ≤ t.length := by
  simp only [went, Option.map_eq_some_iff] at h
  obtain ⟨⟨e', u⟩, h1, h2⟩ := h
  obtain ⟨_, rfl⟩ := Prod.mk.inj h2
  have := mentF_step h1
  rw [List.length_drop]
  dsimp only
  omega
structure MsgF (b : List UInt8) (m : Msg) (M : List UInt8) : Prop where
  len : MsgLen m
  nonce : 0 ≤ m.nonce ∧ m.nonce < 18446744073709551616
  log : m.log.length ≤ b.length
theorem wmsgF_all {b : List UInt8} {m : Msg} {M : List UInt8} (h : wmsgF b = some (m, M)) : MsgF b m M := by
  simp only [wmsgF, Option.bind_eq_some_iff, Option.map_eq_some_iff] at h
  obtain ⟨⟨k, b1⟩, h1, ⟨sv, b2⟩, h2, ⟨d, b3⟩, h3, ⟨a1, b4⟩, h4, ⟨a2, b5⟩, h5, ⟨a3, b6⟩, h6, ⟨a4, b7⟩, h7, ⟨a5, b8⟩, h8, ⟨nn, b9⟩, h9, ⟨cl, b10⟩, h10, ⟨sr, b11⟩, h11, ⟨⟨o, r, g, s⟩, b12⟩, h12, ⟨n, b13⟩, h13, ⟨es, b14⟩, h14, h15⟩ := h
  dsimp only at *
  obtain ⟨rfl, rfl⟩ := Prod.mk.inj h15
  have q9 := wnumF_rng h9
  have e8 : (256 : Nat) ^ 8 = 18446744073709551616 := p256_8
  simp only [wprtF, Option.bind_eq_some_iff, Option.map_eq_some_iff] at h12
  obtain ⟨⟨pn, c1⟩, g1, ⟨o', c2⟩, g2, ⟨r', c3⟩, g3, ⟨g', c4⟩, g4, ⟨s', c5⟩, g5, g6⟩ := h12
  dsimp only at *
  cases g6
  have lo : lenOk o.data.length ∧ lenOk o.old.length ∧ c2.length ≤ c1.length := by
    unfold wpO at g2
    split at g2
    · obtain ⟨rfl, rfl⟩ := Prod.mk.inj (Option.some.inj g2); simp [zop]
    · simp only [Option.map_eq_some_iff] at g2
      obtain ⟨⟨o2, n2⟩, j1, j2⟩ := g2
      obtain ⟨rfl, rfl⟩ := Prod.mk.inj j2
      have := form_rng (decOp_ok j1)
      exact ⟨by unfold lenOk; dsimp only; omega, by unfold lenOk; dsimp only; omega, drop_len⟩
  have lr : lenOk r.data.length ∧ c3.length ≤ c2.length := by
    unfold wpR at g3
    split at g3
    · obtain ⟨rfl, rfl⟩ := Prod.mk.inj (Option.some.inj g3); simp [rz]
    · simp only [Option.map_eq_some_iff] at g3
      obtain ⟨⟨o2, n2⟩, j1, j2⟩ := g3
      obtain ⟨rfl, rfl⟩ := Prod.mk.inj j2
      have := decRes_len j1
      exact ⟨by unfold lenOk; dsimp only; omega, drop_len⟩
  have lg : g.members.length ≤ 17592186043904 ∧ c4.length ≤ c3.length := by
    unfold wpG at g4
    split at g4
    · obtain ⟨rfl, rfl⟩ := Prod.mk.inj (Option.some.inj g4); simp [zgr]
    · simp only [wgrpF, Option.bind_eq_some_iff, Option.map_eq_some_iff] at g4
      obtain ⟨⟨e1, d1⟩, j1, ⟨e2, d2⟩, j2, ⟨e3, d3⟩, j3, j4⟩ := g4
      obtain ⟨rfl, rfl⟩ := Prod.mk.inj j4
      have f1 := wsmF_rng j1
      have f2 := wnumF_rng j2
      have f3 := manyF_len j3
      have f4 := manyF_dec (fun t x v h => by have := wnum_lt h; omega) j3
      have e1 : (256 : Nat) ^ 1 = 256 := p256_1
      dsimp only at *
      omega
  have ls : SttLen s ∧ b12.length ≤ c4.length := by
    unfold wpS at g5
    split at g5
    · obtain ⟨rfl, rfl⟩ := Prod.mk.inj (Option.some.inj g5); exact ⟨zstLen, Nat.le_refl _⟩
    · simp only [Option.map_eq_some_iff] at g5
      obtain ⟨⟨o2, n2⟩, j1, j2⟩ := g5
      obtain ⟨rfl, rfl⟩ := Prod.mk.inj j2
      exact ⟨held_len (mstF_ok j1), drop_len⟩
  have f1 := wnum_lt h1
  have f2 := wnum_lt h2
  have f3 := wnum_lt h3
  have f4 := (wsmF_rng h4).2.2
  have f5 := (wsmF_rng h5).2.2
  have f6 := (wsmF_rng h6).2.2
  have f7 := (wsmF_rng h7).2.2
  have f8 := (wsmF_rng h8).2.2
  have f9 := wnum_lt h9
  have f10 := (wsmF_rng h10).2.2
  have f11 := (wsmF_rng h11).2.2
  have f12 := wnum_lt g1
  have f13 := wnum_lt h13
  have f14 := manyF_len h14
  have f15 := manyF_dec went_dec h14
  have f16 := wnumF_rng h13
  have e4 : (256 : Nat) ^ 4 = 4294967296 := p256_4
  try dsimp only at *
  exact ⟨⟨lo.1, lo.2.1, lr.1, lg.1, ls.1, by dsimp only; omega, fun e he => ent_len (manyF_all (P := entOk) (fun t x v h => went_ok h) h14 e he)⟩, by dsimp only; omega, by dsimp only; omega⟩
end Go.Proofs.YtdhdmbmknpjhbaaGreat
namespace Go.Proofs.YtdhdmbmknpjhbaaGreat
open Go Go.Sx Go.Proofs
def At (b : List UInt8) (t : Nat) (L : List UInt8) : Prop := t ≤ b.length ∧ b.drop t = L
theorem At.zero (b : List UInt8) : At b 0 b := ⟨Nat.zero_le _, rfl⟩
theorem At.len {b : List UInt8} {t : Nat} {L : List UInt8} (h : At b t L) : t + L.length = b.length := by
  have := congrArg List.length h.2
  rw [List.length_drop] at this
  have := h.1
  omega
theorem At.step {b : List UInt8} {t : Nat} {x L : List UInt8} (h : At b t (x ++ L)) : At b (t + x.length) L ∧ seg b t (t + x.length) = x ∧ t + x.length ≤ b.length := by
  have hl := h.len
  rw [List.length_append] at hl
  have e : b.drop (t + x.length) = L := by rw [← List.drop_drop, h.2, List.drop_left]
  refine ⟨⟨by omega, e⟩, ?_, by omega⟩
  have e2 : seg b t (t + x.length) = (b.drop t).take x.length := by rw [seg, List.drop_take]; congr 1; omega
  rw [e2, h.2, List.take_left]
theorem At.seg {b : List UInt8} {t : Nat} {L : List UInt8} (h : At b t L) : Go.Sx.seg b t b.length = L := by rw [seg_drop, h.2]
theorem At.num {b : List UInt8} {t n : Nat} {v : Int} {L : List UInt8} (h : At b t (leN n v.toNat ++ L)) (h0 : 0 ≤ v) (h1 : v.toNat < 256 ^ n) (h2 : v ≤ 4611686018427387904) : ∃ u, mnumF b t n = some (v, u) ∧ At b u L := by
  obtain ⟨g1, g2, g3⟩ := h.step
  rw [leN_length] at g1 g2 g3
  refine ⟨t + n, ?_, g1⟩
  rw [mnumF, if_pos g3, getV, if_pos g3, getX, if_pos g3, g2, valN_leN _ _ h1, if_neg (by omega), show ((v.toNat : Nat) : Int) = v by omega]
theorem flZ_single (n : Nat) (x : Int) : flZ n [x] = leN n x.toNat := by simp [flZ]
theorem flZ_cons (n : Nat) (x : Int) (l : List Int) : flZ n (x :: l) = leN n x.toNat ++ flZ n l := by simp [flZ]
theorem flZ_nil (n : Nat) : flZ n [] = [] := rfl
theorem byI_le {x : Int} (h : 0 ≤ x) (h' : x < 256) : [byI x] = leN 1 x.toNat := by
  have : x.toNat % 256 = x.toNat := by omega
  simp [leN, byI, this]
theorem manyF_cons {α σ : Type} {f : σ → Option (α × σ)} {t u v : σ} {x : α} {xs : List α} (hx : f t = some (x, u)) : ∀ {k : Nat} {xs : List α} {v : σ}, manyF f u k = some (xs, v) → manyF f t (k + 1) = some (x :: xs, v)
  | 0, xs, v, h => by
    obtain ⟨rfl, rfl⟩ := Prod.mk.inj (Option.some.inj h)
    simp [manyF, hx]
  | k + 1, xs, v, h => by
    rw [manyF] at h
    simp only [Option.bind_eq_some_iff, Option.map_eq_some_iff] at h
    obtain ⟨⟨ys, w⟩, h1, ⟨y, z⟩, h2, h3⟩ := h
    have ih := manyF_cons (f := f) (t := t) (u := u) (v := v) (x := x) (xs := xs) hx h1
    obtain ⟨rfl, rfl⟩ := Prod.mk.inj h3
    rw [manyF, ih]
    simp [h2]
theorem manyF_enc {α σ : Type} {f : σ → Option (α × σ)} {enc : α → List UInt8} (I : σ → List UInt8 → Prop) (L : List UInt8) : ∀ {xs : List α} {t : σ}, (∀ x ∈ xs, ∀ t L, I t (enc x ++ L) → ∃ u, f t = some (x, u) ∧ I u L) → I t (xs.flatMap enc ++ L) → ∃ u, manyF f t xs.length = some (xs, u) ∧ I u L
  | [], t, _, h => ⟨t, rfl, h⟩
  | x :: xs, t, hf, h => by
    rw [List.flatMap_cons, List.append_assoc] at h
    obtain ⟨u, h1, h2⟩ := hf x (List.mem_cons_self ..) t _ h
    obtain ⟨v, h3, h4⟩ := manyF_enc I L (xs := xs) (fun y hy => hf y (List.mem_cons_of_mem _ hy)) h2
    exact ⟨v, manyF_cons (v := v) (xs := xs) h1 h3, h4⟩
theorem numS_at {b : List UInt8} {t n v : Nat} {L : List UInt8} (h : At b t (leN n v ++ L)) (h1 : v < 256 ^ n) : numS b t 0 n = (v, t + n, 0) ∧ At b (t + n) L := by
  obtain ⟨g1, g2, g3⟩ := h.step
  rw [leN_length] at g1 g2 g3
  refine ⟨?_, g1⟩
  rw [numS, if_pos rfl, if_pos g3, g2, valN_leN _ _ h1]
theorem txF_at {b : List UInt8} {t : Nat} {d L : List UInt8} (h : At b t (leN 4 d.length ++ (d ++ L))) (h1 : d.length ≤ 16777216) : txF b t = (d, t + 4 + d.length, 0) ∧ At b (t + 4 + d.length) L := by
  obtain ⟨g1, g2, g3⟩ := h.step
  rw [leN_length] at g1 g2 g3
  obtain ⟨g4, g5, g6⟩ := g1.step
  have e : valN (leN 4 d.length) = d.length := valN_leN _ _ (by rw [p256_4]; omega)
  refine ⟨?_, g4⟩
  rw [txF, if_pos g3, g2, e, if_pos h1, if_pos g6, g5]
theorem txS_at {b : List UInt8} {t : Nat} {d L : List UInt8} (h : At b t (leN 4 d.length ++ (d ++ L))) (h1 : d.length ≤ 16777216) : txS b t 0 = (d, t + 4 + d.length, 0) ∧ At b (t + 4 + d.length) L := by
  obtain ⟨g1, g2⟩ := txF_at h h1
  refine ⟨?_, g2⟩
  rw [txS, if_pos rfl, g1, if_pos rfl]
theorem decOp_at {b : List UInt8} {o : OpD} {L : List UInt8} (h : b = opB o ++ L) (hf : formD o) : ∃ u, decOp b = some (o, u) ∧ At b u L := by
  obtain ⟨r1, r2, r3, r4, r5, r6, r7, r8⟩ := form_rng hf
  have h0 := At.zero b
  rw [show At b 0 b = At b 0 (leN 1 o.kind.toNat ++ (leN 4 o.at_.toNat ++ (leN 4 o.n.toNat ++ (leN 4 o.data.length ++ (o.data ++ (leN 4 o.old.length ++ (o.old ++ L))))))) from by
    conv => lhs; rw [show b = opB o ++ L from h]
    rw [h, opB, byI_le (by omega) (by omega)]; simp [flI, List.append_assoc]] at h0
  obtain ⟨e1, h1⟩ := numS_at h0 (by rw [p256_1]; omega)
  obtain ⟨e2, h2⟩ := numS_at h1 (by rw [p256_4]; omega)
  obtain ⟨e3, h3⟩ := numS_at h2 (by rw [p256_4]; omega)
  obtain ⟨e4, h4⟩ := txS_at h3 (by omega)
  obtain ⟨e5, h5⟩ := txS_at h4 (by omega)
  refine ⟨_, ?_, h5⟩
  have eo : (⟨((o.kind.toNat : Nat) : Int), ((o.at_.toNat : Nat) : Int), ((o.n.toNat : Nat) : Int), o.data, o.old⟩ : OpD) = o := by
    rw [show ((o.kind.toNat : Nat) : Int) = o.kind by omega, show ((o.at_.toNat : Nat) : Int) = o.at_ by omega, show ((o.n.toNat : Nat) : Int) = o.n by omega]
  have hS := decOpS_eq e1 e2 e3 e4 e5
  rw [eo] at hS
  rw [decOp, hS]
  exact if_pos ⟨rfl, (formE_iff ..).2 hf⟩
theorem decRes_at {b : List UInt8} {r : Res} {L : List UInt8} (h : b = resB r ++ L) (hf : resOk r.code r.data.length = true) : ∃ u, decRes b = some (r, u) ∧ At b u L := by
  obtain ⟨r1, r2, r3⟩ := res_rng hf
  have h0 := At.zero b
  have hb : b = leN 1 r.code.toNat ++ (leN 4 r.data.length ++ (r.data ++ L)) := by rw [h, resB, byI_le (by omega) (by omega)]; simp [List.append_assoc]
  have h0 : At b 0 (leN 1 r.code.toNat ++ (leN 4 r.data.length ++ (r.data ++ L))) := ⟨Nat.zero_le _, hb⟩
  obtain ⟨e1, h1⟩ := numS_at h0 (by rw [p256_1]; omega)
  obtain ⟨e2, h2⟩ := txS_at h1 (by omega)
  refine ⟨_, ?_, h2⟩
  have eo : (⟨((r.code.toNat : Nat) : Int), r.data⟩ : Res) = r := by rw [show ((r.code.toNat : Nat) : Int) = r.code by omega]
  have hS := decResS_eq e1 e2
  rw [eo] at hS
  rw [decRes, hS]
  exact if_pos ⟨rfl, hf⟩
theorem mgrpF_at {b : List UInt8} {t : Nat} {g : Grp} {L : List UInt8} (h : At b t (grpB g ++ L)) (hg : groupOk g.epoch g.members = true) : ∃ u, mgrpF b t = some (g, u) ∧ At b u L := by
  obtain ⟨r1, r2, r3, r4, r5⟩ := grp_rng hg
  simp only [grpB, flZ_single, List.append_assoc] at h
  obtain ⟨u1, e1, h1⟩ := h.num r4 (by rw [p256_8]; omega) r5
  obtain ⟨u2, e2, h2⟩ := h1.num (by omega) (by rw [p256_1]; omega) (by omega)
  obtain ⟨u3, e3, h3⟩ := manyF_enc (f := fun t => mnumF b t 1) (enc := fun x : Int => leN 1 x.toNat) (At b) L (xs := g.members) (fun x hx t L h => by
    have := r1 x hx
    exact h.num (by omega) (by rw [p256_1]; omega) (by omega)) h2
  refine ⟨u3, ?_, h3⟩
  simp only [mgrpF, e1, e2, Option.bind_some]
  rw [show ((g.members.length : Nat) : Int).toNat = g.members.length from rfl, e3]
  rfl
theorem At.here {b : List UInt8} {t u : Nat} {M L : List UInt8} (h : At b t M) (hu : At M u L) : At b (t + u) L := by
  have h1 := h.len
  have h2 := hu.len
  exact ⟨by omega, by rw [← List.drop_drop, h.2, hu.2]⟩
theorem mentF_at {b : List UInt8} {t : Nat} {e : Entry} {L : List UInt8} (h : At b t (entB e ++ L)) (he : entOk e) : ∃ u, mentF b t = some (e, u) ∧ At b u L := by
  obtain ⟨r1, r2, r3, r4, r5, r6, r7⟩ := ent_rng he
  have e8 : (256 : Nat) ^ 8 = 18446744073709551616 := p256_8
  simp only [entB, flZ_cons, flZ_nil, byI_le (show 0 ≤ e.kind by omega) (show e.kind < 256 by omega), List.append_assoc, List.nil_append] at h
  obtain ⟨u1, e1, h1⟩ := h.num (by omega) (by rw [p256_1]; omega) (by omega)
  obtain ⟨u2, e2, h2⟩ := h1.num (by omega) (by omega) (by omega)
  obtain ⟨u3, e3, h3⟩ := h2.num (by omega) (by omega) (by omega)
  obtain ⟨u4, e4, h4⟩ := h3.num (by omega) (by omega) (by omega)
  obtain ⟨u5, e5, h5⟩ := h4.num (by omega) (by omega) (by omega)
  have fin : ∀ u, mentB b e.kind e.num e.view e.client e.serial u5 = some (e, u) → mentF b t = some (e, u) := fun u hu => by
    simp only [mentF, e1, e2, e3, e4, e5, Option.bind_some, hu, mentC]
    exact if_pos (if_pos he)
  obtain ⟨_, _, _, _, hk⟩ := he
  rcases hk with ⟨k1, k2, k3, k4⟩ | ⟨k1, k2, k3, _⟩
  · rw [if_neg (by omega)] at h5
    obtain ⟨u6, e6, h6⟩ := decOp_at (show Go.Sx.seg b u5 b.length = opB e.op ++ L from h5.seg) k2
    refine ⟨u5 + u6, fin _ ?_, ?_⟩
    · rw [mentB, if_pos k1, e6]
      have : e.grp = zgr := by
        have hm : e.grp.members = [] := List.eq_nil_of_length_eq_zero k4
        rw [gr_ext]; exact ⟨k3, hm⟩
      show some (_, _) = some (_, _)
      rw [← this]
    · rw [h5.seg] at h6; exact h5.here h6
  · rw [if_pos (by omega)] at h5
    obtain ⟨u6, e6, h6⟩ := mgrpF_at h5 k3
    refine ⟨u6, fin _ ?_, h6⟩
    rw [mentB, if_neg (by omega), if_pos k1, e6]
    show some (_, _) = some (_, _)
    rw [← k2]
theorem mpgF_at {b : List UInt8} {p : Page} (hp : 0 ≤ p.at_ ∧ p.at_ ≤ 4096 ∧ 1 ≤ p.ver ∧ p.ver ≤ 4611686018427387904 ∧ p.data.length ≤ 4096) (t : Nat) (L : List UInt8) (h : At b t (pgB p ++ L)) : ∃ u, mpgF b t = some (p, u) ∧ At b u L := by
  have e8 : (256 : Nat) ^ 8 = 18446744073709551616 := p256_8
  have e4_ : (256 : Nat) ^ 4 = 4294967296 := p256_4
  simp only [pgB, flZ_single, List.append_assoc] at h
  obtain ⟨u1, e1, h1⟩ := h.num (by omega) (by omega) (by omega)
  obtain ⟨u2, e2, h2⟩ := h1.num (by omega) (by omega) (by omega)
  obtain ⟨e3, h3⟩ := txF_at h2 (by omega)
  refine ⟨_, ?_, h3⟩
  simp only [mpgF, e1, e2, Option.bind_some, mtxF, e3, if_true, Option.map_some]
theorem mrowF_at {b : List UInt8} {r : Row} (hr : (1 ≤ r.client ∧ r.client ≤ 4611686018427387904) ∧ (1 ≤ r.serial ∧ r.serial ≤ 4611686018427387904) ∧ resOk r.result.code r.result.data.length = true) (t : Nat) (L : List UInt8) (h : At b t (rowBy r ++ L)) : ∃ u, mrowF b t = some (r, u) ∧ At b u L := by
  have e8 : (256 : Nat) ^ 8 = 18446744073709551616 := p256_8
  simp only [rowBy, flZ_cons, flZ_nil, List.append_assoc, List.nil_append] at h
  obtain ⟨u1, e1, h1⟩ := h.num (by omega) (by omega) (by omega)
  obtain ⟨u2, e2, h2⟩ := h1.num (by omega) (by omega) (by omega)
  obtain ⟨u3, e3, h3⟩ := decRes_at (show Go.Sx.seg b u2 b.length = resB r.result ++ L from h2.seg) hr.2.2
  refine ⟨u2 + u3, ?_, ?_⟩
  · simp only [mrowF, e1, e2, Option.bind_some, e3, Option.map_some]
  · rw [h2.seg] at h3; exact h2.here h3
theorem mstF_at {b : List UInt8} {t : Nat} {s : Stt} {L : List UInt8} (h : At b t (sttB s ++ L)) (hs : heldOk s) (hb : b.length ≤ 33554432) : ∃ u, mstF b t = some (s, u) ∧ At b u L := by
  have r := held_rng hs
  have e8 : (256 : Nat) ^ 8 = 18446744073709551616 := p256_8
  have e4_ : (256 : Nat) ^ 4 = 4294967296 := p256_4
  have q1 := r.num
  have q2 := r.bl
  have q3 := r.sz
  have q4 := r.pl
  have q5 := r.rl
  simp only [sttB, sttH, flZ_cons, flZ_nil, byI_le (show 0 ≤ (s.rows.length : Int) by omega) (show (s.rows.length : Int) < 256 by omega), List.append_assoc, List.nil_append] at h
  obtain ⟨u1, e1, h1⟩ := h.num (by omega) (by omega) (by omega)
  obtain ⟨u2, e2, h2⟩ := h1.num (by omega) (by omega) (by omega)
  obtain ⟨u3, e3, h3⟩ := h2.num (by omega) (by omega) (by omega)
  obtain ⟨u4, e4, h4⟩ := h3.num (by omega) (by omega) (by omega)
  obtain ⟨u5, e5, h5⟩ := manyF_enc (f := mpgF b) (enc := pgB) (At b) _ (xs := s.pages) (fun x hx t L h => mpgF_at (r.pg x hx) t L h) h4
  obtain ⟨u6, e6, h6⟩ := h5.num (by omega) (by rw [p256_1]; omega) (by omega)
  obtain ⟨u7, e7, h7⟩ := manyF_enc (f := mrowF b) (enc := rowBy) (At b) _ (xs := s.rows) (fun x hx t L h => mrowF_at (r.rw_ x hx) t L h) h6
  obtain ⟨u9, e9, h9⟩ := mgrpF_at h7 r.gr
  refine ⟨u9, ?_, h9⟩
  simp only [mstF, e1, e2, e3, e4, Option.bind_some]
  rw [show ((s.pages.length : Nat) : Int).toNat = s.pages.length from rfl, e5]
  simp only [Option.bind_some, e6]
  rw [show ((s.rows.length : Nat) : Int).toNat = s.rows.length from rfl, e7]
  simp only [Option.bind_some, e9, mstC]
  exact if_pos ⟨hs, Nat.le_trans h9.1 hb⟩
end Go.Proofs.YtdhdmbmknpjhbaaGreat
namespace Go.Proofs.YtdhdmbmknpjhbaaGreat
open Go Go.Sx Go.Proofs
theorem valN_leN4 {v : Nat} (h : v < 4294967296) : valN (leN 4 v) = v := by
  rw [leN4]
  simp only [valN]
  simp only [show (256 : Nat) ^ 1 = 256 from rfl, show (256 : Nat) ^ 2 = 65536 from rfl, show (256 : Nat) ^ 3 = 16777216 from rfl]
  have e : ∀ a : Nat, (UInt8.ofNat (a % 256)).toNat = a % 256 := fun a => by simp
  simp only [e]
  omega
theorem rdN_frame {F : List UInt8} {B : List UInt8} (hF : F = frameB B) (hB : B.length ≤ 16777216) {G : List UInt8} (hG : ∀ i : Nat, 12 ≤ i → i < 16 → G[i]? = F[i]?) (hl : 16 ≤ G.length) : rdN G = B.length := by
  have e : seg G 12 (12 + 4) = leN 4 B.length := by
    apply List.ext_getElem?
    intro i
    by_cases hi : i < 4
    · rw [seg, List.getElem?_drop, List.getElem?_take, if_pos (by omega), hG _ (by omega) (by omega), hF, frameB, sealB, headB]
      have h12 : ([80, 76, 4, 0] ++ leN 8 0 : List UInt8).length = 12 := by simp [leN_length]
      rw [List.append_assoc, List.append_assoc, List.getElem?_append_right (by omega), h12, show 12 + i - 12 = i by omega, List.getElem?_append_left (by rw [leN_length]; exact hi)]
    · rw [List.getElem?_eq_none (by rw [seg_length (by omega)]; omega), List.getElem?_eq_none (by rw [leN_length]; omega)]
  rw [rdN, e, valN_leN4 (by omega)]
end Go.Proofs.YtdhdmbmknpjhbaaGreat
namespace Go.Proofs.YtdhdmbmknpjhbaaGreat
open Go Go.Sx Go.Proofs
theorem wbodyo_ok (m : Msg) (s : Lie) (hm : MsgLen m) (hok : msgOk m) (hn : 0 ≤ m.nonce ∧ m.nonce < 18446744073709551616) (hlog : m.log.length < 100000) (hf : (bodyB m).length ≤ 16777216) : Ct Tryz.prog 45 [msgV m s] [] (msgQ m s)
    (fun u G Q => ∃ A cp, (bodyB m).length ≤ cp ∧ cp ≤ 9223372036854775807 ∧ u = .tuple #[.slice A (bodyB m).length cp, .bool true] ∧ G = [rowOf A cp (bodyB m)] ∧ Q = []) :=
  Ct.mono (wbody_all m s hm hok hn hlog) fun u G Q h => h.elim (fun h => h.2) (fun h => by omega)
theorem wbodyo_long (m : Msg) (s : Lie) (hm : MsgLen m) (hok : msgOk m) (hn : 0 ≤ m.nonce ∧ m.nonce < 18446744073709551616) (hlog : m.log.length < 100000) (hf : ¬ (bodyB m).length ≤ 16777216) : Ct Tryz.prog 45 [msgV m s] [] (msgQ m s)
    (fun u G Q => (∃ A n cp, u = .tuple #[.slice A n cp, .bool false]) ∧ G = [] ∧ Q = []) :=
  Ct.mono (wbody_all m s hm hok hn hlog) fun u G Q h => h.elim (fun h => by omega) (fun h => h.2)
theorem wchko_ok (m : Msg) (s : Lie) (hm : MsgLen m) (h : msgOk m) : Ct Tryz.prog 12 [msgV m s] [] (msgQ m s) (fun u G Q => u = .int .i64 0 ∧ G = [] ∧ Q = []) := by
  have := wchk_ct m s hm; rw [msgE_yes h] at this; exact this
theorem wchko_no (m : Msg) (s : Lie) (hm : MsgLen m) (h : ¬ msgOk m) : Ct Tryz.prog 12 [msgV m s] [] (msgQ m s) (fun u G Q => u = .int .i64 160 ∧ G = [] ∧ Q = []) := by
  have := wchk_ct m s hm; rw [msgE_no h] at this; exact this
def encFo (m : Msg) : Int × List UInt8 := if msgOk m then (if (bodyB m).length ≤ 16777216 then (0, frameB (bodyB m)) else (2, [])) else (160, [])
abbrev EncO (e : Int) (F : List UInt8) (u : Value) (G : List Own) (Q : List Pers) : Prop := ∃ A cp, F.length ≤ cp ∧ cp ≤ 9223372036854775807 ∧ u = .tuple #[.slice A F.length cp, .int .i64 e] ∧ G = [rowOf A cp F] ∧ Q = []
theorem wenco_bad (m : Msg) (s : Lie) (hm : MsgLen m) (h : ¬ msgOk m) : Ct Tryz.prog 16 [msgV m s] [] (msgQ m s) (EncO 160 []) := by
 refine Ct.intro Tryz.func16 rfl rfl rfl (fun c hc => ?_)
 refine GC.sr_ ?_; refine GL.step rfl (t_box rfl rfl rfl) (GL.ex fun b_t1 => ?_)
 iterate 2 refine GL.as_ rfl rfl ?_
 refine GL.nl_ ?_; refine GC.seq' ?_; refine GC.sr_ ?_; refine GL.step rfl (t_mem rfl (m_loadN (i := 0) rfl rfl ag_42 (vs := [_, _, _, _, _, _, _, _, _, _, _, _, _, _, _, _, _, _, _, _, _, _, _, _, _, _, _, _]) sz_42 ⟨rfl, rfl, rfl, rfl, rfl, rfl, rfl, rfl, rfl, rfl, rfl, rfl, rfl, rfl, rfl, rfl, rfl, rfl, rfl, rfl, rfl, rfl, rfl, rfl, rfl, rfl, rfl, rfl, trivial⟩)) ?_
 refine GL.step rfl (t_call rfl fn_12 rfl (is := []) (js := [0, 1, 2, 3, 4, 5, 6, 7]) rfl rfl (by exact wchko_no m s hm h)) (GL.ret ?_)
 rintro _ _ _ ⟨rfl, rfl, rfl⟩
 refine GL.as_ rfl rfl ?_; refine GL.nl_ ?_; refine GC.sr_ ?_; refine GL.mv_ rfl rfl ?_; refine GL.pure rfl (p_neq rfl rfl) ?_; refine GL.nl_ ?_; refine GC.cond_true rfl ?_; refine GC.sr_ ?_; refine GL.mv_ rfl rfl ?_
 iterate 2 refine GL.as_ rfl rfl ?_
 refine GL.nl_ ?_; refine GC.nilrow 5 1 ?_; refine GC.ret ?_
 refine fun a w h => Fin.back (rs := [.tmp 2, .tmp 3]) (vs := [_, _]) (is := [0]) (js := []) rfl ⟨rfl, rfl, trivial⟩ rfl rfl ?_ h
 clear h
 exact ⟨none, 0, by simp, by simp, rfl, rfl, rfl⟩
theorem wenco_ok (m : Msg) (s : Lie) (hm : MsgLen m) (hn : 0 ≤ m.nonce ∧ m.nonce < 18446744073709551616) (hlog : m.log.length < 100000) (h : msgOk m) (hf : (bodyB m).length ≤ 16777216) : Ct Tryz.prog 16 [msgV m s] [] (msgQ m s) (EncO 0 (frameB (bodyB m))) := by
 refine Ct.intro Tryz.func16 rfl rfl rfl (fun c hc => ?_)
 refine GC.sr_ ?_; refine GL.step rfl (t_box rfl rfl rfl) (GL.ex fun b_t1 => ?_)
 iterate 2 refine GL.as_ rfl rfl ?_
 refine GL.nl_ ?_; refine GC.seq' ?_; refine GC.sr_ ?_; refine GL.step rfl (t_mem rfl (m_loadN (i := 0) rfl rfl ag_42 (vs := [_, _, _, _, _, _, _, _, _, _, _, _, _, _, _, _, _, _, _, _, _, _, _, _, _, _, _, _]) sz_42 ⟨rfl, rfl, rfl, rfl, rfl, rfl, rfl, rfl, rfl, rfl, rfl, rfl, rfl, rfl, rfl, rfl, rfl, rfl, rfl, rfl, rfl, rfl, rfl, rfl, rfl, rfl, rfl, rfl, trivial⟩)) ?_
 refine GL.step rfl (t_call rfl fn_12 rfl (is := []) (js := [0, 1, 2, 3, 4, 5, 6, 7]) rfl rfl (by exact wchko_ok m s hm h)) (GL.ret ?_)
 rintro _ _ _ ⟨rfl, rfl, rfl⟩
 refine GL.as_ rfl rfl ?_; refine GL.nl_ ?_; refine GC.sr_ ?_; refine GL.mv_ rfl rfl ?_; refine GL.pure rfl (p_neq rfl rfl) ?_; refine GL.nl_ ?_; refine GC.cond_false rfl ?_
 refine GC.skip (?_ : GC _ _ _ _)
 refine GC.sr_ ?_; refine GL.step rfl (t_mem rfl (m_loadN (i := 0) rfl rfl ag_42 (vs := [_, _, _, _, _, _, _, _, _, _, _, _, _, _, _, _, _, _, _, _, _, _, _, _, _, _, _, _]) sz_42 ⟨rfl, rfl, rfl, rfl, rfl, rfl, rfl, rfl, rfl, rfl, rfl, rfl, rfl, rfl, rfl, rfl, rfl, rfl, rfl, rfl, rfl, rfl, rfl, rfl, rfl, rfl, rfl, rfl, trivial⟩)) ?_
 refine GL.step rfl (t_call rfl fn_45 rfl (is := []) (js := [0, 1, 2, 3, 4, 5, 6, 7]) rfl rfl (by exact wbodyo_ok m s hm h hn hlog hf)) (GL.ret ?_)
 rintro _ _ _ ⟨A14, cp14, l14, k14, rfl, rfl, rfl⟩
 refine GL.mv_ rfl rfl ?_
 iterate 2 refine GL.pure rfl (p_extract rfl rfl) ?_
 iterate 2 refine GL.as_ rfl rfl ?_
 refine GL.nl_ ?_; refine GC.seq' ?_; refine GC.sr_ ?_; refine GL.mv_ rfl rfl ?_; refine GL.pure rfl (p_not rfl) ?_; refine GL.nl_ ?_; refine GC.cond_false rfl ?_
 refine GC.skip (?_ : GC _ _ _ _)
 refine GC.sr_ ?_; refine GL.freezeB (i := 0) rfl ?_; refine GL.mv_ rfl rfl ?_; refine GL.pure rfl (p_build ze_55 of_55 rfl rfl) ?_; refine GL.step rfl (t_call rfl fn_46 rfl (is := []) (js := [0]) rfl rfl (by exact fwrite_ct _ (bodyB m) _ hf)) (GL.ret ?_)
 rintro _ _ _ ⟨A21, cp21, l21, k21, rfl, rfl, rfl⟩
 iterate 2 refine GL.pure rfl (p_extract rfl rfl) ?_
 iterate 2 refine GL.as_ rfl rfl ?_
 refine GL.nl_ ?_; refine GC.ret ?_
 refine fun a w h => Fin.back (rs := [.tmp 2, .tmp 3]) (vs := [_, _]) (is := [0]) (js := []) rfl ⟨rfl, rfl, trivial⟩ rfl rfl ?_ h
 clear h
 exact ⟨_, _, l21, k21, rfl, rfl, rfl⟩
end Go.Proofs.YtdhdmbmknpjhbaaGreat
