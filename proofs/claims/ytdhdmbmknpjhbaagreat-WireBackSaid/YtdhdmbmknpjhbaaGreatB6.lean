/- Texts of this claim, in one: what the law leans on (part 6). -/
import Derived.Test.YtdhdmbmknpjhbaaGreatB5
set_option linter.unusedVariables false
set_option linter.unusedSimpArgs false
set_option maxRecDepth 100000
namespace Go.Proofs.YtdhdmbmknpjhbaaGreat
open Go Go.Sx Go.Proofs
theorem wmsg_ct (p e_ : Nat) (A : Option Addr) (b : List UInt8) (cp : Nat) (hcp : b.length ≤ cp) (hcp' : cp ≤ 9223372036854775807) (hb : b.length ≤ 10000000000000) : CtP Tryz.prog 50 [.pointer (some ⟨p, 0, none⟩)] (leftG p e_ A b cp) [Pers.row Kd.u8 A b]
    (fun u G Q => ∃ (m : Msg) (s : Lie) (L' : List UInt8) (A' : Option Addr) (c' : Nat), wmsgF b = some (m, L') ∧ L'.length ≤ c' ∧ c' ≤ 9223372036854775807 ∧ u = msgV m s ∧ G = leftG p e_ A' L' c' ∧ Q = msgQ m s ++ [Pers.row Kd.u8 A' L']) (fun v => v = wFt ∧ wmsgF b = none) := by
 have hp1 : (256 : Nat) ^ 1 = 256 := p256_1
 have hp4 : (256 : Nat) ^ 4 = 4294967296 := p256_4
 refine CtP.intro Tryz.func50 rfl rfl rfl (fun c hc => ?_)
 refine GC.sr_ ?_; refine GL.step rfl (t_alloc rfl ze_42) (GL.ex fun b_t2 => ?_); refine GL.nl_ ?_; refine GC.seq' ?_; refine GC.regionXM (m := 18) (M := fun a w => ∃ v10 : Int, ∃ L10 : List UInt8, ∃ v15 : Int, ∃ L15 : List UInt8, ∃ v20 : Int, ∃ L20 : List UInt8, ∃ A20 : Option Addr, ∃ c20 : Nat, ∃ b_t3 : Nat, (wnumF 1 b = some (v10, L10) ∧ wnumF 8 L10 = some (v15, L15) ∧ wnumF 8 L15 = some (v20, L20) ∧ L20.length ≤ c20 ∧ c20 ≤ 9223372036854775807) ∧ St c 95 [(0, .pointer (some ⟨p, 0, none⟩)), (2, .pointer (some ⟨b_t2, 0, none⟩)), (3, .pointer (some ⟨b_t3, 0, none⟩))] [.cells p [.slice A20 L20.length c20] e_, .cells b_t3 [.int .u8 v10, .int .i64 (IntKind.i64.wrap v15), .int .i64 (IntKind.i64.wrap v20), .int .i64 0, .int .i64 0, .int .i64 0, .int .i64 0, .int .i64 0, .int .u64 0, .int .i64 0, .int .i64 0, .int .u8 0, .int .i64 0, .int .i64 0, .slice none 0 0, .slice none 0 0, .int .u8 0, .slice none 0 0, .int .i64 0, .slice none 0 0, .int .i64 0, .int .i64 0, .int .i64 0, .slice none 0 0, .slice none 0 0, .int .i64 0, .slice none 0 0, .slice none 0 0] 42, .cells b_t2 [.int .u8 0, .int .i64 0, .int .i64 0, .int .i64 0, .int .i64 0, .int .i64 0, .int .i64 0, .int .i64 0, .int .u64 0, .int .i64 0, .int .i64 0, .int .u8 0, .int .i64 0, .int .i64 0, .slice none 0 0, .slice none 0 0, .int .u8 0, .slice none 0 0, .int .i64 0, .slice none 0 0, .int .i64 0, .int .i64 0, .int .i64 0, .slice none 0 0, .slice none 0 0, .int .i64 0, .slice none 0 0, .slice none 0 0] 42] [Pers.row Kd.u8 A20 L20] a w) (is := [0]) (js := [0]) wide_ rfl rfl rfl (fun _ _ _ hd hp hD => ⟨hd.trans hD, .inr hp⟩) ?_ ?_
 ·refine GX.take 0 rfl (by kernel_rfl) (by kernel_rfl) (by kernel_rfl) rfl (fun a w h => h.mem (is := [0]) (js := [0]) rfl rfl) (i_pure (p_move rfl)) ?_
  refine GX.take 1 rfl (by kernel_rfl) (by kernel_rfl) (by kernel_rfl) rfl (fun a w h => h.mem (is := [0]) (js := [0]) rfl rfl) (i_pure (p_nilCheck rfl)) ?_
  refine GX.take 2 rfl (by kernel_rfl) (by kernel_rfl) (by kernel_rfl) rfl (fun a w h => h.mem (is := [0]) (js := [0]) rfl rfl) (i_pure (p_fieldAddr fo_96_0 rfl)) ?_
  refine GX.take 5 rfl (by kernel_rfl) (by kernel_rfl) (by kernel_rfl) rfl (fun a w h => h.mem (is := [0]) (js := [0]) rfl rfl) (i_pure (p_move rfl)) ?_
  refine GX.take 6 rfl (by kernel_rfl) (by kernel_rfl) (by kernel_rfl) rfl (fun a w h => h.mem (is := [0]) (js := [0]) rfl rfl) (i_pure (p_nilCheck rfl)) ?_
  refine GX.take 7 rfl (by kernel_rfl) (by kernel_rfl) (by kernel_rfl) rfl (fun a w h => h.mem (is := [0]) (js := [0]) rfl rfl) (i_pure (p_fieldAddr fo_96_0 rfl)) ?_
  refine GX.take 10 rfl (by kernel_rfl) (by kernel_rfl) (by kernel_rfl) rfl (fun a w h => h.mem (is := [0]) (js := [0]) rfl rfl) (i_pure (p_move rfl)) ?_
  refine GX.take 11 rfl (by kernel_rfl) (by kernel_rfl) (by kernel_rfl) rfl (fun a w h => h.mem (is := [0]) (js := [0]) rfl rfl) (i_pure (p_nilCheck rfl)) ?_
  refine GX.take 12 rfl (by kernel_rfl) (by kernel_rfl) (by kernel_rfl) rfl (fun a w h => h.mem (is := [0]) (js := [0]) rfl rfl) (i_pure (p_fieldAddr fo_96_0 rfl)) ?_
  refine GX.all (rs := [3, 16]) (by kernel_rfl) (by simp) ?_
  refine GXs.consP (i := 3) rfl rfl fn_93 rfl (is := [1]) (js := [0]) rfl rfl (by exact (wnum_ct _ _ _ b _ 1 (by omega) (by omega) hcp hcp' (by omega)).mono (fun _ _ _ h => h) (fun _ h => ⟨h.1, by simp only [wmsgF, h.2, Option.bind_none]⟩)) (by rintro a w ⟨_, _, _, ⟨v10, L10, A10, c10, hs10, l10, k10, rfl, rfl, rfl⟩, h⟩; exact h.mem (is := [1]) (js := [1]) rfl rfl) (GX.ret ?_) ?_
  ·rintro _ _ _ ⟨v10, L10, A10, c10, hs10, l10, k10, rfl, rfl, rfl⟩
   obtain ⟨hv10, hw10, hx10⟩ := wnumF_rng hs10
   refine GX.take 4 rfl (by kernel_rfl) (by kernel_rfl) (by kernel_rfl) rfl (fun a w h => h.mem (is := [1]) (js := [1]) rfl rfl) (i_pure (p_convR (t := 23) (r := v10) (by rw [Tryz.underlying23]; simp) Tryz.underlying22 rfl (by simp [IntKind.wrap, IntKind.bits, IntKind.signed]; omega))) ?_
   refine GX.all (rs := [8, 16]) (by kernel_rfl) (by simp) ?_
   refine GXs.consP (i := 8) rfl rfl fn_93 rfl (is := [0]) (js := [0]) rfl rfl (by exact (wnum_ct _ _ _ L10 _ 8 (by omega) (by omega) l10 k10 (by omega)).mono (fun _ _ _ h => h) (fun _ h => ⟨h.1, by simp only [wmsgF, hs10, Option.bind_some, h.2, Option.bind_none]⟩)) (by rintro a w ⟨_, _, _, ⟨v15, L15, A15, c15, hs15, l15, k15, rfl, rfl, rfl⟩, h⟩; exact h.mem (is := [1]) (js := [2]) rfl rfl) (GX.ret ?_) ?_
   ·rintro _ _ _ ⟨v15, L15, A15, c15, hs15, l15, k15, rfl, rfl, rfl⟩
    obtain ⟨hv15, hw15, hx15⟩ := wnumF_rng hs15
    refine GX.take 9 rfl (by kernel_rfl) (by kernel_rfl) (by kernel_rfl) rfl (fun a w h => h.mem (is := [1]) (js := [2]) rfl rfl) (i_pure (p_conv (t := 23) (by rw [Tryz.underlying23]; simp) Tryz.underlying2 rfl)) ?_
    refine GX.all (rs := [13, 16]) (by kernel_rfl) (by simp) ?_
    refine GXs.consP (i := 13) rfl rfl fn_93 rfl (is := [0]) (js := [0]) rfl rfl (by exact (wnum_ct _ _ _ L15 _ 8 (by omega) (by omega) l15 k15 (by omega)).mono (fun _ _ _ h => h) (fun _ h => ⟨h.1, by simp only [wmsgF, hs10, hs15, Option.bind_some, h.2, Option.bind_none]⟩)) (by rintro a w ⟨_, _, _, ⟨v20, L20, A20, c20, hs20, l20, k20, rfl, rfl, rfl⟩, h⟩; exact h.mem (is := [1]) (js := [3]) rfl rfl) (GX.ret ?_) ?_
    ·rintro _ _ _ ⟨v20, L20, A20, c20, hs20, l20, k20, rfl, rfl, rfl⟩
     obtain ⟨hv20, hw20, hx20⟩ := wnumF_rng hs20
     refine GX.take 14 rfl (by kernel_rfl) (by kernel_rfl) (by kernel_rfl) rfl (fun a w h => h.mem (is := [1]) (js := [3]) rfl rfl) (i_pure (p_conv (t := 23) (by rw [Tryz.underlying23]; simp) Tryz.underlying2 rfl)) ?_
     refine GX.take 15 rfl (by kernel_rfl) (by kernel_rfl) (by kernel_rfl) rfl (fun a w h => h.mem (is := [1]) (js := [3]) rfl rfl) (i_pure (p_build ze_42 of_42 rfl rfl)) ?_
     refine GX.all (rs := [16]) (by kernel_rfl) (by simp) ?_
     refine GXs.cons (i := 16) rfl rfl (t_alloc rfl ze_42) (by rintro a w ⟨_, h⟩; exact h.mem (is := [2]) (js := [3]) rfl rfl) (GX.ex fun b_t3 => ?_) ?_
     ·refine GX.all (rs := [17]) (by kernel_rfl) (by simp) ?_
      refine GXs.cons (i := 17) rfl rfl (t_storeN (i := 0) rfl rfl rfl sz_42 rfl rfl rfl) (by rintro a w h; exact h.mem (is := [2]) (js := [3]) rfl rfl) ?_ ?_
      ·exact GX.done (by kernel_rfl) (fun a w h => ⟨_, _, _, _, _, _, _, _, _, ⟨hs10, hs15, hs20, l20, k20⟩, h.cut (is := [1, 0, 0]) (js := [0]) ⟨rfl, rfl, rfl, trivial⟩ rfl rfl⟩)
      exact GXs.nil
     exact GXs.nil
    refine GXs.cons (i := 16) rfl rfl (t_alloc rfl ze_42) (by rintro a w ⟨_, h⟩; exact h.mem (is := [2]) (js := [2]) rfl rfl) (GX.ex fun b_t3 => ?_) ?_
    ·refine GX.all (rs := [13]) (by kernel_rfl) (by simp) ?_
     refine GXs.consP (i := 13) rfl rfl fn_93 rfl (is := [1]) (js := [0]) rfl rfl (by exact (wnum_ct _ _ _ L15 _ 8 (by omega) (by omega) l15 k15 (by omega)).mono (fun _ _ _ h => h) (fun _ h => ⟨h.1, by simp only [wmsgF, hs10, hs15, Option.bind_some, h.2, Option.bind_none]⟩)) (by rintro a w ⟨_, _, _, ⟨v20, L20, A20, c20, hs20, l20, k20, rfl, rfl, rfl⟩, h⟩; exact h.mem (is := [2]) (js := [3]) rfl rfl) (GX.ret ?_) ?_
     ·rintro _ _ _ ⟨v20, L20, A20, c20, hs20, l20, k20, rfl, rfl, rfl⟩
      obtain ⟨hv20, hw20, hx20⟩ := wnumF_rng hs20
      refine GX.take 14 rfl (by kernel_rfl) (by kernel_rfl) (by kernel_rfl) rfl (fun a w h => h.mem (is := [2]) (js := [3]) rfl rfl) (i_pure (p_conv (t := 23) (by rw [Tryz.underlying23]; simp) Tryz.underlying2 rfl)) ?_
      refine GX.take 15 rfl (by kernel_rfl) (by kernel_rfl) (by kernel_rfl) rfl (fun a w h => h.mem (is := [2]) (js := [3]) rfl rfl) (i_pure (p_build ze_42 of_42 rfl rfl)) ?_
      refine GX.all (rs := [17]) (by kernel_rfl) (by simp) ?_
      refine GXs.cons (i := 17) rfl rfl (t_storeN (i := 1) rfl rfl rfl sz_42 rfl rfl rfl) (by rintro a w h; exact h.mem (is := [2]) (js := [3]) rfl rfl) ?_ ?_
      ·exact GX.done (by kernel_rfl) (fun a w h => ⟨_, _, _, _, _, _, _, _, _, ⟨hs10, hs15, hs20, l20, k20⟩, h.cut (is := [0, 0, 0]) (js := [0]) ⟨rfl, rfl, rfl, trivial⟩ rfl rfl⟩)
      exact GXs.nil
     exact GXs.nil
    exact GXs.nil
   refine GXs.cons (i := 16) rfl rfl (t_alloc rfl ze_42) (by rintro a w ⟨_, h⟩; exact h.mem (is := [2]) (js := [1]) rfl rfl) (GX.ex fun b_t3 => ?_) ?_
   ·refine GX.all (rs := [8]) (by kernel_rfl) (by simp) ?_
    refine GXs.consP (i := 8) rfl rfl fn_93 rfl (is := [1]) (js := [0]) rfl rfl (by exact (wnum_ct _ _ _ L10 _ 8 (by omega) (by omega) l10 k10 (by omega)).mono (fun _ _ _ h => h) (fun _ h => ⟨h.1, by simp only [wmsgF, hs10, Option.bind_some, h.2, Option.bind_none]⟩)) (by rintro a w ⟨_, _, _, ⟨v15, L15, A15, c15, hs15, l15, k15, rfl, rfl, rfl⟩, h⟩; exact h.mem (is := [2]) (js := [2]) rfl rfl) (GX.ret ?_) ?_
    ·rintro _ _ _ ⟨v15, L15, A15, c15, hs15, l15, k15, rfl, rfl, rfl⟩
     obtain ⟨hv15, hw15, hx15⟩ := wnumF_rng hs15
     refine GX.take 9 rfl (by kernel_rfl) (by kernel_rfl) (by kernel_rfl) rfl (fun a w h => h.mem (is := [2]) (js := [2]) rfl rfl) (i_pure (p_conv (t := 23) (by rw [Tryz.underlying23]; simp) Tryz.underlying2 rfl)) ?_
     refine GX.all (rs := [13]) (by kernel_rfl) (by simp) ?_
     refine GXs.consP (i := 13) rfl rfl fn_93 rfl (is := [0]) (js := [0]) rfl rfl (by exact (wnum_ct _ _ _ L15 _ 8 (by omega) (by omega) l15 k15 (by omega)).mono (fun _ _ _ h => h) (fun _ h => ⟨h.1, by simp only [wmsgF, hs10, hs15, Option.bind_some, h.2, Option.bind_none]⟩)) (by rintro a w ⟨_, _, _, ⟨v20, L20, A20, c20, hs20, l20, k20, rfl, rfl, rfl⟩, h⟩; exact h.mem (is := [2]) (js := [3]) rfl rfl) (GX.ret ?_) ?_
     ·rintro _ _ _ ⟨v20, L20, A20, c20, hs20, l20, k20, rfl, rfl, rfl⟩
      obtain ⟨hv20, hw20, hx20⟩ := wnumF_rng hs20
      refine GX.take 14 rfl (by kernel_rfl) (by kernel_rfl) (by kernel_rfl) rfl (fun a w h => h.mem (is := [2]) (js := [3]) rfl rfl) (i_pure (p_conv (t := 23) (by rw [Tryz.underlying23]; simp) Tryz.underlying2 rfl)) ?_
      refine GX.take 15 rfl (by kernel_rfl) (by kernel_rfl) (by kernel_rfl) rfl (fun a w h => h.mem (is := [2]) (js := [3]) rfl rfl) (i_pure (p_build ze_42 of_42 rfl rfl)) ?_
      refine GX.all (rs := [17]) (by kernel_rfl) (by simp) ?_
      refine GXs.cons (i := 17) rfl rfl (t_storeN (i := 1) rfl rfl rfl sz_42 rfl rfl rfl) (by rintro a w h; exact h.mem (is := [2]) (js := [3]) rfl rfl) ?_ ?_
      ·exact GX.done (by kernel_rfl) (fun a w h => ⟨_, _, _, _, _, _, _, _, _, ⟨hs10, hs15, hs20, l20, k20⟩, h.cut (is := [0, 0, 0]) (js := [0]) ⟨rfl, rfl, rfl, trivial⟩ rfl rfl⟩)
      exact GXs.nil
     exact GXs.nil
    exact GXs.nil
   exact GXs.nil
  refine GXs.cons (i := 16) rfl rfl (t_alloc rfl ze_42) (by rintro a w ⟨_, h⟩; exact h.mem (is := [1]) (js := [0]) rfl rfl) (GX.ex fun b_t3 => ?_) ?_
  ·refine GX.all (rs := [3]) (by kernel_rfl) (by simp) ?_
   refine GXs.consP (i := 3) rfl rfl fn_93 rfl (is := [2]) (js := [0]) rfl rfl (by exact (wnum_ct _ _ _ b _ 1 (by omega) (by omega) hcp hcp' (by omega)).mono (fun _ _ _ h => h) (fun _ h => ⟨h.1, by simp only [wmsgF, h.2, Option.bind_none]⟩)) (by rintro a w ⟨_, _, _, ⟨v10, L10, A10, c10, hs10, l10, k10, rfl, rfl, rfl⟩, h⟩; exact h.mem (is := [2]) (js := [1]) rfl rfl) (GX.ret ?_) ?_
   ·rintro _ _ _ ⟨v10, L10, A10, c10, hs10, l10, k10, rfl, rfl, rfl⟩
    obtain ⟨hv10, hw10, hx10⟩ := wnumF_rng hs10
    refine GX.take 4 rfl (by kernel_rfl) (by kernel_rfl) (by kernel_rfl) rfl (fun a w h => h.mem (is := [2]) (js := [1]) rfl rfl) (i_pure (p_convR (t := 23) (r := v10) (by rw [Tryz.underlying23]; simp) Tryz.underlying22 rfl (by simp [IntKind.wrap, IntKind.bits, IntKind.signed]; omega))) ?_
    refine GX.all (rs := [8]) (by kernel_rfl) (by simp) ?_
    refine GXs.consP (i := 8) rfl rfl fn_93 rfl (is := [0]) (js := [0]) rfl rfl (by exact (wnum_ct _ _ _ L10 _ 8 (by omega) (by omega) l10 k10 (by omega)).mono (fun _ _ _ h => h) (fun _ h => ⟨h.1, by simp only [wmsgF, hs10, Option.bind_some, h.2, Option.bind_none]⟩)) (by rintro a w ⟨_, _, _, ⟨v15, L15, A15, c15, hs15, l15, k15, rfl, rfl, rfl⟩, h⟩; exact h.mem (is := [2]) (js := [2]) rfl rfl) (GX.ret ?_) ?_
    ·rintro _ _ _ ⟨v15, L15, A15, c15, hs15, l15, k15, rfl, rfl, rfl⟩
     obtain ⟨hv15, hw15, hx15⟩ := wnumF_rng hs15
     refine GX.take 9 rfl (by kernel_rfl) (by kernel_rfl) (by kernel_rfl) rfl (fun a w h => h.mem (is := [2]) (js := [2]) rfl rfl) (i_pure (p_conv (t := 23) (by rw [Tryz.underlying23]; simp) Tryz.underlying2 rfl)) ?_
     refine GX.all (rs := [13]) (by kernel_rfl) (by simp) ?_
     refine GXs.consP (i := 13) rfl rfl fn_93 rfl (is := [0]) (js := [0]) rfl rfl (by exact (wnum_ct _ _ _ L15 _ 8 (by omega) (by omega) l15 k15 (by omega)).mono (fun _ _ _ h => h) (fun _ h => ⟨h.1, by simp only [wmsgF, hs10, hs15, Option.bind_some, h.2, Option.bind_none]⟩)) (by rintro a w ⟨_, _, _, ⟨v20, L20, A20, c20, hs20, l20, k20, rfl, rfl, rfl⟩, h⟩; exact h.mem (is := [2]) (js := [3]) rfl rfl) (GX.ret ?_) ?_
     ·rintro _ _ _ ⟨v20, L20, A20, c20, hs20, l20, k20, rfl, rfl, rfl⟩
      obtain ⟨hv20, hw20, hx20⟩ := wnumF_rng hs20
      refine GX.take 14 rfl (by kernel_rfl) (by kernel_rfl) (by kernel_rfl) rfl (fun a w h => h.mem (is := [2]) (js := [3]) rfl rfl) (i_pure (p_conv (t := 23) (by rw [Tryz.underlying23]; simp) Tryz.underlying2 rfl)) ?_
      refine GX.take 15 rfl (by kernel_rfl) (by kernel_rfl) (by kernel_rfl) rfl (fun a w h => h.mem (is := [2]) (js := [3]) rfl rfl) (i_pure (p_build ze_42 of_42 rfl rfl)) ?_
      refine GX.all (rs := [17]) (by kernel_rfl) (by simp) ?_
      refine GXs.cons (i := 17) rfl rfl (t_storeN (i := 1) rfl rfl rfl sz_42 rfl rfl rfl) (by rintro a w h; exact h.mem (is := [2]) (js := [3]) rfl rfl) ?_ ?_
      ·exact GX.done (by kernel_rfl) (fun a w h => ⟨_, _, _, _, _, _, _, _, _, ⟨hs10, hs15, hs20, l20, k20⟩, h.cut (is := [0, 0, 0]) (js := [0]) ⟨rfl, rfl, rfl, trivial⟩ rfl rfl⟩)
      exact GXs.nil
     exact GXs.nil
    exact GXs.nil
   exact GXs.nil
  exact GXs.nil
 ·refine (?_ : GC _ _ _ _)
  refine GC.ex fun v10 => GC.ex fun L10 => GC.ex fun v15 => GC.ex fun L15 => GC.ex fun v20 => GC.ex fun L20 => GC.ex fun A20 => GC.ex fun c20 => GC.ex fun b_t3 => GC.and fun ⟨hs10, hs15, hs20, l20, k20⟩ => ?_; refine GC.seq' ?_
  obtain ⟨hv10, hw10, hx10⟩ := wnumF_rng hs10
  obtain ⟨hv15, hw15, hx15⟩ := wnumF_rng hs15
  obtain ⟨hv20, hw20, hx20⟩ := wnumF_rng hs20
  refine GC.regionXM (m := 30) (M := fun a w => ∃ v26 : Int, ∃ L26 : List UInt8, ∃ v30 : Int, ∃ L30 : List UInt8, ∃ v34 : Int, ∃ L34 : List UInt8, ∃ v38 : Int, ∃ L38 : List UInt8, ∃ v42 : Int, ∃ L42 : List UInt8, ∃ A42 : Option Addr, ∃ c42 : Nat, (wsmF L20 = some (v26, L26) ∧ wsmF L26 = some (v30, L30) ∧ wsmF L30 = some (v34, L34) ∧ wsmF L34 = some (v38, L38) ∧ wsmF L38 = some (v42, L42) ∧ L42.length ≤ c42 ∧ c42 ≤ 9223372036854775807) ∧ St c 95 [(0, .pointer (some ⟨p, 0, none⟩)), (2, .pointer (some ⟨b_t2, 0, none⟩)), (3, .pointer (some ⟨b_t3, 0, none⟩))] [.cells p [.slice A42 L42.length c42] e_, .cells b_t3 [.int .u8 v10, .int .i64 (IntKind.i64.wrap v15), .int .i64 (IntKind.i64.wrap v20), .int .i64 v26, .int .i64 v30, .int .i64 v34, .int .i64 v38, .int .i64 v42, .int .u64 0, .int .i64 0, .int .i64 0, .int .u8 0, .int .i64 0, .int .i64 0, .slice none 0 0, .slice none 0 0, .int .u8 0, .slice none 0 0, .int .i64 0, .slice none 0 0, .int .i64 0, .int .i64 0, .int .i64 0, .slice none 0 0, .slice none 0 0, .int .i64 0, .slice none 0 0, .slice none 0 0] 42, .cells b_t2 [.int .u8 0, .int .i64 0, .int .i64 0, .int .i64 0, .int .i64 0, .int .i64 0, .int .i64 0, .int .i64 0, .int .u64 0, .int .i64 0, .int .i64 0, .int .u8 0, .int .i64 0, .int .i64 0, .slice none 0 0, .slice none 0 0, .int .u8 0, .slice none 0 0, .int .i64 0, .slice none 0 0, .int .i64 0, .int .i64 0, .int .i64 0, .slice none 0 0, .slice none 0 0, .int .i64 0, .slice none 0 0, .slice none 0 0] 42] [Pers.row Kd.u8 A42 L42] a w) (is := [2]) (js := [0]) wide_ rfl rfl rfl (fun _ _ _ hd hp hD => ⟨hd.trans hD, .inr hp⟩) ?_ ?_
  ·refine GX.take 0 rfl (by kernel_rfl) (by kernel_rfl) (by kernel_rfl) rfl (fun a w h => h.mem (is := [2]) (js := [0]) rfl rfl) (i_pure (p_move rfl)) ?_
   refine GX.take 1 rfl (by kernel_rfl) (by kernel_rfl) (by kernel_rfl) rfl (fun a w h => h.mem (is := [2]) (js := [0]) rfl rfl) (i_pure (p_nilCheck rfl)) ?_
   refine GX.take 2 rfl (by kernel_rfl) (by kernel_rfl) (by kernel_rfl) rfl (fun a w h => h.mem (is := [2]) (js := [0]) rfl rfl) (i_pure (p_fieldAddr fo_96_0 rfl)) ?_
   refine GX.take 4 rfl (by kernel_rfl) (by kernel_rfl) (by kernel_rfl) rfl (fun a w h => h.mem (is := [2]) (js := [0]) rfl rfl) (i_pure (p_move rfl)) ?_
   refine GX.take 5 rfl (by kernel_rfl) (by kernel_rfl) (by kernel_rfl) rfl (fun a w h => h.mem (is := [2]) (js := [0]) rfl rfl) (i_pure (p_nilCheck rfl)) ?_
   refine GX.take 6 rfl (by kernel_rfl) (by kernel_rfl) (by kernel_rfl) rfl (fun a w h => h.mem (is := [2]) (js := [0]) rfl rfl) (i_pure (p_fieldAddr fo_96_0 rfl)) ?_
   refine GX.take 8 rfl (by kernel_rfl) (by kernel_rfl) (by kernel_rfl) rfl (fun a w h => h.mem (is := [2]) (js := [0]) rfl rfl) (i_pure (p_move rfl)) ?_
   refine GX.take 9 rfl (by kernel_rfl) (by kernel_rfl) (by kernel_rfl) rfl (fun a w h => h.mem (is := [2]) (js := [0]) rfl rfl) (i_pure (p_nilCheck rfl)) ?_
   refine GX.take 10 rfl (by kernel_rfl) (by kernel_rfl) (by kernel_rfl) rfl (fun a w h => h.mem (is := [2]) (js := [0]) rfl rfl) (i_pure (p_fieldAddr fo_96_0 rfl)) ?_
   refine GX.take 12 rfl (by kernel_rfl) (by kernel_rfl) (by kernel_rfl) rfl (fun a w h => h.mem (is := [2]) (js := [0]) rfl rfl) (i_pure (p_move rfl)) ?_
   refine GX.take 13 rfl (by kernel_rfl) (by kernel_rfl) (by kernel_rfl) rfl (fun a w h => h.mem (is := [2]) (js := [0]) rfl rfl) (i_pure (p_nilCheck rfl)) ?_
   refine GX.take 14 rfl (by kernel_rfl) (by kernel_rfl) (by kernel_rfl) rfl (fun a w h => h.mem (is := [2]) (js := [0]) rfl rfl) (i_pure (p_fieldAddr fo_96_0 rfl)) ?_
   refine GX.take 16 rfl (by kernel_rfl) (by kernel_rfl) (by kernel_rfl) rfl (fun a w h => h.mem (is := [2]) (js := [0]) rfl rfl) (i_pure (p_move rfl)) ?_
   refine GX.take 17 rfl (by kernel_rfl) (by kernel_rfl) (by kernel_rfl) rfl (fun a w h => h.mem (is := [2]) (js := [0]) rfl rfl) (i_pure (p_nilCheck rfl)) ?_
   refine GX.take 18 rfl (by kernel_rfl) (by kernel_rfl) (by kernel_rfl) rfl (fun a w h => h.mem (is := [2]) (js := [0]) rfl rfl) (i_pure (p_fieldAddr fo_96_0 rfl)) ?_
   refine GX.all (rs := [3]) (by kernel_rfl) (by simp) ?_
   refine GXs.consP (i := 3) rfl rfl fn_94 rfl (is := [0]) (js := [0]) rfl rfl (by exact (wsm_ct _ _ _ L20 _ l20 k20 (by omega)).mono (fun _ _ _ h => h) (fun _ h => ⟨h.1, by simp only [wmsgF, hs10, hs15, hs20, Option.bind_some, h.2, Option.bind_none]⟩)) (by rintro a w ⟨_, _, _, ⟨v26, L26, A26, c26, hs26, l26, k26, rfl, rfl, rfl⟩, h⟩; exact h.mem (is := [2]) (js := [1]) rfl rfl) (GX.ret ?_) ?_
   ·rintro _ _ _ ⟨v26, L26, A26, c26, hs26, l26, k26, rfl, rfl, rfl⟩
    obtain ⟨hv26, hw26, hx26⟩ := wsmF_rng hs26
    refine GX.all (rs := [7]) (by kernel_rfl) (by simp) ?_
    refine GXs.consP (i := 7) rfl rfl fn_94 rfl (is := [0]) (js := [0]) rfl rfl (by exact (wsm_ct _ _ _ L26 _ l26 k26 (by omega)).mono (fun _ _ _ h => h) (fun _ h => ⟨h.1, by simp only [wmsgF, hs10, hs15, hs20, hs26, Option.bind_some, h.2, Option.bind_none]⟩)) (by rintro a w ⟨_, _, _, ⟨v30, L30, A30, c30, hs30, l30, k30, rfl, rfl, rfl⟩, h⟩; exact h.mem (is := [2]) (js := [2]) rfl rfl) (GX.ret ?_) ?_
    ·rintro _ _ _ ⟨v30, L30, A30, c30, hs30, l30, k30, rfl, rfl, rfl⟩
     obtain ⟨hv30, hw30, hx30⟩ := wsmF_rng hs30
     refine GX.all (rs := [11]) (by kernel_rfl) (by simp) ?_
     refine GXs.consP (i := 11) rfl rfl fn_94 rfl (is := [0]) (js := [0]) rfl rfl (by exact (wsm_ct _ _ _ L30 _ l30 k30 (by omega)).mono (fun _ _ _ h => h) (fun _ h => ⟨h.1, by simp only [wmsgF, hs10, hs15, hs20, hs26, hs30, Option.bind_some, h.2, Option.bind_none]⟩)) (by rintro a w ⟨_, _, _, ⟨v34, L34, A34, c34, hs34, l34, k34, rfl, rfl, rfl⟩, h⟩; exact h.mem (is := [2]) (js := [3]) rfl rfl) (GX.ret ?_) ?_
     ·rintro _ _ _ ⟨v34, L34, A34, c34, hs34, l34, k34, rfl, rfl, rfl⟩
      obtain ⟨hv34, hw34, hx34⟩ := wsmF_rng hs34
      refine GX.all (rs := [15]) (by kernel_rfl) (by simp) ?_
      refine GXs.consP (i := 15) rfl rfl fn_94 rfl (is := [0]) (js := [0]) rfl rfl (by exact (wsm_ct _ _ _ L34 _ l34 k34 (by omega)).mono (fun _ _ _ h => h) (fun _ h => ⟨h.1, by simp only [wmsgF, hs10, hs15, hs20, hs26, hs30, hs34, Option.bind_some, h.2, Option.bind_none]⟩)) (by rintro a w ⟨_, _, _, ⟨v38, L38, A38, c38, hs38, l38, k38, rfl, rfl, rfl⟩, h⟩; exact h.mem (is := [2]) (js := [4]) rfl rfl) (GX.ret ?_) ?_
      ·rintro _ _ _ ⟨v38, L38, A38, c38, hs38, l38, k38, rfl, rfl, rfl⟩
       obtain ⟨hv38, hw38, hx38⟩ := wsmF_rng hs38
       refine GX.all (rs := [19]) (by kernel_rfl) (by simp) ?_
       refine GXs.consP (i := 19) rfl rfl fn_94 rfl (is := [0]) (js := [0]) rfl rfl (by exact (wsm_ct _ _ _ L38 _ l38 k38 (by omega)).mono (fun _ _ _ h => h) (fun _ h => ⟨h.1, by simp only [wmsgF, hs10, hs15, hs20, hs26, hs30, hs34, hs38, Option.bind_some, h.2, Option.bind_none]⟩)) (by rintro a w ⟨_, _, _, ⟨v42, L42, A42, c42, hs42, l42, k42, rfl, rfl, rfl⟩, h⟩; exact h.mem (is := [2]) (js := [5]) rfl rfl) (GX.ret ?_) ?_
       ·rintro _ _ _ ⟨v42, L42, A42, c42, hs42, l42, k42, rfl, rfl, rfl⟩
        obtain ⟨hv42, hw42, hx42⟩ := wsmF_rng hs42
        refine GX.take 20 rfl (by kernel_rfl) (by kernel_rfl) (by kernel_rfl) rfl (fun a w h => h.mem (is := [2]) (js := [5]) rfl rfl) (i_pure (p_fieldAddr fo_42_3 rfl)) ?_
        refine GX.all (rs := [21]) (by kernel_rfl) (by simp) ?_
        refine GXs.cons (i := 21) rfl rfl (t_store (i := 1) rfl rfl rfl rfl sz_3 rfl rfl rfl) (by rintro a w h; exact h.mem (is := [2]) (js := [5]) rfl rfl) ?_ ?_
        ·refine GX.take 22 rfl (by kernel_rfl) (by kernel_rfl) (by kernel_rfl) rfl (fun a w h => h.mem (is := [2]) (js := [5]) rfl rfl) (i_pure (p_fieldAddr fo_42_4 rfl)) ?_
         refine GX.all (rs := [23]) (by kernel_rfl) (by simp) ?_
         refine GXs.cons (i := 23) rfl rfl (t_store (i := 1) rfl rfl rfl rfl sz_3 rfl rfl rfl) (by rintro a w h; exact h.mem (is := [2]) (js := [5]) rfl rfl) ?_ ?_
         ·refine GX.take 24 rfl (by kernel_rfl) (by kernel_rfl) (by kernel_rfl) rfl (fun a w h => h.mem (is := [2]) (js := [5]) rfl rfl) (i_pure (p_fieldAddr fo_42_5 rfl)) ?_
          refine GX.all (rs := [25]) (by kernel_rfl) (by simp) ?_
          refine GXs.cons (i := 25) rfl rfl (t_store (i := 1) rfl rfl rfl rfl sz_3 rfl rfl rfl) (by rintro a w h; exact h.mem (is := [2]) (js := [5]) rfl rfl) ?_ ?_
          ·refine GX.take 26 rfl (by kernel_rfl) (by kernel_rfl) (by kernel_rfl) rfl (fun a w h => h.mem (is := [2]) (js := [5]) rfl rfl) (i_pure (p_fieldAddr fo_42_6 rfl)) ?_
           refine GX.all (rs := [27]) (by kernel_rfl) (by simp) ?_
           refine GXs.cons (i := 27) rfl rfl (t_store (i := 1) rfl rfl rfl rfl sz_3 rfl rfl rfl) (by rintro a w h; exact h.mem (is := [2]) (js := [5]) rfl rfl) ?_ ?_
           ·refine GX.take 28 rfl (by kernel_rfl) (by kernel_rfl) (by kernel_rfl) rfl (fun a w h => h.mem (is := [2]) (js := [5]) rfl rfl) (i_pure (p_fieldAddr fo_42_7 rfl)) ?_
            refine GX.all (rs := [29]) (by kernel_rfl) (by simp) ?_
            refine GXs.cons (i := 29) rfl rfl (t_store (i := 1) rfl rfl rfl rfl sz_3 rfl rfl rfl) (by rintro a w h; exact h.mem (is := [2]) (js := [5]) rfl rfl) ?_ ?_
            ·exact GX.done (by kernel_rfl) (fun a w h => ⟨_, _, _, _, _, _, _, _, _, _, _, _, ⟨hs26, hs30, hs34, hs38, hs42, l42, k42⟩, h.cut (is := [0, 0, 0]) (js := [0]) ⟨rfl, rfl, rfl, trivial⟩ rfl rfl⟩)
            exact GXs.nil
           exact GXs.nil
          exact GXs.nil
         exact GXs.nil
        exact GXs.nil
       exact GXs.nil
      exact GXs.nil
     exact GXs.nil
    exact GXs.nil
   exact GXs.nil
  ·refine (?_ : GC _ _ _ _)
   refine GC.ex fun v26 => GC.ex fun L26 => GC.ex fun v30 => GC.ex fun L30 => GC.ex fun v34 => GC.ex fun L34 => GC.ex fun v38 => GC.ex fun L38 => GC.ex fun v42 => GC.ex fun L42 => GC.ex fun A42 => GC.ex fun c42 => GC.and fun ⟨hs26, hs30, hs34, hs38, hs42, l42, k42⟩ => ?_
   refine GC.sr_ ?_
   obtain ⟨hv26, hw26, hx26⟩ := wsmF_rng hs26
   obtain ⟨hv30, hw30, hx30⟩ := wsmF_rng hs30
   obtain ⟨hv34, hw34, hx34⟩ := wsmF_rng hs34
   obtain ⟨hv38, hw38, hx38⟩ := wsmF_rng hs38
   obtain ⟨hv42, hw42, hx42⟩ := wsmF_rng hs42
   refine GL.mv_ rfl rfl ?_; refine GL.pure rfl (p_nilCheck rfl) ?_; refine GL.pure rfl (p_fieldAddr fo_96_0 rfl) ?_; refine GL.callP rfl fn_93 rfl (is := [0]) (js := [0]) rfl rfl (by exact (wnum_ct _ _ _ L42 _ 8 (by omega) (by omega) l42 k42 (by omega)).mono (fun _ _ _ h => h) (fun _ h => ⟨h.1, by simp only [wmsgF, hs10, hs15, hs20, hs26, hs30, hs34, hs38, hs42, Option.bind_some, h.2, Option.bind_none]⟩)) (fun v a w he h => FinP.panic he h) (GL.ret ?_)
   rintro _ _ _ ⟨v51, L51, A51, c51, hs51, l51, k51, rfl, rfl, rfl⟩
   obtain ⟨hv51, hw51, hx51⟩ := wnumF_rng hs51
   refine GL.pure rfl (p_fieldAddr fo_42_8 rfl) ?_; refine GL.step rfl (t_store (i := 1) rfl rfl rfl rfl sz_23 rfl rfl rfl) ?_; refine GL.nl_ ?_; refine GC.seq' ?_; refine GC.regionXM (m := 12) (M := fun a w => ∃ v56 : Int, ∃ L56 : List UInt8, ∃ v60 : Int, ∃ L60 : List UInt8, ∃ A60 : Option Addr, ∃ c60 : Nat, (wsmF L51 = some (v56, L56) ∧ wsmF L56 = some (v60, L60) ∧ L60.length ≤ c60 ∧ c60 ≤ 9223372036854775807) ∧ St c 95 [(0, .pointer (some ⟨p, 0, none⟩)), (2, .pointer (some ⟨b_t2, 0, none⟩)), (3, .pointer (some ⟨b_t3, 0, none⟩))] [.cells p [.slice A60 L60.length c60] e_, .cells b_t3 [.int .u8 v10, .int .i64 (IntKind.i64.wrap v15), .int .i64 (IntKind.i64.wrap v20), .int .i64 v26, .int .i64 v30, .int .i64 v34, .int .i64 v38, .int .i64 v42, .int .u64 v51, .int .i64 v56, .int .i64 v60, .int .u8 0, .int .i64 0, .int .i64 0, .slice none 0 0, .slice none 0 0, .int .u8 0, .slice none 0 0, .int .i64 0, .slice none 0 0, .int .i64 0, .int .i64 0, .int .i64 0, .slice none 0 0, .slice none 0 0, .int .i64 0, .slice none 0 0, .slice none 0 0] 42, .cells b_t2 [.int .u8 0, .int .i64 0, .int .i64 0, .int .i64 0, .int .i64 0, .int .i64 0, .int .i64 0, .int .i64 0, .int .u64 0, .int .i64 0, .int .i64 0, .int .u8 0, .int .i64 0, .int .i64 0, .slice none 0 0, .slice none 0 0, .int .u8 0, .slice none 0 0, .int .i64 0, .slice none 0 0, .int .i64 0, .int .i64 0, .int .i64 0, .slice none 0 0, .slice none 0 0, .int .i64 0, .slice none 0 0, .slice none 0 0] 42] [Pers.row Kd.u8 A60 L60] a w) (is := [2]) (js := [0, 1]) wide_ rfl rfl rfl (fun _ _ _ hd hp hD => ⟨hd.trans hD, .inr hp⟩) ?_ ?_
   ·refine GX.take 0 rfl (by kernel_rfl) (by kernel_rfl) (by kernel_rfl) rfl (fun a w h => h.mem (is := [2]) (js := [0, 1]) rfl rfl) (i_pure (p_move rfl)) ?_
    refine GX.take 1 rfl (by kernel_rfl) (by kernel_rfl) (by kernel_rfl) rfl (fun a w h => h.mem (is := [2]) (js := [0, 1]) rfl rfl) (i_pure (p_nilCheck rfl)) ?_
    refine GX.take 2 rfl (by kernel_rfl) (by kernel_rfl) (by kernel_rfl) rfl (fun a w h => h.mem (is := [2]) (js := [0, 1]) rfl rfl) (i_pure (p_fieldAddr fo_96_0 rfl)) ?_
    refine GX.take 4 rfl (by kernel_rfl) (by kernel_rfl) (by kernel_rfl) rfl (fun a w h => h.mem (is := [2]) (js := [0, 1]) rfl rfl) (i_pure (p_move rfl)) ?_
    refine GX.take 5 rfl (by kernel_rfl) (by kernel_rfl) (by kernel_rfl) rfl (fun a w h => h.mem (is := [2]) (js := [0, 1]) rfl rfl) (i_pure (p_nilCheck rfl)) ?_
    refine GX.take 6 rfl (by kernel_rfl) (by kernel_rfl) (by kernel_rfl) rfl (fun a w h => h.mem (is := [2]) (js := [0, 1]) rfl rfl) (i_pure (p_fieldAddr fo_96_0 rfl)) ?_
    refine GX.all (rs := [3]) (by kernel_rfl) (by simp) ?_
    refine GXs.consP (i := 3) rfl rfl fn_94 rfl (is := [0]) (js := [0]) rfl rfl (by exact (wsm_ct _ _ _ L51 _ l51 k51 (by omega)).mono (fun _ _ _ h => h) (fun _ h => ⟨h.1, by simp only [wmsgF, hs10, hs15, hs20, hs26, hs30, hs34, hs38, hs42, hs51, Option.bind_some, h.2, Option.bind_none]⟩)) (by rintro a w ⟨_, _, _, ⟨v56, L56, A56, c56, hs56, l56, k56, rfl, rfl, rfl⟩, h⟩; exact h.mem (is := [2]) (js := [1, 2]) rfl rfl) (GX.ret ?_) ?_
    ·rintro _ _ _ ⟨v56, L56, A56, c56, hs56, l56, k56, rfl, rfl, rfl⟩
     obtain ⟨hv56, hw56, hx56⟩ := wsmF_rng hs56
     refine GX.all (rs := [7]) (by kernel_rfl) (by simp) ?_
     refine GXs.consP (i := 7) rfl rfl fn_94 rfl (is := [0]) (js := [0]) rfl rfl (by exact (wsm_ct _ _ _ L56 _ l56 k56 (by omega)).mono (fun _ _ _ h => h) (fun _ h => ⟨h.1, by simp only [wmsgF, hs10, hs15, hs20, hs26, hs30, hs34, hs38, hs42, hs51, hs56, Option.bind_some, h.2, Option.bind_none]⟩)) (by rintro a w ⟨_, _, _, ⟨v60, L60, A60, c60, hs60, l60, k60, rfl, rfl, rfl⟩, h⟩; exact h.mem (is := [2]) (js := [2, 3]) rfl rfl) (GX.ret ?_) ?_
     ·rintro _ _ _ ⟨v60, L60, A60, c60, hs60, l60, k60, rfl, rfl, rfl⟩
      obtain ⟨hv60, hw60, hx60⟩ := wsmF_rng hs60
      refine GX.take 8 rfl (by kernel_rfl) (by kernel_rfl) (by kernel_rfl) rfl (fun a w h => h.mem (is := [2]) (js := [2, 3]) rfl rfl) (i_pure (p_fieldAddr fo_42_9 rfl)) ?_
      refine GX.all (rs := [9]) (by kernel_rfl) (by simp) ?_
      refine GXs.cons (i := 9) rfl rfl (t_store (i := 1) rfl rfl rfl rfl sz_3 rfl rfl rfl) (by rintro a w h; exact h.mem (is := [2]) (js := [2, 3]) rfl rfl) ?_ ?_
      ·refine GX.take 10 rfl (by kernel_rfl) (by kernel_rfl) (by kernel_rfl) rfl (fun a w h => h.mem (is := [2]) (js := [2, 3]) rfl rfl) (i_pure (p_fieldAddr fo_42_10 rfl)) ?_
       refine GX.all (rs := [11]) (by kernel_rfl) (by simp) ?_
       refine GXs.cons (i := 11) rfl rfl (t_store (i := 1) rfl rfl rfl rfl sz_3 rfl rfl rfl) (by rintro a w h; exact h.mem (is := [2]) (js := [2, 3]) rfl rfl) ?_ ?_
       ·exact GX.done (by kernel_rfl) (fun a w h => ⟨_, _, _, _, _, _, ⟨hs56, hs60, l60, k60⟩, h.cut (is := [0, 0, 0]) (js := [0]) ⟨rfl, rfl, rfl, trivial⟩ rfl rfl⟩)
       exact GXs.nil
      exact GXs.nil
     exact GXs.nil
    exact GXs.nil
   ·refine (?_ : GC _ _ _ _)
    refine GC.ex fun v56 => GC.ex fun L56 => GC.ex fun v60 => GC.ex fun L60 => GC.ex fun A60 => GC.ex fun c60 => GC.and fun ⟨hs56, hs60, l60, k60⟩ => ?_; refine GC.sr_ ?_
    obtain ⟨hv56, hw56, hx56⟩ := wsmF_rng hs56
    obtain ⟨hv60, hw60, hx60⟩ := wsmF_rng hs60
    refine GL.mv_ rfl rfl ?_; refine GL.callP rfl fn_95 rfl (is := [0, 0]) (js := [0]) rfl rfl (by exact (wprt_ct _ _ _ _ _ _ _ _ _ _ _ _ _ _ _ _ L60 _ l60 k60 (by omega)).mono (fun _ _ _ h => h) (fun _ h => ⟨h.1, by simp only [wmsgF, hs10, hs15, hs20, hs26, hs30, hs34, hs38, hs42, hs51, hs56, hs60, Option.bind_some, h.2, Option.bind_none]⟩)) (fun v a w he h => FinP.panic he h) (GL.ret ?_)
    rintro _ _ _ ⟨o64, r64, g64, s64, L64, x64, hs64, hx64, l64, k64, rfl, rfl, rfl⟩
    refine GL.nl_ ?_; refine GC.seq' ?_; refine GC.sr_ ?_; refine GL.mv_ rfl rfl ?_; refine GL.pure rfl (p_nilCheck rfl) ?_; refine GL.pure rfl (p_fieldAddr fo_96_0 rfl) ?_; refine GL.callP rfl fn_93 rfl (is := [0]) (js := [7]) rfl rfl (by exact (wnum_ct _ _ _ L64 _ 4 (by omega) (by omega) l64 k64 (by omega)).mono (fun _ _ _ h => h) (fun _ h => ⟨h.1, by simp only [wmsgF, hs10, hs15, hs20, hs26, hs30, hs34, hs38, hs42, hs51, hs56, hs60, Option.bind_some, hs64, h.2, Option.bind_none]⟩)) (fun v a w he h => FinP.panic he h) (GL.ret ?_)
    rintro _ _ _ ⟨v68, L68, A68, c68, hs68, l68, k68, rfl, rfl, rfl⟩
    obtain ⟨hv68, hw68, hx68⟩ := wnumF_rng hs68
    refine GL.nilrow 64 12 ?_; refine GL.know (q := Pers.reps kEntry [] []) (fun _ _ _ => rfl) ?_; refine GL.mv_ rfl rfl ?_; refine GL.nl_ ?_; refine GC.block ?_; refine GC.loopK7 (ks := [0, 2, 3, 68]) (is := [3]) (js := [1, 2, 3, 4, 5, 6, 7, 8, 9, 10]) (fun (k : Nat) (es : List Entry) (V : Value) (cs : List Value) (L : List UInt8) (Al : Option Addr) (cl : Nat) => (es.length = k ∧ L.length ≤ b.length ∧ L.length ≤ cl ∧ cl ≤ 9223372036854775807) ∧ (k : Int) ≤ v68 ∧ manyF went L68 k = some (es, L)) (fun (k : Nat) (es : List Entry) (V : Value) (cs : List Value) (L : List UInt8) (Al : Option Addr) (cl : Nat) => [(69, .int .u64 (k : Int))]) (fun (k : Nat) (es : List Entry) (V : Value) (cs : List Value) (L : List UInt8) (Al : Option Addr) (cl : Nat) => [.cells p [.slice Al L.length cl] e_, .cells b_t3 [.int .u8 v10, .int .i64 (IntKind.i64.wrap v15), .int .i64 (IntKind.i64.wrap v20), .int .i64 v26, .int .i64 v30, .int .i64 v34, .int .i64 v38, .int .i64 v42, .int .u64 v51, .int .i64 v56, .int .i64 v60, .int .u8 o64.kind, .int .i64 o64.at_, .int .i64 o64.n, .slice x64.a1 o64.data.length x64.c1, .slice x64.a2 o64.old.length x64.c2, .int .u8 r64.code, .slice x64.a3 r64.data.length x64.c3, .int .i64 g64.epoch, .slice x64.a4 g64.members.length x64.c4, .int .i64 s64.num, .int .i64 s64.shp.bl, .int .i64 s64.shp.sz, .slice x64.a5 s64.pages.length x64.c5, .slice x64.a6 s64.rows.length x64.c6, .int .i64 s64.grp.epoch, .slice x64.a7 s64.grp.members.length x64.c7, V] 42, .row V 64 12 es.length cs]) (fun (k : Nat) (es : List Entry) (V : Value) (cs : List Value) (L : List UInt8) (Al : Option Addr) (cl : Nat) => [Pers.reps kEntry es cs, Pers.row Kd.u8 Al L]) (fun (k : Nat) (es : List Entry) (V : Value) (cs : List Value) (L : List UInt8) (Al : Option Addr) (cl : Nat) => v68.toNat - k) (0) ([]) (_) ([]) (L68) (_) (_) rfl rfl rfl (fun a w h => ⟨⟨⟨rfl, by omega, l68, k68⟩, by omega, rfl⟩, h.cutK (is := [1, 1, 0, 0]) (js := [0, 1, 1, 2, 3, 4, 5, 6, 7, 8, 9, 10]) (ks := [0, 2, 3, 68]) ⟨rfl, trivial⟩ rfl rfl rfl⟩) ?_
    intro k es V cs L Al cl hk
    try dsimp only [List.cons_append, List.nil_append] at hk ⊢
    refine GC.sr_ ?_; refine GL.pure rfl (p_lss rfl rfl) ?_; refine GL.nl_ ?_; refine GC.seq' ?_; refine GC.cond rfl (fun h1 => ?_) (fun h1 => ?_)
    ·try simp only [tst_] at h1
     refine GC.skip (?_ : GC _ _ _ _)
     refine GC.seq' ?_; refine GC.block ?_; refine GC.sr_ ?_; refine GL.mv_ rfl rfl ?_; refine GL.pure rfl (p_nilCheck rfl) ?_; refine GL.pure rfl (p_fieldAddr fo_96_0 rfl) ?_; refine GL.pure rfl (p_fieldAddr fo_94_0 rfl) ?_
     refine GL.step rfl (t_mem rfl (m_load (i := 0) rfl rfl ag_25 rfl)) ?_; refine GL.step rfl (t_call rfl fn_96 rfl (is := []) (js := [1]) rfl rfl (by exact decent_ct _ L _ hk.1.2.2.1 hk.1.2.2.2 (by omega))) (GL.ret ?_)
     rintro _ _ _ ⟨g77, t77, f77, A77, cp77, B77, cq77, C77, cr77, hs77, ht77, j77, k77, l77, m77, n77, o77, rfl, rfl, rfl⟩
     refine GL.mv_ rfl rfl ?_
     iterate 3 refine GL.pure rfl (p_extract rfl rfl) ?_
     refine GL.step rfl (t_alloc rfl ze_64) (GL.ex fun b_t4 => ?_); refine GL.step rfl (t_storeN (i := 0) rfl rfl rfl sz_64 rfl rfl rfl) ?_
     iterate 2 refine GL.as_ rfl rfl ?_
     refine GL.nl_ ?_; refine GC.sr_ ?_; refine GL.mv_ rfl rfl ?_; refine GL.pure rfl (p_nilCheck rfl) ?_; refine GL.pure rfl (p_fieldAddr fo_96_0 rfl) ?_
     iterate 2 refine GL.mv_ rfl rfl ?_
     refine GL.callP rfl fn_97 rfl (is := [1]) (js := [4]) rfl rfl (by exact (wtake_ct _ _ _ L _ t77 f77 (fun _ => ht77) hk.1.2.2.1 hk.1.2.2.2).mono (fun _ _ _ h => h) (fun _ h => ⟨h.2, by simp only [wmsgF, hs10, hs15, hs20, hs26, hs30, hs34, hs38, hs42, hs51, hs56, hs60, hs64, hs68, Option.bind_some]; rw [manyF_fail hk.2.2 (show went L = none from by rw [went, hs77.2 h.1]; rfl) (by omega)]; rfl⟩)) (fun v a w he h => FinP.panic he h) (GL.ret ?_)
     rintro _ _ _ ⟨he86, A86, c86, l86, k86, rfl, rfl, rfl⟩
     refine GL.nl_ ?_; refine GC.region ?_; refine GL.pure rfl (p_fieldAddr fo_42_15 rfl) ?_; refine GL.step rfl (t_mem rfl (m_load (i := 2) rfl rfl ag_40 rfl)) ?_; refine GL.step rfl (t_mem rfl (m_loadN (i := 1) rfl rfl ag_64 (vs := [_, _, _, _, _, _, _, _, _, _, _, _]) sz_64 ⟨rfl, rfl, rfl, rfl, rfl, rfl, rfl, rfl, rfl, rfl, rfl, rfl, trivial⟩)) ?_
     refine GL.snoc (j := 4) (js := [1, 2, 3]) g77 ((), ((), ((), ((), ((), (((), ((), ((), ((A77, cp77), (B77, cq77))))), ((), (C77, cr77)))))))) rfl rfl ⟨trivial, trivial, trivial, trivial, trivial, ⟨trivial, trivial, trivial, ⟨j77, k77⟩, ⟨l77, m77⟩⟩, trivial, n77, o77⟩ ?_
     refine GL.step rfl (t_buildSlice rfl Tryz.underlying40 sz_64 ze_64 rfl rfl rfl rfl rfl rfl) (GL.ex fun b_t90 => ?_); refine GL.step rfl (t_append (i := 4) (k := 0) rfl el_40 rfl rfl rfl rfl rfl (allOne_mem rfl) (by have := hk.1.1; omega) (fun _ => rfl)) (GL.ex fun v91 => ?_)
     refine GL.shape (i := 4) rfl (fun A_v91 c_v91 e_v91 l_v91 k_v91 => ?_)
     subst e_v91
     refine GL.pure rfl (p_fieldAddr fo_42_15 rfl) ?_; refine GL.step rfl (t_store (i := 3) rfl rfl rfl rfl sz_40 rfl rfl rfl) ?_
     refine GL.nil (?_ : GC _ _ _ _)
     refine GC.region ?_; refine GL.pure rfl (p_add rfl rfl (cvU (by omega) (by omega))) ?_; refine GL.mv_ rfl rfl ?_; refine GL.nil ?_
     exact fun a w h => ⟨(k + 1), (es ++ [g77]), (_), (_), (L.drop t77), (_), (_), (by omega), ⟨⟨by simp; omega, by have := @drop_len L t77; omega, l86, k86⟩, by omega, manyF_next hk.2.2 (show went L = some _ from by rw [went, hs77.1 he86]; rfl)⟩, by rw [List.length_append]; exact h.cut (is := [1, 2, 2, 2]) (js := [0, 1, 7, 8, 9, 10, 11, 12, 13, 14, 15, 16]) ⟨rfl, rfl, rfl, rfl, rfl, trivial⟩ rfl rfl⟩
    ·try simp only [tst_] at h1
     refine GC.exit (?_ : GC _ _ _ _)
     refine GC.sr_ ?_; refine GL.shape (i := 2) rfl (fun A_EN c_EN e_EN l_EN k_EN => ?_)
     subst e_EN
     refine GL.freezeR (i := 2) (j := 0) rfl rfl (by decide) ?_; refine GL.step rfl (t_mem rfl (m_loadN (i := 1) rfl rfl ag_42 (vs := [_, _, _, _, _, _, _, _, _, _, _, _, _, _, _, _, _, _, _, _, _, _, _, _, _, _, _, _]) sz_42 ⟨rfl, rfl, rfl, rfl, rfl, rfl, rfl, rfl, rfl, rfl, rfl, rfl, rfl, rfl, rfl, rfl, rfl, rfl, rfl, rfl, rfl, rfl, rfl, rfl, rfl, rfl, rfl, rfl, trivial⟩)) ?_
     refine GL.step rfl (t_storeN (i := 2) rfl rfl rfl sz_42 rfl rfl rfl) ?_; refine GL.nl_ ?_; refine GC.ret ?_
     refine fun a w h => FinP.back (rs := [.cell 2 42]) (vs := [_]) (is := [0]) (js := [4, 5, 6, 7, 8, 9, 10, 0, 2]) rfl ⟨⟨2, _, _, _, _, rfl, rfl, .inr ⟨[_, _, _, _, _, _, _, _, _, _, _, _, _, _, _, _, _, _, _, _, _, _, _, _, _, _, _, _], rfl, ag_42, sz_42, ⟨rfl, rfl, rfl, rfl, rfl, rfl, rfl, rfl, rfl, rfl, rfl, rfl, rfl, rfl, rfl, rfl, rfl, rfl, rfl, rfl, rfl, rfl, rfl, rfl, rfl, rfl, rfl, rfl, trivial⟩⟩⟩, trivial⟩ rfl rfl ?_ h
     clear h
     exact ⟨⟨v10, IntKind.i64.wrap v15, IntKind.i64.wrap v20, v26, v30, v34, v38, v42, v51, v56, v60, o64, r64, g64, s64, es⟩, ⟨x64.a1, x64.c1, x64.a2, x64.c2, x64.a3, x64.c3, x64.a4, x64.c4, x64.a5, x64.c5, x64.a6, x64.c6, x64.a7, x64.c7, A_EN, c_EN⟩, L, _, _, by simp only [wmsgF, hs10, hs15, hs20, hs26, hs30, hs34, hs38, hs42, hs51, hs56, hs60, hs64, hs68, Option.bind_some]; rw [show v68.toNat = k by omega, hk.2.2]; rfl, hk.1.2.2.1, hk.1.2.2.2, rfl, rfl, rfl⟩
end Go.Proofs.YtdhdmbmknpjhbaaGreat
namespace Go.Proofs.YtdhdmbmknpjhbaaGreat
open Go Go.Sx Go.Proofs
theorem manyF_len {α σ : Type} {f : σ → Option (α × σ)} {t : σ} : ∀ {k : Nat} {xs : List α} {u : σ}, manyF f t k = some (xs, u) → xs.length = k
  | 0, xs, u, h => by
    obtain ⟨rfl, _⟩ := Prod.mk.inj (Option.some.inj h)
    rfl
  | k + 1, xs, u, h => by
    simp only [manyF, Option.bind_eq_some_iff, Option.map_eq_some_iff] at h
    obtain ⟨⟨ys, v⟩, h1, ⟨x, w⟩, h2, h3⟩ := h
    obtain ⟨rfl, _⟩ := Prod.mk.inj h3
    have := manyF_len h1
    simp [this]
theorem manyF_all {α σ : Type} {P : α → Prop} {f : σ → Option (α × σ)} {t : σ} (hf : ∀ t x v, f t = some (x, v) → P x) : ∀ {k : Nat} {xs : List α} {u : σ}, manyF f t k = some (xs, u) → ∀ x ∈ xs, P x
  | 0, xs, u, h => by
    obtain ⟨rfl, _⟩ := Prod.mk.inj (Option.some.inj h)
    intro x hx; cases hx
  | k + 1, xs, u, h => by
    simp only [manyF, Option.bind_eq_some_iff, Option.map_eq_some_iff] at h
    obtain ⟨⟨ys, v⟩, h1, ⟨x, w⟩, h2, h3⟩ := h
    obtain ⟨rfl, _⟩ := Prod.mk.inj h3
    intro y hy
    rcases List.mem_append.1 hy with hy | hy
    · exact manyF_all hf h1 y hy
    · rw [List.mem_singleton.1 hy]; exact hf _ _ _ h2
theorem manyF_dec {α : Type} {f : List UInt8 → Option (α × List UInt8)} {t : List UInt8} (hf : ∀ t x v, f t = some (x, v) → v.length + 1 ≤ t.length) : ∀ {k : Nat} {xs : List α} {u : List UInt8}, manyF f t k = some (xs, u) → u.length + k ≤ t.length
  | 0, xs, u, h => by
    obtain ⟨_, rfl⟩ := Prod.mk.inj (Option.some.inj h)
    exact Nat.le_refl _
  | k + 1, xs, u, h => by
    simp only [manyF, Option.bind_eq_some_iff, Option.map_eq_some_iff] at h
    obtain ⟨⟨ys, v⟩, h1, ⟨x, w⟩, h2, h3⟩ := h
    obtain ⟨_, rfl⟩ := Prod.mk.inj h3
    have := manyF_dec hf h1
    have := hf _ _ _ h2
    dsimp only at *
    omega
theorem ent_len {e : Entry} (h : entOk e) : EntLen e := by
  obtain ⟨_, _, _, _, h5⟩ := h
  rcases h5 with ⟨_, h, _, h2⟩ | ⟨_, h, h2, _⟩
  · have := form_rng h
    exact ⟨by unfold lenOk; omega, by unfold lenOk; omega, by omega⟩
  · have := grp_rng h2
    exact ⟨by rw [h]; simp [zop], by rw [h]; simp [zop], by omega⟩
theorem held_len {s : Stt} (h : heldOk s) : SttLen s := by
  have r := held_rng h
  have h1 := r.pl
  have h2 := r.rl
  have h3 := grp_rng r.gr
  refine ⟨by omega, by omega, by omega, fun p hp => ?_, fun p hp => ?_⟩
  · have := (r.pg p hp).2.2.2.2; unfold lenOk; omega
  · have := (res_rng (r.rw_ p hp).2.2).2.2; unfold lenOk; omega
theorem mentF_ok {b : List UInt8} {t : Nat} {e : Entry} {u : Nat} (h : mentF b t = some (e, u)) : entOk e := by
  simp only [mentF, Option.bind_eq_some_iff, mentC] at h
  obtain ⟨_, _, _, _, _, _, _, _, _, _, _, _, h⟩ := h
  split at h
  · rename_i h0
    rw [Option.some.inj h] at h0
    rwa [entE_iff] at h0
  · cases h
theorem mstF_ok {b : List UInt8} {t : Nat} {e : Stt} {u : Nat} (h : mstF b t = some (e, u)) : heldOk e := by
  simp only [mstF, Option.bind_eq_some_iff, mstC] at h
  obtain ⟨_, _, _, _, _, _, _, _, _, _, _, _, _, _, _, _, h⟩ := h
  split at h
  · rename_i h0
    rw [← (Prod.mk.inj (Option.some.inj h)).1]
    exact h0.1
  · cases h
theorem decOp_ok {b : List UInt8} {o : OpD} {n : Nat} (h : decOp b = some (o, n)) : formD o := by
  unfold decOp at h
  split at h
  · rename_i hh
    rw [← (Prod.mk.inj (Option.some.inj h)).1]
    exact (formE_iff ..).1 hh.2
  · cases h
theorem wnum_lt {n : Nat} {L M : List UInt8} {v : Int} (h : wnumF n L = some (v, M)) : M.length + n = L.length := (wnumF_rng h).2.2
theorem went_ok {L M : List UInt8} {e : Entry} (h : went L = some (e, M)) : entOk e := by
  simp only [went, Option.map_eq_some_iff] at h
  obtain ⟨⟨e', u⟩, h1, h2⟩ := h
  obtain ⟨rfl, _⟩ := Prod.mk.inj h2
  exact mentF_ok h1
theorem mnumF_step {b : List UInt8} {t n u : Nat} {v : Int} (h : mnumF b t n = some (v, u)) : u = t + n ∧ u ≤ b.length := ⟨(mnumF_rng h).2.1, (mnumF_rng h).1⟩
theorem mentF_step {b : List UInt8} {e : Entry} {u : Nat} (h : mentF b 0 = some (e, u)) : 1 ≤ u ∧ 1 ≤ b.length := by
  simp only [mentF, Option.bind_eq_some_iff] at h
  obtain ⟨⟨k, t1⟩, h1, ⟨n, t2⟩, h2, ⟨v, t3⟩, h3, ⟨cc, t4⟩, h4, ⟨s, t5⟩, h5, ⟨x, t6⟩, h6, h7⟩ := h
  have e1 := mnumF_step h1
  have e2 := mnumF_step h2
  have e3 := mnumF_step h3
  have e4 := mnumF_step h4
  have e5 := mnumF_step h5
  dsimp only at *
  simp only [mentC] at h7
  split at h7
  · obtain ⟨_, rfl⟩ := Prod.mk.inj (Option.some.inj h7)
    refine ⟨?_, by omega⟩
    unfold mentB at h6
    split at h6
    · simp only [Option.map_eq_some_iff] at h6
      obtain ⟨⟨o, m⟩, _, h8⟩ := h6
      have := (Prod.mk.inj h8).2
      dsimp only at this
      omega
    · split at h6
      · simp only [Option.map_eq_some_iff, mgrpF, Option.bind_eq_some_iff] at h6
        obtain ⟨⟨o, m⟩, ⟨⟨g1, u1⟩, h8, ⟨g2, u2⟩, h9, ⟨g3, u3⟩, h10, h11⟩, h12⟩ := h6
        have f1 := mnumF_step h8
        have f2 := mnumF_step h9
        have := (Prod.mk.inj h12).2
        have := (Prod.mk.inj h11).2
        dsimp only at *
        have hge : ∀ (k : Nat) (xs : List Int) (u : Nat), manyF (fun t => mnumF b t 1) u2 k = some (xs, u) → u2 ≤ u := by
          intro k
          induction k with
          | zero => intro xs u h; obtain ⟨_, rfl⟩ := Prod.mk.inj (Option.some.inj h); exact Nat.le_refl _
          | succ k ih =>
            intro xs u h
            simp only [manyF, Option.bind_eq_some_iff, Option.map_eq_some_iff] at h
            obtain ⟨⟨ys, v⟩, j1, ⟨x, w⟩, j2, j3⟩ := h
            obtain ⟨_, rfl⟩ := Prod.mk.inj j3
            have := ih _ _ j1
            have := mnumF_step j2
            dsimp only at *
            omega
        have := hge _ _ _ h10
        omega
      · have := (Prod.mk.inj (Option.some.inj h6)).2
        omega
  · cases h7
theorem went_dec (t : List UInt8) (x : Entry) (v : List UInt8) (h : went t = some (x, v)) : v.length + 1 ≤ t.length := by
  simp only [went, Option.map_eq_some_iff] at h
  obtain ⟨⟨e', u⟩, h1, h2⟩ := h
  obtain ⟨_, rfl⟩ := Prod.mk.inj h2
  have := mentF_step h1
  rw [List.length_drop]
  dsimp only
  omega
structure MsgF (b : List UInt8) (m : Msg) (M : List UInt8) : Prop where
  len : MsgLen m
  nonce : 0 ≤ m.nonce ∧ m.nonce < 18446744073709551616
  log : m.log.length ≤ b.length
theorem wmsgF_all {b : List UInt8} {m : Msg} {M : List UInt8} (h : wmsgF b = some (m, M)) : MsgF b m M := by
  simp only [wmsgF, Option.bind_eq_some_iff, Option.map_eq_some_iff] at h
  obtain ⟨⟨k, b1⟩, h1, ⟨sv, b2⟩, h2, ⟨d, b3⟩, h3, ⟨a1, b4⟩, h4, ⟨a2, b5⟩, h5, ⟨a3, b6⟩, h6, ⟨a4, b7⟩, h7, ⟨a5, b8⟩, h8, ⟨nn, b9⟩, h9, ⟨cl, b10⟩, h10, ⟨sr, b11⟩, h11, ⟨⟨o, r, g, s⟩, b12⟩, h12, ⟨n, b13⟩, h13, ⟨es, b14⟩, h14, h15⟩ := h
  dsimp only at *
  obtain ⟨rfl, rfl⟩ := Prod.mk.inj h15
  have q9 := wnumF_rng h9
  have e8 : (256 : Nat) ^ 8 = 18446744073709551616 := p256_8
  simp only [wprtF, Option.bind_eq_some_iff, Option.map_eq_some_iff] at h12
  obtain ⟨⟨pn, c1⟩, g1, ⟨o', c2⟩, g2, ⟨r', c3⟩, g3, ⟨g', c4⟩, g4, ⟨s', c5⟩, g5, g6⟩ := h12
  dsimp only at *
  cases g6
  have lo : lenOk o.data.length ∧ lenOk o.old.length ∧ c2.length ≤ c1.length := by
    unfold wpO at g2
    split at g2
    · obtain ⟨rfl, rfl⟩ := Prod.mk.inj (Option.some.inj g2); simp [zop]
    · simp only [Option.map_eq_some_iff] at g2
      obtain ⟨⟨o2, n2⟩, j1, j2⟩ := g2
      obtain ⟨rfl, rfl⟩ := Prod.mk.inj j2
      have := form_rng (decOp_ok j1)
      exact ⟨by unfold lenOk; dsimp only; omega, by unfold lenOk; dsimp only; omega, drop_len⟩
  have lr : lenOk r.data.length ∧ c3.length ≤ c2.length := by
    unfold wpR at g3
    split at g3
    · obtain ⟨rfl, rfl⟩ := Prod.mk.inj (Option.some.inj g3); simp [rz]
    · simp only [Option.map_eq_some_iff] at g3
      obtain ⟨⟨o2, n2⟩, j1, j2⟩ := g3
      obtain ⟨rfl, rfl⟩ := Prod.mk.inj j2
      have := decRes_len j1
      exact ⟨by unfold lenOk; dsimp only; omega, drop_len⟩
  have lg : g.members.length ≤ 17592186043904 ∧ c4.length ≤ c3.length := by
    unfold wpG at g4
    split at g4
    · obtain ⟨rfl, rfl⟩ := Prod.mk.inj (Option.some.inj g4); simp [zgr]
    · simp only [wgrpF, Option.bind_eq_some_iff, Option.map_eq_some_iff] at g4
      obtain ⟨⟨e1, d1⟩, j1, ⟨e2, d2⟩, j2, ⟨e3, d3⟩, j3, j4⟩ := g4
      obtain ⟨rfl, rfl⟩ := Prod.mk.inj j4
      have f1 := wsmF_rng j1
      have f2 := wnumF_rng j2
      have f3 := manyF_len j3
      have f4 := manyF_dec (fun t x v h => by have := wnum_lt h; omega) j3
      have e1 : (256 : Nat) ^ 1 = 256 := p256_1
      dsimp only at *
      omega
  have ls : SttLen s ∧ b12.length ≤ c4.length := by
    unfold wpS at g5
    split at g5
    · obtain ⟨rfl, rfl⟩ := Prod.mk.inj (Option.some.inj g5); exact ⟨zstLen, Nat.le_refl _⟩
    · simp only [Option.map_eq_some_iff] at g5
      obtain ⟨⟨o2, n2⟩, j1, j2⟩ := g5
      obtain ⟨rfl, rfl⟩ := Prod.mk.inj j2
      exact ⟨held_len (mstF_ok j1), drop_len⟩
  have f1 := wnum_lt h1
  have f2 := wnum_lt h2
  have f3 := wnum_lt h3
  have f4 := (wsmF_rng h4).2.2
  have f5 := (wsmF_rng h5).2.2
  have f6 := (wsmF_rng h6).2.2
  have f7 := (wsmF_rng h7).2.2
  have f8 := (wsmF_rng h8).2.2
  have f9 := wnum_lt h9
  have f10 := (wsmF_rng h10).2.2
  have f11 := (wsmF_rng h11).2.2
  have f12 := wnum_lt g1
  have f13 := wnum_lt h13
  have f14 := manyF_len h14
  have f15 := manyF_dec went_dec h14
  have f16 := wnumF_rng h13
  have e4 : (256 : Nat) ^ 4 = 4294967296 := p256_4
  try dsimp only at *
  exact ⟨⟨lo.1, lo.2.1, lr.1, lg.1, ls.1, by dsimp only; omega, fun e he => ent_len (manyF_all (P := entOk) (fun t x v h => went_ok h) h14 e he)⟩, by dsimp only; omega, by dsimp only; omega⟩
end Go.Proofs.YtdhdmbmknpjhbaaGreat
namespace Go.Proofs.YtdhdmbmknpjhbaaGreat
open Go Go.Sx Go.Proofs
def At (b : List UInt8) (t : Nat) (L : List UInt8) : Prop := t ≤ b.length ∧ b.drop t = L
theorem At.zero (b : List UInt8) : At b 0 b := ⟨Nat.zero_le _, rfl⟩
theorem At.len {b : List UInt8} {t : Nat} {L : List UInt8} (h : At b t L) : t + L.length = b.length := by
  have := congrArg List.length h.2
  rw [List.length_drop] at this
  have := h.1
  omega
theorem At.step {b : List UInt8} {t : Nat} {x L : List UInt8} (h : At b t (x ++ L)) : At b (t + x.length) L ∧ seg b t (t + x.length) = x ∧ t + x.length ≤ b.length := by
  have hl := h.len
  rw [List.length_append] at hl
  have e : b.drop (t + x.length) = L := by rw [← List.drop_drop, h.2, List.drop_left]
  refine ⟨⟨by omega, e⟩, ?_, by omega⟩
  have e2 : seg b t (t + x.length) = (b.drop t).take x.length := by rw [seg, List.drop_take]; congr 1; omega
  rw [e2, h.2, List.take_left]
theorem At.seg {b : List UInt8} {t : Nat} {L : List UInt8} (h : At b t L) : Go.Sx.seg b t b.length = L := by rw [seg_drop, h.2]
theorem At.num {b : List UInt8} {t n : Nat} {v : Int} {L : List UInt8} (h : At b t (leN n v.toNat ++ L)) (h0 : 0 ≤ v) (h1 : v.toNat < 256 ^ n) (h2 : v ≤ 4611686018427387904) : ∃ u, mnumF b t n = some (v, u) ∧ At b u L := by
  obtain ⟨g1, g2, g3⟩ := h.step
  rw [leN_length] at g1 g2 g3
  refine ⟨t + n, ?_, g1⟩
  rw [mnumF, if_pos g3, getV, if_pos g3, getX, if_pos g3, g2, valN_leN _ _ h1, if_neg (by omega), show ((v.toNat : Nat) : Int) = v by omega]
theorem flZ_one (n : Nat) (x : Int) : flZ n [x] = leN n x.toNat := by simp [flZ]
theorem flZ_cons (n : Nat) (x : Int) (l : List Int) : flZ n (x :: l) = leN n x.toNat ++ flZ n l := by simp [flZ]
theorem flZ_nil (n : Nat) : flZ n [] = [] := rfl
theorem byI_le {x : Int} (h : 0 ≤ x) (h' : x < 256) : [byI x] = leN 1 x.toNat := by
  have : x.toNat % 256 = x.toNat := by omega
  simp [leN, byI, this]
theorem manyF_cons {α σ : Type} {f : σ → Option (α × σ)} {t u v : σ} {x : α} {xs : List α} (hx : f t = some (x, u)) : ∀ {k : Nat} {xs : List α} {v : σ}, manyF f u k = some (xs, v) → manyF f t (k + 1) = some (x :: xs, v)
  | 0, xs, v, h => by
    obtain ⟨rfl, rfl⟩ := Prod.mk.inj (Option.some.inj h)
    simp [manyF, hx]
  | k + 1, xs, v, h => by
    rw [manyF] at h
    simp only [Option.bind_eq_some_iff, Option.map_eq_some_iff] at h
    obtain ⟨⟨ys, w⟩, h1, ⟨y, z⟩, h2, h3⟩ := h
    have ih := manyF_cons (f := f) (t := t) (u := u) (v := v) (x := x) (xs := xs) hx h1
    obtain ⟨rfl, rfl⟩ := Prod.mk.inj h3
    rw [manyF, ih]
    simp [h2]
theorem manyF_enc {α σ : Type} {f : σ → Option (α × σ)} {enc : α → List UInt8} (I : σ → List UInt8 → Prop) (L : List UInt8) : ∀ {xs : List α} {t : σ}, (∀ x ∈ xs, ∀ t L, I t (enc x ++ L) → ∃ u, f t = some (x, u) ∧ I u L) → I t (xs.flatMap enc ++ L) → ∃ u, manyF f t xs.length = some (xs, u) ∧ I u L
  | [], t, _, h => ⟨t, rfl, h⟩
  | x :: xs, t, hf, h => by
    rw [List.flatMap_cons, List.append_assoc] at h
    obtain ⟨u, h1, h2⟩ := hf x (List.mem_cons_self ..) t _ h
    obtain ⟨v, h3, h4⟩ := manyF_enc I L (xs := xs) (fun y hy => hf y (List.mem_cons_of_mem _ hy)) h2
    exact ⟨v, manyF_cons (v := v) (xs := xs) h1 h3, h4⟩
theorem numS_at {b : List UInt8} {t n v : Nat} {L : List UInt8} (h : At b t (leN n v ++ L)) (h1 : v < 256 ^ n) : numS b t 0 n = (v, t + n, 0) ∧ At b (t + n) L := by
  obtain ⟨g1, g2, g3⟩ := h.step
  rw [leN_length] at g1 g2 g3
  refine ⟨?_, g1⟩
  rw [numS, if_pos rfl, if_pos g3, g2, valN_leN _ _ h1]
theorem txF_at {b : List UInt8} {t : Nat} {d L : List UInt8} (h : At b t (leN 4 d.length ++ (d ++ L))) (h1 : d.length ≤ 16777216) : txF b t = (d, t + 4 + d.length, 0) ∧ At b (t + 4 + d.length) L := by
  obtain ⟨g1, g2, g3⟩ := h.step
  rw [leN_length] at g1 g2 g3
  obtain ⟨g4, g5, g6⟩ := g1.step
  have e : valN (leN 4 d.length) = d.length := valN_leN _ _ (by rw [p256_4]; omega)
  refine ⟨?_, g4⟩
  rw [txF, if_pos g3, g2, e, if_pos h1, if_pos g6, g5]
theorem txS_at {b : List UInt8} {t : Nat} {d L : List UInt8} (h : At b t (leN 4 d.length ++ (d ++ L))) (h1 : d.length ≤ 16777216) : txS b t 0 = (d, t + 4 + d.length, 0) ∧ At b (t + 4 + d.length) L := by
  obtain ⟨g1, g2⟩ := txF_at h h1
  refine ⟨?_, g2⟩
  rw [txS, if_pos rfl, g1, if_pos rfl]
theorem decOp_at {b : List UInt8} {o : OpD} {L : List UInt8} (h : b = opB o ++ L) (hf : formD o) : ∃ u, decOp b = some (o, u) ∧ At b u L := by
  obtain ⟨r1, r2, r3, r4, r5, r6, r7, r8⟩ := form_rng hf
  have h0 := At.zero b
  rw [show At b 0 b = At b 0 (leN 1 o.kind.toNat ++ (leN 4 o.at_.toNat ++ (leN 4 o.n.toNat ++ (leN 4 o.data.length ++ (o.data ++ (leN 4 o.old.length ++ (o.old ++ L))))))) from by
    conv => lhs; rw [show b = opB o ++ L from h]
    rw [h, opB, byI_le (by omega) (by omega)]; simp [flI, List.append_assoc]] at h0
  obtain ⟨e1, h1⟩ := numS_at h0 (by rw [p256_1]; omega)
  obtain ⟨e2, h2⟩ := numS_at h1 (by rw [p256_4]; omega)
  obtain ⟨e3, h3⟩ := numS_at h2 (by rw [p256_4]; omega)
  obtain ⟨e4, h4⟩ := txS_at h3 (by omega)
  obtain ⟨e5, h5⟩ := txS_at h4 (by omega)
  refine ⟨_, ?_, h5⟩
  have eo : (⟨((o.kind.toNat : Nat) : Int), ((o.at_.toNat : Nat) : Int), ((o.n.toNat : Nat) : Int), o.data, o.old⟩ : OpD) = o := by
    rw [show ((o.kind.toNat : Nat) : Int) = o.kind by omega, show ((o.at_.toNat : Nat) : Int) = o.at_ by omega, show ((o.n.toNat : Nat) : Int) = o.n by omega]
  have hS := decOpS_eq e1 e2 e3 e4 e5
  rw [eo] at hS
  rw [decOp, hS]
  exact if_pos ⟨rfl, (formE_iff ..).2 hf⟩
theorem decRes_at {b : List UInt8} {r : Res} {L : List UInt8} (h : b = resB r ++ L) (hf : resOk r.code r.data.length = true) : ∃ u, decRes b = some (r, u) ∧ At b u L := by
  obtain ⟨r1, r2, r3⟩ := res_rng hf
  have h0 := At.zero b
  have hb : b = leN 1 r.code.toNat ++ (leN 4 r.data.length ++ (r.data ++ L)) := by rw [h, resB, byI_le (by omega) (by omega)]; simp [List.append_assoc]
  have h0 : At b 0 (leN 1 r.code.toNat ++ (leN 4 r.data.length ++ (r.data ++ L))) := ⟨Nat.zero_le _, hb⟩
  obtain ⟨e1, h1⟩ := numS_at h0 (by rw [p256_1]; omega)
  obtain ⟨e2, h2⟩ := txS_at h1 (by omega)
  refine ⟨_, ?_, h2⟩
  have eo : (⟨((r.code.toNat : Nat) : Int), r.data⟩ : Res) = r := by rw [show ((r.code.toNat : Nat) : Int) = r.code by omega]
  have hS := decResS_eq e1 e2
  rw [eo] at hS
  rw [decRes, hS]
  exact if_pos ⟨rfl, hf⟩
theorem mgrpF_at {b : List UInt8} {t : Nat} {g : Grp} {L : List UInt8} (h : At b t (grpB g ++ L)) (hg : groupOk g.epoch g.members = true) : ∃ u, mgrpF b t = some (g, u) ∧ At b u L := by
  obtain ⟨r1, r2, r3, r4, r5⟩ := grp_rng hg
  simp only [grpB, flZ_one, List.append_assoc] at h
  obtain ⟨u1, e1, h1⟩ := h.num r4 (by rw [p256_8]; omega) r5
  obtain ⟨u2, e2, h2⟩ := h1.num (by omega) (by rw [p256_1]; omega) (by omega)
  obtain ⟨u3, e3, h3⟩ := manyF_enc (f := fun t => mnumF b t 1) (enc := fun x : Int => leN 1 x.toNat) (At b) L (xs := g.members) (fun x hx t L h => by
    have := r1 x hx
    exact h.num (by omega) (by rw [p256_1]; omega) (by omega)) h2
  refine ⟨u3, ?_, h3⟩
  simp only [mgrpF, e1, e2, Option.bind_some]
  rw [show ((g.members.length : Nat) : Int).toNat = g.members.length from rfl, e3]
  rfl
theorem At.here {b : List UInt8} {t u : Nat} {M L : List UInt8} (h : At b t M) (hu : At M u L) : At b (t + u) L := by
  have h1 := h.len
  have h2 := hu.len
  exact ⟨by omega, by rw [← List.drop_drop, h.2, hu.2]⟩
theorem mentF_at {b : List UInt8} {t : Nat} {e : Entry} {L : List UInt8} (h : At b t (entB e ++ L)) (he : entOk e) : ∃ u, mentF b t = some (e, u) ∧ At b u L := by
  obtain ⟨r1, r2, r3, r4, r5, r6, r7⟩ := ent_rng he
  have e8 : (256 : Nat) ^ 8 = 18446744073709551616 := p256_8
  simp only [entB, flZ_cons, flZ_nil, byI_le (show 0 ≤ e.kind by omega) (show e.kind < 256 by omega), List.append_assoc, List.nil_append] at h
  obtain ⟨u1, e1, h1⟩ := h.num (by omega) (by rw [p256_1]; omega) (by omega)
  obtain ⟨u2, e2, h2⟩ := h1.num (by omega) (by omega) (by omega)
  obtain ⟨u3, e3, h3⟩ := h2.num (by omega) (by omega) (by omega)
  obtain ⟨u4, e4, h4⟩ := h3.num (by omega) (by omega) (by omega)
  obtain ⟨u5, e5, h5⟩ := h4.num (by omega) (by omega) (by omega)
  have fin : ∀ u, mentB b e.kind e.num e.view e.client e.serial u5 = some (e, u) → mentF b t = some (e, u) := fun u hu => by
    simp only [mentF, e1, e2, e3, e4, e5, Option.bind_some, hu, mentC]
    exact if_pos (if_pos he)
  obtain ⟨_, _, _, _, hk⟩ := he
  rcases hk with ⟨k1, k2, k3, k4⟩ | ⟨k1, k2, k3, _⟩
  · rw [if_neg (by omega)] at h5
    obtain ⟨u6, e6, h6⟩ := decOp_at (show Go.Sx.seg b u5 b.length = opB e.op ++ L from h5.seg) k2
    refine ⟨u5 + u6, fin _ ?_, ?_⟩
    · rw [mentB, if_pos k1, e6]
      have : e.grp = zgr := by
        have hm : e.grp.members = [] := List.eq_nil_of_length_eq_zero k4
        rw [gr_ext]; exact ⟨k3, hm⟩
      show some (_, _) = some (_, _)
      rw [← this]
    · rw [h5.seg] at h6; exact h5.here h6
  · rw [if_pos (by omega)] at h5
    obtain ⟨u6, e6, h6⟩ := mgrpF_at h5 k3
    refine ⟨u6, fin _ ?_, h6⟩
    rw [mentB, if_neg (by omega), if_pos k1, e6]
    show some (_, _) = some (_, _)
    rw [← k2]
theorem mpgF_at {b : List UInt8} {p : Page} (hp : 0 ≤ p.at_ ∧ p.at_ ≤ 4096 ∧ 1 ≤ p.ver ∧ p.ver ≤ 4611686018427387904 ∧ p.data.length ≤ 4096) (t : Nat) (L : List UInt8) (h : At b t (pgB p ++ L)) : ∃ u, mpgF b t = some (p, u) ∧ At b u L := by
  have e8 : (256 : Nat) ^ 8 = 18446744073709551616 := p256_8
  have e4_ : (256 : Nat) ^ 4 = 4294967296 := p256_4
  simp only [pgB, flZ_one, List.append_assoc] at h
  obtain ⟨u1, e1, h1⟩ := h.num (by omega) (by omega) (by omega)
  obtain ⟨u2, e2, h2⟩ := h1.num (by omega) (by omega) (by omega)
  obtain ⟨e3, h3⟩ := txF_at h2 (by omega)
  refine ⟨_, ?_, h3⟩
  simp only [mpgF, e1, e2, Option.bind_some, mtxF, e3, if_true, Option.map_some]
theorem mrowF_at {b : List UInt8} {r : Row} (hr : (1 ≤ r.client ∧ r.client ≤ 4611686018427387904) ∧ (1 ≤ r.serial ∧ r.serial ≤ 4611686018427387904) ∧ resOk r.result.code r.result.data.length = true) (t : Nat) (L : List UInt8) (h : At b t (rowBy r ++ L)) : ∃ u, mrowF b t = some (r, u) ∧ At b u L := by
  have e8 : (256 : Nat) ^ 8 = 18446744073709551616 := p256_8
  simp only [rowBy, flZ_cons, flZ_nil, List.append_assoc, List.nil_append] at h
  obtain ⟨u1, e1, h1⟩ := h.num (by omega) (by omega) (by omega)
  obtain ⟨u2, e2, h2⟩ := h1.num (by omega) (by omega) (by omega)
  obtain ⟨u3, e3, h3⟩ := decRes_at (show Go.Sx.seg b u2 b.length = resB r.result ++ L from h2.seg) hr.2.2
  refine ⟨u2 + u3, ?_, ?_⟩
  · simp only [mrowF, e1, e2, Option.bind_some, e3, Option.map_some]
  · rw [h2.seg] at h3; exact h2.here h3
theorem mstF_at {b : List UInt8} {t : Nat} {s : Stt} {L : List UInt8} (h : At b t (sttB s ++ L)) (hs : heldOk s) (hb : b.length ≤ 33554432) : ∃ u, mstF b t = some (s, u) ∧ At b u L := by
  have r := held_rng hs
  have e8 : (256 : Nat) ^ 8 = 18446744073709551616 := p256_8
  have e4_ : (256 : Nat) ^ 4 = 4294967296 := p256_4
  have q1 := r.num
  have q2 := r.bl
  have q3 := r.sz
  have q4 := r.pl
  have q5 := r.rl
  simp only [sttB, sttH, flZ_cons, flZ_nil, byI_le (show 0 ≤ (s.rows.length : Int) by omega) (show (s.rows.length : Int) < 256 by omega), List.append_assoc, List.nil_append] at h
  obtain ⟨u1, e1, h1⟩ := h.num (by omega) (by omega) (by omega)
  obtain ⟨u2, e2, h2⟩ := h1.num (by omega) (by omega) (by omega)
  obtain ⟨u3, e3, h3⟩ := h2.num (by omega) (by omega) (by omega)
  obtain ⟨u4, e4, h4⟩ := h3.num (by omega) (by omega) (by omega)
  obtain ⟨u5, e5, h5⟩ := manyF_enc (f := mpgF b) (enc := pgB) (At b) _ (xs := s.pages) (fun x hx t L h => mpgF_at (r.pg x hx) t L h) h4
  obtain ⟨u6, e6, h6⟩ := h5.num (by omega) (by rw [p256_1]; omega) (by omega)
  obtain ⟨u7, e7, h7⟩ := manyF_enc (f := mrowF b) (enc := rowBy) (At b) _ (xs := s.rows) (fun x hx t L h => mrowF_at (r.rw_ x hx) t L h) h6
  obtain ⟨u9, e9, h9⟩ := mgrpF_at h7 r.gr
  refine ⟨u9, ?_, h9⟩
  simp only [mstF, e1, e2, e3, e4, Option.bind_some]
  rw [show ((s.pages.length : Nat) : Int).toNat = s.pages.length from rfl, e5]
  simp only [Option.bind_some, e6]
  rw [show ((s.rows.length : Nat) : Int).toNat = s.rows.length from rfl, e7]
  simp only [Option.bind_some, e9, mstC]
  exact if_pos ⟨hs, Nat.le_trans h9.1 hb⟩
end Go.Proofs.YtdhdmbmknpjhbaaGreat
namespace Go.Proofs.YtdhdmbmknpjhbaaGreat
open Go Go.Sx Go.Proofs
theorem valN_leN4 {v : Nat} (h : v < 4294967296) : valN (leN 4 v) = v := by
  rw [leN4]
  simp only [valN]
  simp only [show (256 : Nat) ^ 1 = 256 from rfl, show (256 : Nat) ^ 2 = 65536 from rfl, show (256 : Nat) ^ 3 = 16777216 from rfl]
  have e : ∀ a : Nat, (UInt8.ofNat (a % 256)).toNat = a % 256 := fun a => by simp
  simp only [e]
  omega
theorem rdN_frame {F : List UInt8} {B : List UInt8} (hF : F = frameB B) (hB : B.length ≤ 16777216) {G : List UInt8} (hG : ∀ i : Nat, 12 ≤ i → i < 16 → G[i]? = F[i]?) (hl : 16 ≤ G.length) : rdN G = B.length := by
  have e : seg G 12 (12 + 4) = leN 4 B.length := by
    apply List.ext_getElem?
    intro i
    by_cases hi : i < 4
    · rw [seg, List.getElem?_drop, List.getElem?_take, if_pos (by omega), hG _ (by omega) (by omega), hF, frameB, sealB, headB]
      have h12 : ([80, 76, 4, 0] ++ leN 8 0 : List UInt8).length = 12 := by simp [leN_length]
      rw [List.append_assoc, List.append_assoc, List.getElem?_append_right (by omega), h12, show 12 + i - 12 = i by omega, List.getElem?_append_left (by rw [leN_length]; exact hi)]
    · rw [List.getElem?_eq_none (by rw [seg_length (by omega)]; omega), List.getElem?_eq_none (by rw [leN_length]; omega)]
  rw [rdN, e, valN_leN4 (by omega)]
end Go.Proofs.YtdhdmbmknpjhbaaGreat
namespace Go.Proofs.YtdhdmbmknpjhbaaGreat
open Go Go.Sx Go.Proofs
theorem wbodyo_ok (m : Msg) (s : Lie) (hm : MsgLen m) (hok : msgOk m) (hn : 0 ≤ m.nonce ∧ m.nonce < 18446744073709551616) (hlog : m.log.length < 100000) (hf : (bodyB m).length ≤ 16777216) : Ct Tryz.prog 45 [msgV m s] [] (msgQ m s)
    (fun u G Q => ∃ A cp, (bodyB m).length ≤ cp ∧ cp ≤ 9223372036854775807 ∧ u = .tuple #[.slice A (bodyB m).length cp, .bool true] ∧ G = [rowOf A cp (bodyB m)] ∧ Q = []) :=
  Ct.mono (wbody_all m s hm hok hn hlog) fun u G Q h => h.elim (fun h => h.2) (fun h => by omega)
theorem wbodyo_long (m : Msg) (s : Lie) (hm : MsgLen m) (hok : msgOk m) (hn : 0 ≤ m.nonce ∧ m.nonce < 18446744073709551616) (hlog : m.log.length < 100000) (hf : ¬ (bodyB m).length ≤ 16777216) : Ct Tryz.prog 45 [msgV m s] [] (msgQ m s)
    (fun u G Q => (∃ A n cp, u = .tuple #[.slice A n cp, .bool false]) ∧ G = [] ∧ Q = []) :=
  Ct.mono (wbody_all m s hm hok hn hlog) fun u G Q h => h.elim (fun h => by omega) (fun h => h.2)
theorem wchko_ok (m : Msg) (s : Lie) (hm : MsgLen m) (h : msgOk m) : Ct Tryz.prog 12 [msgV m s] [] (msgQ m s) (fun u G Q => u = .int .i64 0 ∧ G = [] ∧ Q = []) := by
  have := wchk_ct m s hm; rw [msgE_yes h] at this; exact this
theorem wchko_no (m : Msg) (s : Lie) (hm : MsgLen m) (h : ¬ msgOk m) : Ct Tryz.prog 12 [msgV m s] [] (msgQ m s) (fun u G Q => u = .int .i64 160 ∧ G = [] ∧ Q = []) := by
  have := wchk_ct m s hm; rw [msgE_no h] at this; exact this
def encFo (m : Msg) : Int × List UInt8 := if msgOk m then (if (bodyB m).length ≤ 16777216 then (0, frameB (bodyB m)) else (2, [])) else (160, [])
abbrev EncO (e : Int) (F : List UInt8) (u : Value) (G : List Own) (Q : List Pers) : Prop := ∃ A cp, F.length ≤ cp ∧ cp ≤ 9223372036854775807 ∧ u = .tuple #[.slice A F.length cp, .int .i64 e] ∧ G = [rowOf A cp F] ∧ Q = []
theorem wenco_bad (m : Msg) (s : Lie) (hm : MsgLen m) (h : ¬ msgOk m) : Ct Tryz.prog 16 [msgV m s] [] (msgQ m s) (EncO 160 []) := by
 refine Ct.intro Tryz.func16 rfl rfl rfl (fun c hc => ?_)
 refine GC.sr_ ?_; refine GL.step rfl (t_box rfl rfl rfl) (GL.ex fun b_t1 => ?_)
 iterate 2 refine GL.as_ rfl rfl ?_
 refine GL.nl_ ?_; refine GC.seq' ?_; refine GC.sr_ ?_; refine GL.step rfl (t_mem rfl (m_loadN (i := 0) rfl rfl ag_42 (vs := [_, _, _, _, _, _, _, _, _, _, _, _, _, _, _, _, _, _, _, _, _, _, _, _, _, _, _, _]) sz_42 ⟨rfl, rfl, rfl, rfl, rfl, rfl, rfl, rfl, rfl, rfl, rfl, rfl, rfl, rfl, rfl, rfl, rfl, rfl, rfl, rfl, rfl, rfl, rfl, rfl, rfl, rfl, rfl, rfl, trivial⟩)) ?_
 refine GL.step rfl (t_call rfl fn_12 rfl (is := []) (js := [0, 1, 2, 3, 4, 5, 6, 7]) rfl rfl (by exact wchko_no m s hm h)) (GL.ret ?_)
 rintro _ _ _ ⟨rfl, rfl, rfl⟩
 refine GL.as_ rfl rfl ?_; refine GL.nl_ ?_; refine GC.sr_ ?_; refine GL.mv_ rfl rfl ?_; refine GL.pure rfl (p_neq rfl rfl) ?_; refine GL.nl_ ?_; refine GC.cond_true rfl ?_; refine GC.sr_ ?_; refine GL.mv_ rfl rfl ?_
 iterate 2 refine GL.as_ rfl rfl ?_
 refine GL.nl_ ?_; refine GC.nilrow 5 1 ?_; refine GC.ret ?_
 refine fun a w h => Fin.back (rs := [.tmp 2, .tmp 3]) (vs := [_, _]) (is := [0]) (js := []) rfl ⟨rfl, rfl, trivial⟩ rfl rfl ?_ h
 clear h
 exact ⟨none, 0, by simp, by simp, rfl, rfl, rfl⟩
theorem wenco_ok (m : Msg) (s : Lie) (hm : MsgLen m) (hn : 0 ≤ m.nonce ∧ m.nonce < 18446744073709551616) (hlog : m.log.length < 100000) (h : msgOk m) (hf : (bodyB m).length ≤ 16777216) : Ct Tryz.prog 16 [msgV m s] [] (msgQ m s) (EncO 0 (frameB (bodyB m))) := by
 refine Ct.intro Tryz.func16 rfl rfl rfl (fun c hc => ?_)
 refine GC.sr_ ?_; refine GL.step rfl (t_box rfl rfl rfl) (GL.ex fun b_t1 => ?_)
 iterate 2 refine GL.as_ rfl rfl ?_
 refine GL.nl_ ?_; refine GC.seq' ?_; refine GC.sr_ ?_; refine GL.step rfl (t_mem rfl (m_loadN (i := 0) rfl rfl ag_42 (vs := [_, _, _, _, _, _, _, _, _, _, _, _, _, _, _, _, _, _, _, _, _, _, _, _, _, _, _, _]) sz_42 ⟨rfl, rfl, rfl, rfl, rfl, rfl, rfl, rfl, rfl, rfl, rfl, rfl, rfl, rfl, rfl, rfl, rfl, rfl, rfl, rfl, rfl, rfl, rfl, rfl, rfl, rfl, rfl, rfl, trivial⟩)) ?_
 refine GL.step rfl (t_call rfl fn_12 rfl (is := []) (js := [0, 1, 2, 3, 4, 5, 6, 7]) rfl rfl (by exact wchko_ok m s hm h)) (GL.ret ?_)
 rintro _ _ _ ⟨rfl, rfl, rfl⟩
 refine GL.as_ rfl rfl ?_; refine GL.nl_ ?_; refine GC.sr_ ?_; refine GL.mv_ rfl rfl ?_; refine GL.pure rfl (p_neq rfl rfl) ?_; refine GL.nl_ ?_; refine GC.cond_false rfl ?_
 refine GC.skip (?_ : GC _ _ _ _)
 refine GC.sr_ ?_; refine GL.step rfl (t_mem rfl (m_loadN (i := 0) rfl rfl ag_42 (vs := [_, _, _, _, _, _, _, _, _, _, _, _, _, _, _, _, _, _, _, _, _, _, _, _, _, _, _, _]) sz_42 ⟨rfl, rfl, rfl, rfl, rfl, rfl, rfl, rfl, rfl, rfl, rfl, rfl, rfl, rfl, rfl, rfl, rfl, rfl, rfl, rfl, rfl, rfl, rfl, rfl, rfl, rfl, rfl, rfl, trivial⟩)) ?_
 refine GL.step rfl (t_call rfl fn_45 rfl (is := []) (js := [0, 1, 2, 3, 4, 5, 6, 7]) rfl rfl (by exact wbodyo_ok m s hm h hn hlog hf)) (GL.ret ?_)
 rintro _ _ _ ⟨A14, cp14, l14, k14, rfl, rfl, rfl⟩
 refine GL.mv_ rfl rfl ?_
 iterate 2 refine GL.pure rfl (p_extract rfl rfl) ?_
 iterate 2 refine GL.as_ rfl rfl ?_
 refine GL.nl_ ?_; refine GC.seq' ?_; refine GC.sr_ ?_; refine GL.mv_ rfl rfl ?_; refine GL.pure rfl (p_not rfl) ?_; refine GL.nl_ ?_; refine GC.cond_false rfl ?_
 refine GC.skip (?_ : GC _ _ _ _)
 refine GC.sr_ ?_; refine GL.freezeB (i := 0) rfl ?_; refine GL.mv_ rfl rfl ?_; refine GL.pure rfl (p_build ze_55 of_55 rfl rfl) ?_; refine GL.step rfl (t_call rfl fn_46 rfl (is := []) (js := [0]) rfl rfl (by exact fwrite_ct _ (bodyB m) _ hf)) (GL.ret ?_)
 rintro _ _ _ ⟨A21, cp21, l21, k21, rfl, rfl, rfl⟩
 iterate 2 refine GL.pure rfl (p_extract rfl rfl) ?_
 iterate 2 refine GL.as_ rfl rfl ?_
 refine GL.nl_ ?_; refine GC.ret ?_
 refine fun a w h => Fin.back (rs := [.tmp 2, .tmp 3]) (vs := [_, _]) (is := [0]) (js := []) rfl ⟨rfl, rfl, trivial⟩ rfl rfl ?_ h
 clear h
 exact ⟨_, _, l21, k21, rfl, rfl, rfl⟩
theorem wenco_long (m : Msg) (s : Lie) (hm : MsgLen m) (hn : 0 ≤ m.nonce ∧ m.nonce < 18446744073709551616) (hlog : m.log.length < 100000) (h : msgOk m) (hf : ¬ (bodyB m).length ≤ 16777216) : Ct Tryz.prog 16 [msgV m s] [] (msgQ m s) (EncO 2 []) := by
 refine Ct.intro Tryz.func16 rfl rfl rfl (fun c hc => ?_)
 refine GC.sr_ ?_; refine GL.step rfl (t_box rfl rfl rfl) (GL.ex fun b_t1 => ?_)
 iterate 2 refine GL.as_ rfl rfl ?_
 refine GL.nl_ ?_; refine GC.seq' ?_; refine GC.sr_ ?_; refine GL.step rfl (t_mem rfl (m_loadN (i := 0) rfl rfl ag_42 (vs := [_, _, _, _, _, _, _, _, _, _, _, _, _, _, _, _, _, _, _, _, _, _, _, _, _, _, _, _]) sz_42 ⟨rfl, rfl, rfl, rfl, rfl, rfl, rfl, rfl, rfl, rfl, rfl, rfl, rfl, rfl, rfl, rfl, rfl, rfl, rfl, rfl, rfl, rfl, rfl, rfl, rfl, rfl, rfl, rfl, trivial⟩)) ?_
 refine GL.step rfl (t_call rfl fn_12 rfl (is := []) (js := [0, 1, 2, 3, 4, 5, 6, 7]) rfl rfl (by exact wchko_ok m s hm h)) (GL.ret ?_)
 rintro _ _ _ ⟨rfl, rfl, rfl⟩
 refine GL.as_ rfl rfl ?_; refine GL.nl_ ?_; refine GC.sr_ ?_; refine GL.mv_ rfl rfl ?_; refine GL.pure rfl (p_neq rfl rfl) ?_; refine GL.nl_ ?_; refine GC.cond_false rfl ?_
 refine GC.skip (?_ : GC _ _ _ _)
 refine GC.sr_ ?_; refine GL.step rfl (t_mem rfl (m_loadN (i := 0) rfl rfl ag_42 (vs := [_, _, _, _, _, _, _, _, _, _, _, _, _, _, _, _, _, _, _, _, _, _, _, _, _, _, _, _]) sz_42 ⟨rfl, rfl, rfl, rfl, rfl, rfl, rfl, rfl, rfl, rfl, rfl, rfl, rfl, rfl, rfl, rfl, rfl, rfl, rfl, rfl, rfl, rfl, rfl, rfl, rfl, rfl, rfl, rfl, trivial⟩)) ?_
 refine GL.step rfl (t_call rfl fn_45 rfl (is := []) (js := [0, 1, 2, 3, 4, 5, 6, 7]) rfl rfl (by exact wbodyo_long m s hm h hn hlog hf)) (GL.ret ?_)
 rintro _ _ _ ⟨⟨A14, n14, cp14, rfl⟩, rfl, rfl⟩
 refine GL.mv_ rfl rfl ?_
 iterate 2 refine GL.pure rfl (p_extract rfl rfl) ?_
 iterate 2 refine GL.as_ rfl rfl ?_
 refine GL.nl_ ?_; refine GC.seq' ?_; refine GC.sr_ ?_; refine GL.mv_ rfl rfl ?_; refine GL.pure rfl (p_not rfl) ?_; refine GL.nl_ ?_; refine GC.cond_true rfl ?_; refine GC.sr_ ?_
 iterate 2 refine GL.as_ rfl rfl ?_
 refine GL.nl_ ?_; refine GC.nilrow 5 1 ?_; refine GC.ret ?_
 refine fun a w h => Fin.back (rs := [.tmp 2, .tmp 3]) (vs := [_, _]) (is := [0]) (js := []) rfl ⟨rfl, rfl, trivial⟩ rfl rfl ?_ h
 clear h
 exact ⟨none, 0, by simp, by simp, rfl, rfl, rfl⟩
theorem wenco_ct (m : Msg) (s : Lie) (hm : MsgLen m) (hn : 0 ≤ m.nonce ∧ m.nonce < 18446744073709551616) (hlog : m.log.length < 100000) : Ct Tryz.prog 16 [msgV m s] [] (msgQ m s) (EncO (encFo m).1 (encFo m).2) := by
  by_cases h : msgOk m
  · by_cases hf : (bodyB m).length ≤ 16777216
    · rw [show encFo m = (0, frameB (bodyB m)) by rw [encFo, if_pos h, if_pos hf]]; exact wenco_ok m s hm hn hlog h hf
    · rw [show encFo m = (2, []) by rw [encFo, if_pos h, if_neg hf]]; exact wenco_long m s hm hn hlog h hf
  · rw [show encFo m = (160, []) by rw [encFo, if_neg h]]; exact wenco_bad m s hm h
theorem nonceo_of {m : Msg} (h : okMsg m) : 0 ≤ m.nonce ∧ m.nonce < 18446744073709551616 := by
  have := h.2.2.2.2.2.2.2.2.1
  simp [Lit.wf] at this
  have e1 : IntKind.u64.min = 0 := by decide
  have e2 : IntKind.u64.max = 18446744073709551615 := by decide
  omega
end Go.Proofs.YtdhdmbmknpjhbaaGreat
namespace Go.Proofs.YtdhdmbmknpjhbaaGreat
open Go Go.Sx Go.Proofs
theorem rd_fr0 {F B : List UInt8} (hF : F = frameB B) (hB : B.length ≤ 16777216) : rdN F = B.length ∧ rdE F = 0 ∧ (gt F 2).toNat = 4 ∧ valN (seg F 4 12) = 0 ∧ seg F 16 (B.length + 16) = B := by
  have hl : F.length = B.length + 20 := by rw [hF, frameB_len]
  have hn : rdN F = B.length := rdN_frame hF hB (fun i _ _ => rfl) (by omega)
  have hh : (headB B).length = B.length + 16 := headB_len B
  have h0 : gt F 0 = 80 ∧ gt F 1 = 76 ∧ gt F 2 = 4 ∧ gt F 3 = 0 := by rw [hF]; exact ⟨rfl, rfl, rfl, rfl⟩
  have e1 : seg F 0 (B.length + 16) = headB B := by
    rw [hF, frameB, sealB, seg, List.drop_zero, List.take_append_of_le_length (by omega), ← hh, List.take_length]
  have e2 : seg F 0 (B.length + 20) = F := by rw [← hl]; exact seg_all F
  refine ⟨hn, ?_, by rw [h0.2.2.1]; rfl, ?_, ?_⟩
  · rw [rdE, if_neg (by omega), if_neg (by rw [hn, h0.1, h0.2.1, h0.2.2.2]; exact fun h => h ⟨rfl, rfl, rfl, hB⟩), if_neg (by omega), if_neg (by rw [hn, e1, e2, hF]; exact fun h => h rfl)]
  · rw [hF]; rfl
  · have : seg F 16 (B.length + 16) = (headB B).drop 16 := by rw [← e1]; simp [seg]
    rw [this]; rfl
theorem rd_fr {F B : List UInt8} (hF : F = frameB B) (hB : B.length ≤ 16777216) {k s : Int} {bd : List UInt8} {n : Int} (h : rdR F k s bd n) : k = 4 ∧ s = 0 ∧ B = bd ∧ n = ((B.length + 20 : Nat) : Int) := by
  obtain ⟨g1, g2, g3, g4, g5⟩ := rd_fr0 hF hB
  obtain ⟨h1, h2, h3, h4, _⟩ := h g2
  rw [g3] at h1
  rw [g4] at h2
  rw [g1, g5] at h3
  rw [g1] at h4
  exact ⟨h1, h2, h3.symm, h4⟩
theorem recW_ct (p4 p5 : Nat) : CtR Tryz.prog 49 [.pointer (some ⟨p4, 0, none⟩), .pointer (some ⟨p5, 0, none⟩)] [.cells p4 (msgL zms ⟨none, 0, none, 0, none, 0, none, 0, none, 0, none, 0, none, 0, none, 0⟩) 42, .cells p5 [.int .i64 0] 45] [] wFt
    (fun u G Q => u = .tuple #[] ∧ G = [.cells p4 (msgL zms ⟨none, 0, none, 0, none, 0, none, 0, none, 0, none, 0, none, 0, none, 0⟩) 42, .cells p5 [.int .i64 160] 45] ∧ Q = []) := by
  refine CtR.intro Tryz.func49 rfl rfl rfl rfl rfl (fun c hc => ?_)
  refine GC.seq' ?_
  refine GC.seq' ?_
  refine GC.region ?_
  refine GL.pure rfl (p_move rfl) ?_
  refine GL.pure rfl (p_ifNil rfl Tryz.underlying20) ?_
  refine GL.nil (?_ : GC _ _ _ _)
  refine GC.cond_false rfl ?_
  refine GC.skip (?_ : GC _ _ _ _)
  refine GC.seq' ?_
  refine GC.seq' ?_
  refine GC.region ?_
  refine GL.pure rfl (p_move rfl) ?_
  refine GL.pure rfl (p_assert rfl Tryz.underlying90 (fun m h => by cases h)) ?_
  refine GL.pure rfl (p_move rfl) ?_
  refine GL.pure rfl (p_extract rfl rfl) ?_
  refine GL.pure rfl (p_extract rfl rfl) ?_
  refine GL.step rfl (t_alloc rfl ze_90) (GL.ex fun b_t3 => ?_)
  refine GL.step rfl (t_storeN (i := 0) rfl rfl rfl sz_90 rfl rfl rfl) ?_
  refine GL.pure rfl (p_assign rfl) ?_
  refine GL.nil (?_ : GC _ _ _ _)
  refine GC.seq' ?_
  refine GC.region ?_
  refine GL.pure rfl (p_move rfl) ?_
  refine GL.pure rfl (p_not rfl) ?_
  refine GL.nil (?_ : GC _ _ _ _)
  refine GC.cond_false rfl ?_
  refine GC.skip (?_ : GC _ _ _ _)
  refine GC.region ?_
  refine GL.pure rfl (p_build ze_42 of_42 rfl rfl) ?_
  refine GL.step rfl (t_storeN (i := 1) rfl rfl rfl sz_42 rfl rfl rfl) ?_
  refine GL.step rfl (t_store (i := 2) rfl rfl rfl rfl sz_45 rfl rfl rfl) ?_
  refine GL.nil ?_
  refine fun a w h => Fin.back0 rfl (is := [1, 1]) (js := []) rfl rfl ?_ h
  clear h
  exact ⟨rfl, rfl, rfl⟩
def wdecF (B : List UInt8) : Option Msg := (wmsgF B).bind fun r => if r.2 = [] ∧ msgOk r.1 ∧ bodyB r.1 = B then some r.1 else none
abbrev DecM (x : Option Msg) (u : Value) (G : List Own) (Q : List Pers) : Prop := ∃ (m : Msg) (s : Lie) (k : Int), ((k = 0 → x = some m) ∧ (k ≠ 0 → x = none ∧ m = zms)) ∧ u = .tuple #[msgV m s, .int .i64 k] ∧ G = [] ∧ Q = msgQ m s
theorem wdec_ct (A : Option Addr) (B F : List UInt8) (cp : Nat) (hF : F = frameB B) (hB : B.length ≤ 16777216) (hlog : ∀ m M, wmsgF B = some (m, M) → m.log.length < 100000) (hcp : F.length ≤ cp) (hcp' : cp ≤ 9223372036854775807) : Ct Tryz.prog 18 [.slice A F.length cp] [] [Pers.row Kd.u8 A F] (DecM (wdecF B)) := by
 have hfl : F.length = B.length + 20 := by rw [hF, frameB_len]
 refine Ct.introD Tryz.func18 rfl rfl rfl (fun c hc hcD => ?_)
 refine GC.sr_ ?_; refine GL.step rfl (t_alloc rfl ze_42) (GL.ex fun b_t2 => ?_); refine GL.step rfl (t_alloc rfl ze_45) (GL.ex fun b_t3 => ?_); refine GL.nl_ ?_; refine GC.sr_ ?_; refine GL.know (q := Pers.row Kd.u8 none []) (fun _ _ _ => .inl rfl) ?_
 refine GL.know (q := Pers.row kI none []) (fun _ _ _ => .inl rfl) ?_; refine GL.know (q := Pers.row kPage none []) (fun _ _ _ => .inl rfl) ?_; refine GL.know (q := Pers.row kRow none []) (fun _ _ _ => .inl rfl) ?_; refine GL.know (q := Pers.row kEntry none []) (fun _ _ _ => .inl rfl) ?_
 refine GL.mv_ rfl rfl ?_; refine GL.step rfl (t_call rfl fn_48 rfl (is := []) (js := [5]) rfl rfl (by exact fread_ct _ F _ (by omega) hcp hcp')) (GL.ret ?_)
 rintro _ _ _ ⟨k13, s13, A13, bd13, cp13, n13, l13, c13, hr13, rfl, rfl, rfl⟩
 obtain ⟨rfl, rfl, rfl, rfl⟩ := rd_fr hF hB hr13
 rw [(rd_fr0 hF hB).2.1]
 refine GL.mv_ rfl rfl ?_
 iterate 3 refine GL.pure rfl (p_extract rfl rfl) ?_
 refine GL.step rfl (t_alloc rfl ze_55) (GL.ex fun b_t4 => ?_); refine GL.step rfl (t_storeN (i := 0) rfl rfl rfl sz_55 rfl rfl rfl) ?_
 iterate 2 refine GL.as_ rfl rfl ?_
 refine GL.nl_ ?_; refine GC.seq' ?_; refine GC.sr_ ?_; refine GL.mv_ rfl rfl ?_; refine GL.pure rfl (p_neq rfl rfl) ?_; refine GL.nl_ ?_; refine GC.cond_false rfl ?_
 refine GC.skip (?_ : GC _ _ _ _)
 refine GC.seq' ?_; refine GC.sr_ ?_
 iterate 2 refine GL.mv_ rfl rfl ?_
 refine GL.pure rfl (p_len Tryz.underlying25 rfl) ?_; refine GL.pure rfl (p_neq rfl rfl) ?_; refine GL.mv_ rfl rfl ?_; refine GL.split (i := 25) rfl (fun h1 => ?_) (fun h1 => ?_)
 ·try simp only [tst_] at h1
  exfalso; exact h1 (by omega)
 ·try simp only [tst_] at h1
  refine GL.pureG (s := 25) rfl rfl rfl (p_fieldAddr fo_55_0 rfl) ?_; refine GL.stepG rfl (s := 25) rfl rfl (t_mem rfl (m_load (i := 0) rfl rfl ag_5 rfl)) ?_; refine GL.pureG (s := 25) rfl rfl rfl (p_neq rfl rfl) ?_; refine GL.pure rfl (p_pick_false rfl rfl) ?_
  refine GL.mv_ rfl rfl ?_; refine GL.split (i := 30) rfl (fun h2 => ?_) (fun h2 => ?_)
  ·try simp only [tst_] at h2
   exfalso; exact h2 trivial
  ·try simp only [tst_] at h2
   refine GL.pureG (s := 30) rfl rfl rfl (p_fieldAddr fo_55_1 rfl) ?_; refine GL.stepG rfl (s := 30) rfl rfl (t_mem rfl (m_load (i := 0) rfl rfl ag_23 rfl)) ?_; refine GL.pureG (s := 30) rfl rfl rfl (p_neq rfl rfl) ?_; refine GL.pure rfl (p_pick_false rfl rfl) ?_
   refine GL.nl_ ?_; refine GC.cond rfl (fun h3 => ?_) (fun h3 => ?_)
   ·try simp only [tst_] at h3
    exfalso; exact h3 trivial
   ·try simp only [tst_] at h3
    refine GC.skip (?_ : GC _ _ _ _)
    refine GC.sr_ ?_; refine GL.pure rfl (p_makeFunc rfl rfl) ?_; refine GL.defer (f := 49) (us := [_, _]) hcD rfl ?_; refine GL.nl_ ?_; refine GC.sr_ ?_; refine GL.pure rfl (p_fieldAddr fo_55_2 rfl) ?_; refine GL.step rfl (t_mem rfl (m_load (i := 0) rfl rfl ag_25 rfl)) ?_
    refine GL.pure rfl (p_build ze_94 of_94 rfl rfl) ?_; refine GL.pure rfl (p_build ze_96 of_96 rfl rfl) ?_; refine GL.step rfl (t_box rfl rfl rfl) (GL.ex fun b_t41 => ?_); refine GL.as_ rfl rfl ?_; refine GL.nl_ ?_; refine GC.sr_ ?_
    refine GL.mv_ rfl rfl ?_; refine GL.callP rfl fn_50 rfl (is := [0]) (js := [0]) rfl rfl (by exact wmsg_ct _ _ _ B _ l13 c13 (by omega)) (fun v a w he h => by obtain ⟨rfl, hno⟩ := he; exact FinD.catch fn_49 (recW_ct _ _) (isC := [2, 1]) (jsC := []) rfl rfl (fun u G2 Q2 a w hR h => by obtain ⟨rfl, rfl, rfl⟩ := hR; exact Fin.back (rs := [.cell 2 42, .cell 3 45]) (vs := [_, _]) (is := []) (js := [4, 4, 4, 3, 2, 1, 3, 0]) rfl ⟨⟨0, _, _, _, _, rfl, rfl, .inr ⟨[_, _, _, _, _, _, _, _, _, _, _, _, _, _, _, _, _, _, _, _, _, _, _, _, _, _, _, _], rfl, ag_42, sz_42, ⟨rfl, rfl, rfl, rfl, rfl, rfl, rfl, rfl, rfl, rfl, rfl, rfl, rfl, rfl, rfl, rfl, rfl, rfl, rfl, rfl, rfl, rfl, rfl, rfl, rfl, rfl, rfl, rfl, trivial⟩⟩⟩, ⟨1, _, _, _, _, rfl, rfl, .inl ⟨ag_45, rfl⟩⟩, trivial⟩ rfl rfl (by exact ⟨zms, ⟨none, 0, none, 0, none, 0, none, 0, none, 0, none, 0, none, 0, none, 0⟩, 160, ⟨fun h => absurd h (by decide), fun _ => ⟨by rw [wdecF, hno]; rfl, rfl⟩⟩, rfl, rfl, rfl⟩) (((((h.know (q := Pers.row Kd.u8 none []) (fun _ _ _ => .inl rfl)).know (q := Pers.row kI none []) (fun _ _ _ => .inl rfl)).know (q := Pers.row kPage none []) (fun _ _ _ => .inl rfl)).know (q := Pers.row kRow none []) (fun _ _ _ => .inl rfl)).know (q := Pers.row kEntry none []) (fun _ _ _ => .inl rfl))) h) (GL.ret ?_)
    rintro _ _ _ ⟨m43, s43, L43, A43, c43, hs43, l43, k43, rfl, rfl, rfl⟩
    have hM := wmsgF_all hs43
    refine GL.step rfl (t_alloc rfl ze_42) (GL.ex fun b_t8 => ?_); refine GL.step rfl (t_storeN (i := 0) rfl rfl rfl sz_42 rfl rfl rfl) ?_; refine GL.nl_ ?_; refine GC.seq' ?_; refine GC.sr_ ?_; refine GL.mv_ rfl rfl ?_; refine GL.pure rfl (p_nilCheck rfl) ?_
    refine GL.pure rfl (p_fieldAddr fo_96_0 rfl) ?_; refine GL.pure rfl (p_fieldAddr fo_94_0 rfl) ?_; refine GL.step rfl (t_mem rfl (m_load (i := 1) rfl rfl ag_25 rfl)) ?_; refine GL.pure rfl (p_len Tryz.underlying25 rfl) ?_
    refine GL.pure rfl (p_gtr rfl rfl) ?_; refine GL.mv_ rfl rfl ?_; refine GL.split (i := 51) rfl (fun h4 => ?_) (fun h4 => ?_)
    ·try simp only [tst_] at h4
     iterate 3 refine GL.pass (s := 51) rfl rfl rfl ?_
     refine GL.pure rfl (p_pick_true rfl rfl) ?_; refine GL.nl_ ?_; refine GC.cond_true rfl ?_; refine GC.sr_ ?_; refine GL.pure rfl (p_build ze_42 of_42 rfl rfl) ?_; refine GL.step rfl (t_storeN (i := 4) rfl rfl rfl sz_42 rfl rfl rfl) ?_
     refine GL.step rfl (t_store (i := 3) rfl rfl rfl rfl sz_45 rfl rfl rfl) ?_; refine GL.nl_ ?_; refine GC.ret ?_
     refine fun a w h => FinD.back1 fn_49 (decode_idle _ _) (rs := [.cell 2 42, .cell 3 45]) (vs := [_, _]) (is := []) (js := [14, 14, 14, 13, 12, 11, 13, 10]) rfl ⟨⟨4, _, _, _, _, rfl, rfl, .inr ⟨[_, _, _, _, _, _, _, _, _, _, _, _, _, _, _, _, _, _, _, _, _, _, _, _, _, _, _, _], rfl, ag_42, sz_42, ⟨rfl, rfl, rfl, rfl, rfl, rfl, rfl, rfl, rfl, rfl, rfl, rfl, rfl, rfl, rfl, rfl, rfl, rfl, rfl, rfl, rfl, rfl, rfl, rfl, rfl, rfl, rfl, rfl, trivial⟩⟩⟩, ⟨3, _, _, _, _, rfl, rfl, .inl ⟨ag_45, rfl⟩⟩, trivial⟩ rfl rfl ?_ h
     clear h
     exact ⟨zms, ⟨none, 0, none, 0, none, 0, none, 0, none, 0, none, 0, none, 0, none, 0⟩, 160, ⟨fun h => absurd h (by decide), fun _ => ⟨by rw [wdecF, hs43, Option.bind_some]; exact if_neg (fun hh => by have h0 := congrArg List.length hh.1; simp only [List.length_nil] at h0; first | omega | exact absurd (msgE_yes hh.2.1) (by assumption)), rfl⟩⟩, rfl, rfl, rfl⟩
    ·try simp only [tst_] at h4
     refine GL.stepG rfl (s := 51) rfl rfl (t_mem rfl (m_loadN (i := 0) rfl rfl ag_42 (vs := [_, _, _, _, _, _, _, _, _, _, _, _, _, _, _, _, _, _, _, _, _, _, _, _, _, _, _, _]) sz_42 ⟨rfl, rfl, rfl, rfl, rfl, rfl, rfl, rfl, rfl, rfl, rfl, rfl, rfl, rfl, rfl, rfl, rfl, rfl, rfl, rfl, rfl, rfl, rfl, rfl, rfl, rfl, rfl, rfl, trivial⟩)) ?_
     refine GL.stepG rfl (s := 51) rfl rfl (t_call rfl fn_12 rfl (is := []) (js := [0, 1, 2, 3, 4, 5, 6, 7]) rfl rfl (by exact wchk_ct m43 s43 hM.len)) (GL.ret ?_)
     rintro _ _ _ ⟨rfl, rfl, rfl⟩
     refine GL.pureG (s := 51) rfl rfl rfl (p_neq rfl rfl) ?_; refine GL.pure rfl (p_pick_false rfl rfl) ?_; refine GL.nl_ ?_; refine GC.cond rfl (fun h5 => ?_) (fun h5 => ?_)
     ·try simp only [tst_] at h5
      refine GC.sr_ ?_; refine GL.pure rfl (p_build ze_42 of_42 rfl rfl) ?_; refine GL.step rfl (t_storeN (i := 4) rfl rfl rfl sz_42 rfl rfl rfl) ?_; refine GL.step rfl (t_store (i := 3) rfl rfl rfl rfl sz_45 rfl rfl rfl) ?_
      refine GL.nl_ ?_; refine GC.ret ?_
      refine fun a w h => FinD.back1 fn_49 (decode_idle _ _) (rs := [.cell 2 42, .cell 3 45]) (vs := [_, _]) (is := []) (js := [14, 14, 14, 13, 12, 11, 13, 10]) rfl ⟨⟨4, _, _, _, _, rfl, rfl, .inr ⟨[_, _, _, _, _, _, _, _, _, _, _, _, _, _, _, _, _, _, _, _, _, _, _, _, _, _, _, _], rfl, ag_42, sz_42, ⟨rfl, rfl, rfl, rfl, rfl, rfl, rfl, rfl, rfl, rfl, rfl, rfl, rfl, rfl, rfl, rfl, rfl, rfl, rfl, rfl, rfl, rfl, rfl, rfl, rfl, rfl, rfl, rfl, trivial⟩⟩⟩, ⟨3, _, _, _, _, rfl, rfl, .inl ⟨ag_45, rfl⟩⟩, trivial⟩ rfl rfl ?_ h
      clear h
      exact ⟨zms, ⟨none, 0, none, 0, none, 0, none, 0, none, 0, none, 0, none, 0, none, 0⟩, 160, ⟨fun h => absurd h (by decide), fun _ => ⟨by rw [wdecF, hs43, Option.bind_some]; exact if_neg (fun hh => by have h0 := congrArg List.length hh.1; simp only [List.length_nil] at h0; first | omega | exact absurd (msgE_yes hh.2.1) (by assumption)), rfl⟩⟩, rfl, rfl, rfl⟩
     ·try simp only [tst_] at h5
      refine GC.skip (?_ : GC _ _ _ _)
      iterate 2 refine GC.seq' ?_
      have hok : msgOk m43 := by rw [← msgE_iff]; assumption
      by_cases hlen : (bodyB m43).length ≤ 16777216
      ·skip
       refine GC.region ?_; refine GL.step rfl (t_mem rfl (m_loadN (i := 0) rfl rfl ag_42 (vs := [_, _, _, _, _, _, _, _, _, _, _, _, _, _, _, _, _, _, _, _, _, _, _, _, _, _, _, _]) sz_42 ⟨rfl, rfl, rfl, rfl, rfl, rfl, rfl, rfl, rfl, rfl, rfl, rfl, rfl, rfl, rfl, rfl, rfl, rfl, rfl, rfl, rfl, rfl, rfl, rfl, rfl, rfl, rfl, rfl, trivial⟩)) ?_
       refine GL.step rfl (t_call rfl fn_45 rfl (is := []) (js := [0, 1, 2, 3, 4, 5, 6, 7]) rfl rfl (by exact wbodyo_ok m43 s43 hM.len hok hM.nonce (hlog _ _ hs43) hlen)) (GL.ret ?_)
       rintro _ _ _ ⟨A59, cp59, l59, k59, rfl, rfl, rfl⟩
       refine GL.mv_ rfl rfl ?_
       iterate 2 refine GL.pure rfl (p_extract rfl rfl) ?_
       iterate 2 refine GL.as_ rfl rfl ?_
       refine GL.nil (?_ : GC _ _ _ _)
       refine GC.sr_ ?_; refine GL.mv_ rfl rfl ?_; refine GL.pure rfl (p_not rfl) ?_; refine GL.mv_ rfl rfl ?_; refine GL.pureG (s := 64) rfl rfl rfl (p_move rfl) ?_; refine GL.pureG (s := 64) rfl rfl rfl (p_fieldAddr fo_55_2 rfl) ?_
       refine GL.stepG rfl (s := 64) rfl rfl (t_mem rfl (m_load (i := 3) rfl rfl ag_25 rfl)) ?_; refine GL.freezeB (i := 0) rfl ?_; refine GL.stepG rfl (s := 64) rfl rfl (t_call rfl fn_35 rfl (is := []) (js := [0, 10]) rfl rfl (by exact equal_ct _ (bodyB m43) _ _ B _)) (GL.ret ?_)
       rintro _ _ _ ⟨rfl, rfl, rfl⟩
       refine GL.pureG (s := 64) rfl rfl rfl (p_not rfl) ?_; refine GL.pure rfl (p_pick_false rfl rfl) ?_; refine GL.nl_ ?_; refine GC.cond rfl (fun h6 => ?_) (fun h6 => ?_)
       ·try simp only [tst_] at h6
        refine GC.sr_ ?_; refine GL.pure rfl (p_build ze_42 of_42 rfl rfl) ?_; refine GL.step rfl (t_storeN (i := 4) rfl rfl rfl sz_42 rfl rfl rfl) ?_; refine GL.step rfl (t_store (i := 3) rfl rfl rfl rfl sz_45 rfl rfl rfl) ?_
        refine GL.nl_ ?_; refine GC.ret ?_
        refine fun a w h => FinD.back1 fn_49 (decode_idle _ _) (rs := [.cell 2 42, .cell 3 45]) (vs := [_, _]) (is := []) (js := [15, 15, 15, 14, 13, 12, 14, 11]) rfl ⟨⟨4, _, _, _, _, rfl, rfl, .inr ⟨[_, _, _, _, _, _, _, _, _, _, _, _, _, _, _, _, _, _, _, _, _, _, _, _, _, _, _, _], rfl, ag_42, sz_42, ⟨rfl, rfl, rfl, rfl, rfl, rfl, rfl, rfl, rfl, rfl, rfl, rfl, rfl, rfl, rfl, rfl, rfl, rfl, rfl, rfl, rfl, rfl, rfl, rfl, rfl, rfl, rfl, rfl, trivial⟩⟩⟩, ⟨3, _, _, _, _, rfl, rfl, .inl ⟨ag_45, rfl⟩⟩, trivial⟩ rfl rfl ?_ h
        clear h
        exact ⟨zms, ⟨none, 0, none, 0, none, 0, none, 0, none, 0, none, 0, none, 0, none, 0⟩, 160, ⟨fun h => absurd h (by decide), fun _ => ⟨by rw [wdecF, hs43, Option.bind_some]; exact if_neg (fun hh => by first | exact absurd hh.2.2 (by assumption) | exact hlen (by rw [hh.2.2]; exact hB)), rfl⟩⟩, rfl, rfl, rfl⟩
       ·try simp only [tst_] at h6
        refine GC.skip (?_ : GC _ _ _ _)
        refine GC.sr_ ?_; refine GL.step rfl (t_mem rfl (m_loadN (i := 0) rfl rfl ag_42 (vs := [_, _, _, _, _, _, _, _, _, _, _, _, _, _, _, _, _, _, _, _, _, _, _, _, _, _, _, _]) sz_42 ⟨rfl, rfl, rfl, rfl, rfl, rfl, rfl, rfl, rfl, rfl, rfl, rfl, rfl, rfl, rfl, rfl, rfl, rfl, rfl, rfl, rfl, rfl, rfl, rfl, rfl, rfl, rfl, rfl, trivial⟩)) ?_
        refine GL.step rfl (t_storeN (i := 4) rfl rfl rfl sz_42 rfl rfl rfl) ?_; refine GL.step rfl (t_store (i := 3) rfl rfl rfl rfl sz_45 rfl rfl rfl) ?_; refine GL.nl_ ?_; refine GC.ret ?_
        refine fun a w h => FinD.back1 fn_49 (decode_idle _ _) (rs := [.cell 2 42, .cell 3 45]) (vs := [_, _]) (is := []) (js := [1, 2, 3, 4, 5, 6, 7, 8]) rfl ⟨⟨4, _, _, _, _, rfl, rfl, .inr ⟨[_, _, _, _, _, _, _, _, _, _, _, _, _, _, _, _, _, _, _, _, _, _, _, _, _, _, _, _], rfl, ag_42, sz_42, ⟨rfl, rfl, rfl, rfl, rfl, rfl, rfl, rfl, rfl, rfl, rfl, rfl, rfl, rfl, rfl, rfl, rfl, rfl, rfl, rfl, rfl, rfl, rfl, rfl, rfl, rfl, rfl, rfl, trivial⟩⟩⟩, ⟨3, _, _, _, _, rfl, rfl, .inl ⟨ag_45, rfl⟩⟩, trivial⟩ rfl rfl ?_ h
        clear h
        exact ⟨m43, s43, 0, ⟨fun _ => by rw [wdecF, hs43, Option.bind_some]; exact if_pos ⟨List.eq_nil_of_length_eq_zero (by show L43.length = 0; omega), hok, by assumption⟩, fun h => absurd rfl h⟩, rfl, rfl, rfl⟩
      ·skip
       refine GC.region ?_; refine GL.step rfl (t_mem rfl (m_loadN (i := 0) rfl rfl ag_42 (vs := [_, _, _, _, _, _, _, _, _, _, _, _, _, _, _, _, _, _, _, _, _, _, _, _, _, _, _, _]) sz_42 ⟨rfl, rfl, rfl, rfl, rfl, rfl, rfl, rfl, rfl, rfl, rfl, rfl, rfl, rfl, rfl, rfl, rfl, rfl, rfl, rfl, rfl, rfl, rfl, rfl, rfl, rfl, rfl, rfl, trivial⟩)) ?_
       refine GL.step rfl (t_call rfl fn_45 rfl (is := []) (js := [0, 1, 2, 3, 4, 5, 6, 7]) rfl rfl (by exact wbodyo_long m43 s43 hM.len hok hM.nonce (hlog _ _ hs43) hlen)) (GL.ret ?_)
       rintro _ _ _ ⟨⟨A59, n59, cp59, rfl⟩, rfl, rfl⟩
       refine GL.mv_ rfl rfl ?_
       iterate 2 refine GL.pure rfl (p_extract rfl rfl) ?_
       iterate 2 refine GL.as_ rfl rfl ?_
       refine GL.nil (?_ : GC _ _ _ _)
       refine GC.sr_ ?_; refine GL.mv_ rfl rfl ?_; refine GL.pure rfl (p_not rfl) ?_; refine GL.mv_ rfl rfl ?_
       iterate 3 refine GL.pass (s := 64) rfl rfl rfl ?_
       skip
       iterate 2 refine GL.pass (s := 64) rfl rfl rfl ?_
       refine GL.pure rfl (p_pick_true rfl rfl) ?_; refine GL.nl_ ?_; refine GC.cond_true rfl ?_; refine GC.sr_ ?_; refine GL.pure rfl (p_build ze_42 of_42 rfl rfl) ?_; refine GL.step rfl (t_storeN (i := 4) rfl rfl rfl sz_42 rfl rfl rfl) ?_
       refine GL.step rfl (t_store (i := 3) rfl rfl rfl rfl sz_45 rfl rfl rfl) ?_; refine GL.nl_ ?_; refine GC.ret ?_
       refine fun a w h => FinD.back1 fn_49 (decode_idle _ _) (rs := [.cell 2 42, .cell 3 45]) (vs := [_, _]) (is := []) (js := [14, 14, 14, 13, 12, 11, 13, 10]) rfl ⟨⟨4, _, _, _, _, rfl, rfl, .inr ⟨[_, _, _, _, _, _, _, _, _, _, _, _, _, _, _, _, _, _, _, _, _, _, _, _, _, _, _, _], rfl, ag_42, sz_42, ⟨rfl, rfl, rfl, rfl, rfl, rfl, rfl, rfl, rfl, rfl, rfl, rfl, rfl, rfl, rfl, rfl, rfl, rfl, rfl, rfl, rfl, rfl, rfl, rfl, rfl, rfl, rfl, rfl, trivial⟩⟩⟩, ⟨3, _, _, _, _, rfl, rfl, .inl ⟨ag_45, rfl⟩⟩, trivial⟩ rfl rfl ?_ h
       clear h
       exact ⟨zms, ⟨none, 0, none, 0, none, 0, none, 0, none, 0, none, 0, none, 0, none, 0⟩, 160, ⟨fun h => absurd h (by decide), fun _ => ⟨by rw [wdecF, hs43, Option.bind_some]; exact if_neg (fun hh => by first | exact absurd hh.2.2 (by assumption) | exact hlen (by rw [hh.2.2]; exact hB)), rfl⟩⟩, rfl, rfl, rfl⟩
end Go.Proofs.YtdhdmbmknpjhbaaGreat
namespace Go.Proofs.YtdhdmbmknpjhbaaGreat
open Go Go.Sx Go.Proofs
theorem wnum_app {n v : Nat} {L : List UInt8} (h : v < 256 ^ n) : wnumF n (leN n v ++ L) = some ((v : Int), L) := by
  have hl := leN_length n v
  have e1 : seg (leN n v ++ L) 0 n = leN n v := by rw [seg, List.drop_zero, List.take_append_of_le_length (by omega)]; exact List.take_of_length_le (by omega)
  have e2 : (leN n v ++ L).drop n = L := List.drop_left' hl
  rw [wnumF, if_pos (by rw [List.length_append]; omega), e1, e2, valN_leN _ _ h]
theorem wsm_app {v : Int} {L : List UInt8} (h : in62 v) : wsmF (leN 8 (u64 v) ++ L) = some (v, L) := by
  obtain ⟨h0, h1⟩ := h
  have e : u64 v = v.toNat := by unfold u64; omega
  have h8 : v.toNat < 256 ^ 8 := by rw [p256_8]; omega
  rw [wsmF, e, wnum_app h8, Option.bind_some]
  have : ((v.toNat : Nat) : Int) = v := by omega
  dsimp only
  rw [this, if_pos h1]
theorem wrap_u64 {v : Int} (h : -9223372036854775808 ≤ v) (h' : v ≤ 9223372036854775807) : IntKind.i64.wrap ((u64 v : Nat) : Int) = v := by
  unfold u64
  simp [IntKind.wrap, IntKind.bits, IntKind.signed]
  omega
theorem bit1 (m : Msg) : bitN (partsN m) 1 = 0 ↔ m.op = zop := by rw [bitN, partsN, and_b1, bi1]; simp
theorem bit2 (m : Msg) : bitN (partsN m) 2 = 0 ↔ m.res = rz := by rw [bitN, partsN, and_b2, bi2]; simp
theorem bit4 (m : Msg) : bitN (partsN m) 4 = 0 ↔ m.grp = zgr := by rw [bitN, partsN, and_b4, bi4]; simp
theorem bit8 (m : Msg) : bitN (partsN m) 8 = 0 ↔ m.stt = zst := by rw [bitN, partsN, and_b8, bi8]; simp
theorem wpO_app {m : Msg} {L : List UInt8} (hr : MsgR m) : wpO (partsN m) (pO m ++ L) = some (m.op, L) := by
  unfold wpO pO
  by_cases h : m.op = zop
  · rw [if_pos ((bit1 m).2 h), if_pos h, h]; rfl
  · rw [if_neg (fun g => h ((bit1 m).1 g)), if_neg h]
    obtain ⟨u, e, g⟩ := decOp_at (b := opB m.op ++ L) rfl (hr.op h)
    rw [e, Option.map_some, g.2]
theorem wpR_app {m : Msg} {L : List UInt8} (hr : MsgR m) : wpR (partsN m) (pR m ++ L) = some (m.res, L) := by
  unfold wpR pR
  by_cases h : m.res = rz
  · rw [if_pos ((bit2 m).2 h), if_pos h, h]; rfl
  · rw [if_neg (fun g => h ((bit2 m).1 g)), if_neg h]
    obtain ⟨u, e, g⟩ := decRes_at (b := resB m.res ++ L) rfl (hr.res h)
    rw [e, Option.map_some, g.2]
theorem wgrp_app {g : Grp} {L : List UInt8} (hg : groupOk g.epoch g.members = true) : wgrpF (grpB g ++ L) = some (g, L) := by
  obtain ⟨r1, r2, r3, r4, r5⟩ := grp_rng hg
  have e8 : u64 g.epoch = g.epoch.toNat := by unfold u64; omega
  rw [grpB, flZ_one, flZ_one, ← e8, List.append_assoc, List.append_assoc, wgrpF, wsm_app ⟨r4, r5⟩, Option.bind_some, wnum_app (by rw [p256_1]; omega), Option.bind_some]
  obtain ⟨u, e1, e2⟩ := manyF_enc (f := wnumF 1) (enc := fun x : Int => leN 1 x.toNat) (fun t M => t = M) L (xs := g.members) (t := flZ 1 g.members ++ L) (fun x hx t M h => by
    have := r1 x hx
    refine ⟨M, ?_, rfl⟩
    rw [h, wnum_app (by rw [p256_1]; omega)]
    have : ((x.toNat : Nat) : Int) = x := by omega
    rw [this]) rfl
  subst e2
  rw [show ((((g.members.length : Int)).toNat : Nat) : Int).toNat = g.members.length by omega, e1]
  rfl
theorem wpG_app {m : Msg} {L : List UInt8} (hr : MsgR m) : wpG (partsN m) (pG m ++ L) = some (m.grp, L) := by
  unfold wpG pG
  by_cases h : m.grp = zgr
  · rw [if_pos ((bit4 m).2 h), if_pos h, h]; rfl
  · rw [if_neg (fun g => h ((bit4 m).1 g)), if_neg h, wgrp_app (hr.grp h)]
theorem wpS_app {m : Msg} {L : List UInt8} (hr : MsgR m) (hl : (pS m ++ L).length ≤ 33554432) : wpS (partsN m) (pS m ++ L) = some (m.stt, L) := by
  unfold wpS
  by_cases h : m.stt = zst
  · rw [if_pos ((bit8 m).2 h), pS, if_pos h, h]; rfl
  · rw [if_neg (fun g => h ((bit8 m).1 g))]
    rw [pS, if_neg h] at hl ⊢
    obtain ⟨u, e, g⟩ := mstF_at (At.zero (sttB m.stt ++ L)) (hr.stt h) hl
    rw [e, Option.map_some, g.2]
theorem went_app {e : Entry} {L : List UInt8} (he : entOk e) : went (entB e ++ L) = some (e, L) := by
  obtain ⟨u, h, g⟩ := mentF_at (At.zero (entB e ++ L)) he
  rw [went, h, Option.map_some, g.2]
theorem wmsg_back {m : Msg} (hok : msgOk m) (hn : 0 ≤ m.nonce ∧ m.nonce < 18446744073709551616) (hlog : m.log.length < 100000) (hB : (bodyB m).length ≤ 16777216) : wmsgF (bodyB m) = some (m, []) := by
  have hr := msg_rng hok
  have hpn := partsN_rng m
  obtain ⟨⟨n1, n2, n3, n4, n5, n6, n7⟩, k1, k2, w1, w2, _, _⟩ := hok
  have p8 : (256 : Nat) ^ 8 = 18446744073709551616 := p256_8
  have p4 : (256 : Nat) ^ 4 = 4294967296 := p256_4
  have p1 : (256 : Nat) ^ 1 = 256 := p256_1
  have hl : (pS m ++ (leN 4 m.log.length ++ m.log.flatMap entB)).length ≤ 33554432 := by
    simp only [bodyB, preB, List.length_append] at hB
    simp only [List.length_append]; omega
  have hs : -4611686018427387904 ≤ m.src ∧ m.src < 64 := w1
  have hd : -4611686018427387904 ≤ m.dst ∧ m.dst < 64 := w2
  obtain ⟨u, e1, e2⟩ := manyF_enc (f := went) (enc := entB) (fun t M => t = M) [] (xs := m.log) (t := m.log.flatMap entB ++ []) (fun x hx t M h => ⟨M, by rw [h, went_app (hr.log x hx)], rfl⟩) rfl
  subst e2
  rw [List.append_nil] at e1
  rw [bodyB, preB, hdB, byI_le (by omega) (by omega), byI_le hpn.1 hpn.2]
  simp only [flI, List.flatMap_cons, List.flatMap_nil, List.append_assoc, List.append_nil, List.nil_append]
  rw [wmsgF, wnum_app (by omega), Option.bind_some, wnum_app (by rw [p8]; exact u64_lt _), Option.bind_some, wnum_app (by rw [p8]; exact u64_lt _), Option.bind_some, wsm_app n1, Option.bind_some, wsm_app n2, Option.bind_some, wsm_app n3, Option.bind_some, wsm_app n4, Option.bind_some, wsm_app n5, Option.bind_some, wnum_app (by rw [p8]; exact u64_lt _), Option.bind_some, wsm_app n6, Option.bind_some, wsm_app n7, Option.bind_some]
  rw [wprtF, wnum_app (by omega), Option.bind_some]
  dsimp only
  rw [show ((m.kind.toNat : Nat) : Int) = m.kind by omega, show (((partsN m).toNat : Nat) : Int) = partsN m by omega, wpO_app hr, Option.bind_some, wpR_app hr, Option.bind_some, wpG_app hr, Option.bind_some, wpS_app hr hl, Option.map_some, Option.bind_some]
  dsimp only
  rw [wnum_app (by omega), Option.bind_some]
  dsimp only
  rw [show ((m.log.length : Nat) : Int).toNat = m.log.length from rfl, e1, Option.map_some, wrap_u64 (by omega) (by omega), wrap_u64 (by omega) (by omega), ← u64_eq hn.1 hn.2]
theorem wdec_back {m : Msg} (hok : msgOk m) (hn : 0 ≤ m.nonce ∧ m.nonce < 18446744073709551616) (hlog : m.log.length < 100000) (hB : (bodyB m).length ≤ 16777216) : wdecF (bodyB m) = some m := by
  rw [wdecF, wmsg_back hok hn hlog hB, Option.bind_some]
  exact if_pos ⟨rfl, hok, rfl⟩
end Go.Proofs.YtdhdmbmknpjhbaaGreat
namespace Go.Proofs.YtdhdmbmknpjhbaaGreat
open Go Go.Sx Go.Proofs
theorem awM_ok : msgOk awM := by rw [← msgE_iff]; decide +kernel
theorem awM_body : bodyB awM = awB := by decide +kernel
theorem awM_enc : Ct Tryz.prog 16 [awV] [] [] (EncO 0 awF) := by
  have h := wenco_ct awM lie0 awM_len ⟨by decide, by decide⟩ (by decide)
  rw [show encFo awM = (0, awF) from by rw [encFo, if_pos awM_ok, awM_body, if_pos (by rw [awB_len]; omega)]; rfl] at h
  exact Ct.qperm h (fun q hq => .inr (nilq hq))
theorem awM_dec : wdecF awB = some awM := by
  rw [← awM_body]; exact wdec_back awM_ok ⟨by decide, by decide⟩ (by decide) (by rw [awM_body, awB_len]; omega)
theorem awM_log (m : Msg) (M : List UInt8) (h : wmsgF awB = some (m, M)) : m.log.length < 100000 := by
  have := (wmsgF_all h).log; rw [awB_len] at this; omega
theorem awM_two {m : Msg} {k : Int} (h : (k = 0 → wdecF awB = some m) ∧ (k ≠ 0 → wdecF awB = none ∧ m = zms)) : k = 0 ∧ m = awM := by
  by_cases hk : k = 0
  · have := h.1 hk
    rw [awM_dec] at this
    exact ⟨hk, (Option.some.inj this).symm⟩
  · have := (h.2 hk).1
    rw [awM_dec] at this; cases this
theorem awM_same (s : Lie) : Ct Tryz.prog 14 [awV, msgV awM s] [] (msgQ awM s) (fun u G Q => u = .bool true ∧ G = [] ∧ Q = []) :=
  Ct.qperm (Ct.mono (wsame_ct awM awM lie0 s awM_len) fun u G Q h => ⟨h.1.trans (by simp), h.2⟩) fun q hq => by
    rcases List.mem_append.1 hq with hq | hq
    · exact .inr (nilq hq)
    · exact .inl hq
theorem awk_ct : Ct Tryz.prog 11 [] [] [] (fun u G Q => u = .bool true ∧ G = [] ∧ Q = []) := by
 refine Ct.intro Tryz.func11 rfl rfl rfl (fun c hc => ?_)
 refine GC.sr_ ?_; refine GL.as_ rfl rfl ?_; refine GL.nl_ ?_; refine GC.sr_ ?_; refine GL.pure rfl (p_build ze_42 of_42 rfl rfl) ?_; refine GL.step rfl (t_alloc rfl ze_42) (GL.ex fun b_t1 => ?_); refine GL.step rfl (t_storeN (i := 0) rfl rfl rfl sz_42 rfl rfl rfl) ?_
 refine GL.nl_ ?_; refine GC.sr_ ?_; refine GL.step rfl (t_mem rfl (m_loadN (i := 0) rfl rfl ag_42 (vs := [_, _, _, _, _, _, _, _, _, _, _, _, _, _, _, _, _, _, _, _, _, _, _, _, _, _, _, _]) sz_42 ⟨rfl, rfl, rfl, rfl, rfl, rfl, rfl, rfl, rfl, rfl, rfl, rfl, rfl, rfl, rfl, rfl, rfl, rfl, rfl, rfl, rfl, rfl, rfl, rfl, rfl, rfl, rfl, rfl, trivial⟩)) ?_
 refine GL.step rfl (t_call rfl fn_16 rfl (is := []) (js := []) rfl rfl (by exact awM_enc)) (GL.ret ?_)
 rintro _ _ _ ⟨A9, cp9, l9, k9, rfl, rfl, rfl⟩
 refine GL.mv_ rfl rfl ?_
 iterate 2 refine GL.pure rfl (p_extract rfl rfl) ?_
 iterate 2 refine GL.as_ rfl rfl ?_
 refine GL.nl_ ?_; refine GC.sr_ ?_; refine GL.mv_ rfl rfl ?_; refine GL.freezeB (i := 0) rfl ?_; refine GL.step rfl (t_call rfl fn_18 rfl (is := []) (js := [0]) rfl rfl (by exact wdec_ct _ awB awF _ rfl (by rw [awB_len]; omega) awM_log l9 k9)) (GL.ret ?_)
 rintro _ _ _ ⟨m14, s14, k14, hd14, rfl, rfl, rfl⟩
 obtain ⟨rfl, rfl⟩ := awM_two hd14
 refine GL.mv_ rfl rfl ?_
 iterate 2 refine GL.pure rfl (p_extract rfl rfl) ?_
 refine GL.step rfl (t_alloc rfl ze_42) (GL.ex fun b_t4 => ?_); refine GL.step rfl (t_storeN (i := 0) rfl rfl rfl sz_42 rfl rfl rfl) ?_; refine GL.as_ rfl rfl ?_; refine GL.nl_ ?_; refine GC.sr_ ?_; refine GL.mv_ rfl rfl ?_
 refine GL.pure rfl (p_eql rfl rfl) ?_; refine GL.mv_ rfl rfl ?_; refine GL.pureG (s := 19) rfl rfl rfl (p_move rfl) ?_; refine GL.pureG (s := 19) rfl rfl rfl (p_eql rfl rfl) ?_; refine GL.pure rfl (p_pick_true rfl rfl) ?_
 refine GL.mv_ rfl rfl ?_; refine GL.pureG (s := 23) rfl rfl rfl (p_move rfl) ?_; refine GL.pureG (s := 23) rfl rfl rfl (p_len Tryz.underlying25 rfl) ?_; refine GL.pureG (s := 23) rfl rfl rfl (p_eql rfl rfl) ?_; refine GL.pure rfl (p_pick_true rfl rfl) ?_
 refine GL.mv_ rfl rfl ?_; refine GL.split (i := 28) rfl (fun h1 => ?_) (fun h1 => ?_)
 ·try simp only [tst_] at h1
  first
  | (exfalso; first | exact h1 rfl | exact h1 trivial | exact h1 (by rw [awF_len]; rfl) | exact absurd h1 (by decide))
  |(skip
    refine GL.stepG rfl (s := 28) rfl rfl (t_mem rfl (m_loadN (i := 1) rfl rfl ag_42 (vs := [_, _, _, _, _, _, _, _, _, _, _, _, _, _, _, _, _, _, _, _, _, _, _, _, _, _, _, _]) sz_42 ⟨rfl, rfl, rfl, rfl, rfl, rfl, rfl, rfl, rfl, rfl, rfl, rfl, rfl, rfl, rfl, rfl, rfl, rfl, rfl, rfl, rfl, rfl, rfl, rfl, rfl, rfl, rfl, rfl, trivial⟩)) ?_
    refine GL.stepG rfl (s := 28) rfl rfl (t_mem rfl (m_loadN (i := 0) rfl rfl ag_42 (vs := [_, _, _, _, _, _, _, _, _, _, _, _, _, _, _, _, _, _, _, _, _, _, _, _, _, _, _, _]) sz_42 ⟨rfl, rfl, rfl, rfl, rfl, rfl, rfl, rfl, rfl, rfl, rfl, rfl, rfl, rfl, rfl, rfl, rfl, rfl, rfl, rfl, rfl, rfl, rfl, rfl, rfl, rfl, rfl, rfl, trivial⟩)) ?_
    refine GL.stepG rfl (s := 28) rfl rfl (t_call rfl fn_14 rfl (is := []) (js := [0, 1, 2, 3, 4, 5, 6, 7]) rfl rfl (by exact awM_same s14)) (GL.ret ?_)
    rintro _ _ _ ⟨rfl, rfl, rfl⟩
    refine GL.pure rfl (p_pick_true rfl rfl) ?_; refine GL.mv_ rfl rfl ?_; refine GL.pureG (s := 33) rfl rfl rfl (p_fieldAddr fo_42_2 rfl) ?_; refine GL.stepG rfl (s := 33) rfl rfl (t_mem rfl (m_load (i := 0) rfl rfl ag_3 rfl)) ?_
    refine GL.pureG (s := 33) rfl rfl rfl (p_eql rfl rfl) ?_; refine GL.pure rfl (p_pick_true rfl rfl) ?_; refine GL.as_ rfl rfl ?_; refine GL.nl_ ?_; refine GC.ret ?_
    refine fun a w h => Fin.back (rs := [.tmp 0]) (vs := [_]) (is := []) (js := []) rfl ⟨rfl, trivial⟩ rfl rfl ?_ h
    clear h
    exact ⟨by first | rfl | decide, rfl, rfl⟩)
 ·try simp only [tst_] at h1
  first
  | (exfalso; first | exact h1 rfl | exact h1 trivial | exact h1 (by rw [awF_len]; rfl) | exact absurd h1 (by decide))
  |(skip
    iterate 3 refine GL.pass (s := 28) rfl rfl rfl ?_
    refine GL.pure rfl (p_pick_false rfl rfl) ?_; refine GL.mv_ rfl rfl ?_
    iterate 3 refine GL.pass (s := 33) rfl rfl rfl ?_
    refine GL.pure rfl (p_pick_false rfl rfl) ?_; refine GL.as_ rfl rfl ?_; refine GL.nl_ ?_; refine GC.ret ?_
    refine fun a w h => Fin.back (rs := [.tmp 0]) (vs := [_]) (is := []) (js := []) rfl ⟨rfl, trivial⟩ rfl rfl ?_ h
    clear h
    exact ⟨by first | rfl | decide, rfl, rfl⟩)
end Go.Proofs.YtdhdmbmknpjhbaaGreat
namespace Go.Proofs.YtdhdmbmknpjhbaaGreat
open Go Go.Sx Go.Proofs
theorem encFo_inv {m : Msg} (h : (encFo m).1 = 0) : msgOk m ∧ (bodyB m).length ≤ 16777216 ∧ (encFo m).2 = frameB (bodyB m) := by
  unfold encFo at h ⊢
  split at h
  · split at h
    · rename_i h1 h2
      exact ⟨h1, h2, by rw [if_pos h1, if_pos h2]⟩
    · cases h
  · cases h
theorem encFo_nil {m : Msg} (h : ¬ (encFo m).1 = 0) : (encFo m).2.length = 0 := by
  unfold encFo at h ⊢
  split
  · rename_i h1
    rw [if_pos h1] at h
    split
    · rename_i h2
      rw [if_pos h2] at h; exact absurd rfl h
    · rfl
  · rfl
theorem back_log {m : Msg} (hn : 0 ≤ m.nonce ∧ m.nonce < 18446744073709551616) (hlog : m.log.length < 100000) (h : (encFo m).1 = 0) (x : Msg) (M : List UInt8) (hx : wmsgF (bodyB m) = some (x, M)) : x.log.length < 100000 := by
  obtain ⟨h1, h2, _⟩ := encFo_inv h
  rw [wmsg_back h1 hn hlog h2] at hx
  rw [← (Prod.mk.inj (Option.some.inj hx)).1]; exact hlog
theorem back_two {m x : Msg} {k : Int} (hn : 0 ≤ m.nonce ∧ m.nonce < 18446744073709551616) (hlog : m.log.length < 100000) (he : (encFo m).1 = 0) (h : (k = 0 → wdecF (bodyB m) = some x) ∧ (k ≠ 0 → wdecF (bodyB m) = none ∧ x = zms)) : k = 0 ∧ m = x := by
  obtain ⟨h1, h2, _⟩ := encFo_inv he
  have e := wdec_back h1 hn hlog h2
  by_cases hk : k = 0
  · have := h.1 hk
    rw [e] at this
    exact ⟨hk, Option.some.inj this⟩
  · have := (h.2 hk).1
    rw [e] at this; cases this
theorem wireBack_ct (m : Msg) (s : Lie) (hm : MsgLen m) (hn : 0 ≤ m.nonce ∧ m.nonce < 18446744073709551616) : Ct Tryz.prog 7 [msgV m s] [] (msgQ m s) (fun u G Q => u = .bool true ∧ G = [] ∧ Q = []) := by
 refine Ct.intro Tryz.func7 rfl rfl rfl (fun c hc => ?_)
 refine GC.sr_ ?_; refine GL.step rfl (t_box rfl rfl rfl) (GL.ex fun b_t1 => ?_); refine GL.as_ rfl rfl ?_; refine GL.nl_ ?_; refine GC.seq' ?_; refine GC.sr_ ?_; refine GL.step rfl (t_call rfl fn_11 rfl (is := []) (js := []) rfl rfl (by exact awk_ct)) (GL.ret ?_)
 rintro _ _ _ ⟨rfl, rfl, rfl⟩
 refine GL.pure rfl (p_not rfl) ?_; refine GL.nl_ ?_; refine GC.cond_false rfl ?_
 refine GC.skip (?_ : GC _ _ _ _)
 refine GC.seq' ?_; refine GC.sr_ ?_; refine GL.step rfl (t_mem rfl (m_loadN (i := 0) rfl rfl ag_42 (vs := [_, _, _, _, _, _, _, _, _, _, _, _, _, _, _, _, _, _, _, _, _, _, _, _, _, _, _, _]) sz_42 ⟨rfl, rfl, rfl, rfl, rfl, rfl, rfl, rfl, rfl, rfl, rfl, rfl, rfl, rfl, rfl, rfl, rfl, rfl, rfl, rfl, rfl, rfl, rfl, rfl, rfl, rfl, rfl, rfl, trivial⟩)) ?_
 refine GL.step rfl (t_call rfl fn_10 rfl (is := []) (js := [0, 1, 2, 3, 4, 5, 6, 7]) rfl rfl (by exact small_ct m s hm)) (GL.ret ?_)
 rintro _ _ _ ⟨b10, hb10, rfl, rfl, rfl⟩
 refine GL.pure rfl (p_not rfl) ?_; refine GL.nl_ ?_; refine GC.cond rfl (fun h1 => ?_) (fun h1 => ?_)
 ·try simp only [tst_] at h1
  first
  | (exfalso; first | exact h1 rfl | exact h1 trivial | omega | (simp at h1; done))
  |(skip
    refine GC.sr_ ?_; refine GL.as_ rfl rfl ?_; refine GL.nl_ ?_; refine GC.ret ?_
    refine fun a w h => Fin.back (rs := [.tmp 2]) (vs := [_]) (is := []) (js := []) rfl ⟨rfl, trivial⟩ rfl rfl ?_ h
    clear h
    exact ⟨rfl, rfl, rfl⟩)
 ·try simp only [tst_] at h1
  first
  | (exfalso; first | exact h1 rfl | exact h1 trivial | omega | (simp at h1; done))
  |(skip
    refine GC.skip (?_ : GC _ _ _ _)
    refine GC.sr_ ?_; refine GL.step rfl (t_mem rfl (m_loadN (i := 0) rfl rfl ag_42 (vs := [_, _, _, _, _, _, _, _, _, _, _, _, _, _, _, _, _, _, _, _, _, _, _, _, _, _, _, _]) sz_42 ⟨rfl, rfl, rfl, rfl, rfl, rfl, rfl, rfl, rfl, rfl, rfl, rfl, rfl, rfl, rfl, rfl, rfl, rfl, rfl, rfl, rfl, rfl, rfl, rfl, rfl, rfl, rfl, rfl, trivial⟩)) ?_
    refine GL.step rfl (t_call rfl fn_16 rfl (is := []) (js := [0, 1, 2, 3, 4, 5, 6, 7]) rfl rfl (by exact wenco_ct m s hm hn (hb10 (by assumption)))) (GL.ret ?_)
    rintro _ _ _ ⟨A14, cp14, l14, k14, rfl, rfl, rfl⟩
    refine GL.mv_ rfl rfl ?_
    iterate 2 refine GL.pure rfl (p_extract rfl rfl) ?_
    iterate 2 refine GL.as_ rfl rfl ?_
    refine GL.nl_ ?_; refine GC.seq' ?_; refine GC.sr_ ?_; refine GL.mv_ rfl rfl ?_; refine GL.pure rfl (p_neq rfl rfl) ?_; refine GL.nl_ ?_; refine GC.cond rfl (fun h2 => ?_) (fun h2 => ?_)
    ·try simp only [tst_] at h2
     first
     | (exfalso; first | exact h2 rfl | exact h2 trivial | omega | (simp at h2; done))
     |(skip
       refine GC.sr_ ?_; refine GL.mv_ rfl rfl ?_; refine GL.pure rfl (p_len Tryz.underlying25 rfl) ?_; refine GL.pure rfl (p_eql rfl rfl) ?_; refine GL.as_ rfl rfl ?_; refine GL.nl_ ?_; refine GC.ret ?_
       refine fun a w h => Fin.back (rs := [.tmp 2]) (vs := [_]) (is := []) (js := []) rfl ⟨rfl, trivial⟩ rfl rfl ?_ h
       clear h
       exact ⟨congrArg Value.bool (decide_eq_true (by have := encFo_nil (m := m) (by assumption); omega)), rfl, rfl⟩)
    ·try simp only [tst_] at h2
     first
     | (exfalso; first | exact h2 rfl | exact h2 trivial | omega | (simp at h2; done))
     |(skip
       refine GC.skip (?_ : GC _ _ _ _)
       refine GC.sr_ ?_
       have hlog := hb10 (by assumption)
       have he : (encFo m).1 = 0 := by omega
       obtain ⟨hok, hL, hF⟩ := encFo_inv he
       refine GL.mv_ rfl rfl ?_; refine GL.freezeB (i := 0) rfl ?_; refine GL.step rfl (t_call rfl fn_18 rfl (is := []) (js := [0]) rfl rfl (by exact wdec_ct _ (bodyB m) (encFo m).2 _ hF hL (back_log hn hlog he) l14 k14)) (GL.ret ?_)
       rintro _ _ _ ⟨m24, s24, k24, hd24, rfl, rfl, rfl⟩
       obtain ⟨rfl, rfl⟩ := back_two hn hlog he hd24
       refine GL.mv_ rfl rfl ?_
       iterate 2 refine GL.pure rfl (p_extract rfl rfl) ?_
       refine GL.step rfl (t_alloc rfl ze_42) (GL.ex fun b_t5 => ?_); refine GL.step rfl (t_storeN (i := 0) rfl rfl rfl sz_42 rfl rfl rfl) ?_; refine GL.as_ rfl rfl ?_; refine GL.nl_ ?_; refine GC.sr_ ?_; refine GL.mv_ rfl rfl ?_
       refine GL.pure rfl (p_eql rfl rfl) ?_; refine GL.mv_ rfl rfl ?_; refine GL.stepG rfl (s := 29) rfl rfl (t_mem rfl (m_loadN (i := 0) rfl rfl ag_42 (vs := [_, _, _, _, _, _, _, _, _, _, _, _, _, _, _, _, _, _, _, _, _, _, _, _, _, _, _, _]) sz_42 ⟨rfl, rfl, rfl, rfl, rfl, rfl, rfl, rfl, rfl, rfl, rfl, rfl, rfl, rfl, rfl, rfl, rfl, rfl, rfl, rfl, rfl, rfl, rfl, rfl, rfl, rfl, rfl, rfl, trivial⟩)) ?_
       refine GL.stepG rfl (s := 29) rfl rfl (t_mem rfl (m_loadN (i := 1) rfl rfl ag_42 (vs := [_, _, _, _, _, _, _, _, _, _, _, _, _, _, _, _, _, _, _, _, _, _, _, _, _, _, _, _]) sz_42 ⟨rfl, rfl, rfl, rfl, rfl, rfl, rfl, rfl, rfl, rfl, rfl, rfl, rfl, rfl, rfl, rfl, rfl, rfl, rfl, rfl, rfl, rfl, rfl, rfl, rfl, rfl, rfl, rfl, trivial⟩)) ?_
       refine GL.stepG rfl (s := 29) rfl rfl (t_call rfl fn_15 rfl (is := []) (js := [0, 1, 2, 3, 4, 5, 6, 7, 9, 10, 11, 12, 13, 14, 15, 16]) rfl rfl (by exact rmsame_ct m m s24 s hm)) (GL.ret ?_)
       rintro _ _ _ ⟨rfl, rfl, rfl⟩
       refine GL.pure rfl (p_pick_true rfl rfl) ?_; refine GL.as_ rfl rfl ?_; refine GL.nl_ ?_; refine GC.ret ?_
       refine fun a w h => Fin.back (rs := [.tmp 2]) (vs := [_]) (is := []) (js := []) rfl ⟨rfl, trivial⟩ rfl rfl ?_ h
       clear h
       exact ⟨congrArg Value.bool (by simp), rfl, rfl⟩))
end Go.Proofs.YtdhdmbmknpjhbaaGreat
