/- Texts of this claim, in one: what the law leans on (part 6). -/
import Derived.Test.YtdhdmbmknpjhbaaGreatQ5
set_option linter.unusedVariables false
set_option linter.unusedSimpArgs false
set_option maxRecDepth 100000
namespace Go.Proofs.YtdhdmbmknpjhbaaGreat
open Go Go.Sx Go.Proofs
theorem message_aw (p e_ : Nat) (A : Option Addr) (cp : Nat) (hcp : 86 ≤ cp) : Ct Tryz.prog 50 [.pointer (some ⟨p, 0, none⟩)] (leftG p e_ A (awB.drop 0) cp) [Pers.row Kd.u8 A (awB.drop 0)]
    (fun u G Q => ∃ A', u = awV ∧ G = leftG p e_ A' (awB.drop 86) (cp - 1 - 8 - 8 - 8 - 8 - 8 - 8 - 8 - 8 - 8 - 8 - 1 - 4) ∧ Q = [Pers.row Kd.u8 A' (awB.drop 86)]) := by
 refine Ct.intro Tryz.func50 rfl rfl rfl (fun c hc => ?_)
 refine GC.seq' ?_
 refine GC.region ?_
 refine GL.step rfl (t_alloc rfl ze_42) (GL.ex fun b_t2 => ?_)
 refine GL.nil (?_ : GC _ _ _ _)
 refine GC.seq' ?_
 refine GC.regionC (m := 18) (is := [0]) (js := [0]) wide_ rfl rfl rfl ?_
 refine GA.take 0 rfl (by kernel_rfl) (by kernel_rfl) (by kernel_rfl) rfl (fun a w h => h.mem (is := [0]) (js := [0]) rfl rfl) (i_pure (p_move rfl)) ?_
 refine GA.take 1 rfl (by kernel_rfl) (by kernel_rfl) (by kernel_rfl) rfl (fun a w h => h.mem (is := [0]) (js := [0]) rfl rfl) (i_pure (p_nilCheck rfl)) ?_
 refine GA.take 2 rfl (by kernel_rfl) (by kernel_rfl) (by kernel_rfl) rfl (fun a w h => h.mem (is := [0]) (js := [0]) rfl rfl) (i_pure (p_fieldAddr fo_96_0 rfl)) ?_
 refine GA.take 5 rfl (by kernel_rfl) (by kernel_rfl) (by kernel_rfl) rfl (fun a w h => h.mem (is := [0]) (js := [0]) rfl rfl) (i_pure (p_move rfl)) ?_
 refine GA.take 6 rfl (by kernel_rfl) (by kernel_rfl) (by kernel_rfl) rfl (fun a w h => h.mem (is := [0]) (js := [0]) rfl rfl) (i_pure (p_nilCheck rfl)) ?_
 refine GA.take 7 rfl (by kernel_rfl) (by kernel_rfl) (by kernel_rfl) rfl (fun a w h => h.mem (is := [0]) (js := [0]) rfl rfl) (i_pure (p_fieldAddr fo_96_0 rfl)) ?_
 refine GA.take 10 rfl (by kernel_rfl) (by kernel_rfl) (by kernel_rfl) rfl (fun a w h => h.mem (is := [0]) (js := [0]) rfl rfl) (i_pure (p_move rfl)) ?_
 refine GA.take 11 rfl (by kernel_rfl) (by kernel_rfl) (by kernel_rfl) rfl (fun a w h => h.mem (is := [0]) (js := [0]) rfl rfl) (i_pure (p_nilCheck rfl)) ?_
 refine GA.take 12 rfl (by kernel_rfl) (by kernel_rfl) (by kernel_rfl) rfl (fun a w h => h.mem (is := [0]) (js := [0]) rfl rfl) (i_pure (p_fieldAddr fo_96_0 rfl)) ?_
 refine GA.all (rs := [3, 16]) (by kernel_rfl) (by simp) ?_
 refine GAs.cons (i := 3) rfl rfl (t_call rfl fn_93 rfl (is := [1]) (js := [0]) rfl rfl (by exact num_aw _ _ _ _ 0 1 5 (by decide +kernel) (by decide) (by omega))) (by rintro a w ⟨_, _, _, ⟨A10, rfl, rfl, rfl⟩, h⟩; exact h.mem (is := [1]) (js := [1]) rfl rfl) (GA.ret ?_) ?_
 ·rintro _ _ _ ⟨A10, rfl, rfl, rfl⟩
  refine GA.take 4 rfl (by kernel_rfl) (by kernel_rfl) (by kernel_rfl) rfl (fun a w h => h.mem (is := [1]) (js := [1]) rfl rfl) (i_pure (p_convR (t := 23) (r := 5) (by rw [Tryz.underlying23]; simp) Tryz.underlying22 rfl (by decide))) ?_
  refine GA.all (rs := [8, 16]) (by kernel_rfl) (by simp) ?_
  refine GAs.cons (i := 8) rfl rfl (t_call rfl fn_93 rfl (is := [0]) (js := [0]) rfl rfl (by exact num_aw _ _ _ _ 1 8 0 (by decide +kernel) (by decide) (by omega))) (by rintro a w ⟨_, _, _, ⟨A15, rfl, rfl, rfl⟩, h⟩; exact h.mem (is := [1]) (js := [2]) rfl rfl) (GA.ret ?_) ?_
  ·rintro _ _ _ ⟨A15, rfl, rfl, rfl⟩
   refine GA.take 9 rfl (by kernel_rfl) (by kernel_rfl) (by kernel_rfl) rfl (fun a w h => h.mem (is := [1]) (js := [2]) rfl rfl) (i_pure (p_convR (t := 23) (r := 0) (by rw [Tryz.underlying23]; simp) Tryz.underlying2 rfl (by decide))) ?_
   refine GA.all (rs := [13, 16]) (by kernel_rfl) (by simp) ?_
   refine GAs.cons (i := 13) rfl rfl (t_call rfl fn_93 rfl (is := [0]) (js := [0]) rfl rfl (by exact num_aw _ _ _ _ 9 8 18446744073709551611 (by decide +kernel) (by decide) (by omega))) (by rintro a w ⟨_, _, _, ⟨A20, rfl, rfl, rfl⟩, h⟩; exact h.mem (is := [1]) (js := [3]) rfl rfl) (GA.ret ?_) ?_
   ·rintro _ _ _ ⟨A20, rfl, rfl, rfl⟩
    refine GA.take 14 rfl (by kernel_rfl) (by kernel_rfl) (by kernel_rfl) rfl (fun a w h => h.mem (is := [1]) (js := [3]) rfl rfl) (i_pure (p_convR (t := 23) (r := -5) (by rw [Tryz.underlying23]; simp) Tryz.underlying2 rfl (by decide))) ?_
    refine GA.take 15 rfl (by kernel_rfl) (by kernel_rfl) (by kernel_rfl) rfl (fun a w h => h.mem (is := [1]) (js := [3]) rfl rfl) (i_pure (p_build ze_42 of_42 rfl rfl)) ?_
    refine GA.all (rs := [16]) (by kernel_rfl) (by simp) ?_
    refine GAs.cons (i := 16) rfl rfl (t_alloc rfl ze_42) (by rintro a w ⟨_, h⟩; exact h.mem (is := [2]) (js := [3]) rfl rfl) (GA.ex fun b_t3 => ?_) ?_
    ·refine GA.all (rs := [17]) (by kernel_rfl) (by simp) ?_
     refine GAs.cons (i := 17) rfl rfl (t_storeN (i := 0) rfl rfl rfl sz_42 rfl rfl rfl) (by rintro a w h; exact h.mem (is := [2]) (js := [3]) rfl rfl) ?_ ?_
     ·refine GA.done (by kernel_rfl) (?_ : GC _ _ _ _)
      refine GC.seq' ?_
      refine GC.regionC (m := 30) (is := [2]) (js := [0, 1, 2, 3]) wide_ rfl rfl rfl ?_
      refine GA.take 0 rfl (by kernel_rfl) (by kernel_rfl) (by kernel_rfl) rfl (fun a w h => h.mem (is := [2]) (js := [0, 1, 2, 3]) rfl rfl) (i_pure (p_move rfl)) ?_
      refine GA.take 1 rfl (by kernel_rfl) (by kernel_rfl) (by kernel_rfl) rfl (fun a w h => h.mem (is := [2]) (js := [0, 1, 2, 3]) rfl rfl) (i_pure (p_nilCheck rfl)) ?_
      refine GA.take 2 rfl (by kernel_rfl) (by kernel_rfl) (by kernel_rfl) rfl (fun a w h => h.mem (is := [2]) (js := [0, 1, 2, 3]) rfl rfl) (i_pure (p_fieldAddr fo_96_0 rfl)) ?_
      refine GA.take 4 rfl (by kernel_rfl) (by kernel_rfl) (by kernel_rfl) rfl (fun a w h => h.mem (is := [2]) (js := [0, 1, 2, 3]) rfl rfl) (i_pure (p_move rfl)) ?_
      refine GA.take 5 rfl (by kernel_rfl) (by kernel_rfl) (by kernel_rfl) rfl (fun a w h => h.mem (is := [2]) (js := [0, 1, 2, 3]) rfl rfl) (i_pure (p_nilCheck rfl)) ?_
      refine GA.take 6 rfl (by kernel_rfl) (by kernel_rfl) (by kernel_rfl) rfl (fun a w h => h.mem (is := [2]) (js := [0, 1, 2, 3]) rfl rfl) (i_pure (p_fieldAddr fo_96_0 rfl)) ?_
      refine GA.take 8 rfl (by kernel_rfl) (by kernel_rfl) (by kernel_rfl) rfl (fun a w h => h.mem (is := [2]) (js := [0, 1, 2, 3]) rfl rfl) (i_pure (p_move rfl)) ?_
      refine GA.take 9 rfl (by kernel_rfl) (by kernel_rfl) (by kernel_rfl) rfl (fun a w h => h.mem (is := [2]) (js := [0, 1, 2, 3]) rfl rfl) (i_pure (p_nilCheck rfl)) ?_
      refine GA.take 10 rfl (by kernel_rfl) (by kernel_rfl) (by kernel_rfl) rfl (fun a w h => h.mem (is := [2]) (js := [0, 1, 2, 3]) rfl rfl) (i_pure (p_fieldAddr fo_96_0 rfl)) ?_
      refine GA.take 12 rfl (by kernel_rfl) (by kernel_rfl) (by kernel_rfl) rfl (fun a w h => h.mem (is := [2]) (js := [0, 1, 2, 3]) rfl rfl) (i_pure (p_move rfl)) ?_
      refine GA.take 13 rfl (by kernel_rfl) (by kernel_rfl) (by kernel_rfl) rfl (fun a w h => h.mem (is := [2]) (js := [0, 1, 2, 3]) rfl rfl) (i_pure (p_nilCheck rfl)) ?_
      refine GA.take 14 rfl (by kernel_rfl) (by kernel_rfl) (by kernel_rfl) rfl (fun a w h => h.mem (is := [2]) (js := [0, 1, 2, 3]) rfl rfl) (i_pure (p_fieldAddr fo_96_0 rfl)) ?_
      refine GA.take 16 rfl (by kernel_rfl) (by kernel_rfl) (by kernel_rfl) rfl (fun a w h => h.mem (is := [2]) (js := [0, 1, 2, 3]) rfl rfl) (i_pure (p_move rfl)) ?_
      refine GA.take 17 rfl (by kernel_rfl) (by kernel_rfl) (by kernel_rfl) rfl (fun a w h => h.mem (is := [2]) (js := [0, 1, 2, 3]) rfl rfl) (i_pure (p_nilCheck rfl)) ?_
      refine GA.take 18 rfl (by kernel_rfl) (by kernel_rfl) (by kernel_rfl) rfl (fun a w h => h.mem (is := [2]) (js := [0, 1, 2, 3]) rfl rfl) (i_pure (p_fieldAddr fo_96_0 rfl)) ?_
      refine GA.all (rs := [3]) (by kernel_rfl) (by simp) ?_
      refine GAs.cons (i := 3) rfl rfl (t_call rfl fn_94 rfl (is := [1]) (js := [0]) rfl rfl (by exact small_aw _ _ _ _ 17 0 (by decide +kernel) (by decide) (by omega) (by decide))) (by rintro a w ⟨_, _, _, ⟨A26, rfl, rfl, rfl⟩, h⟩; exact h.mem (is := [2]) (js := [1, 2, 3, 4]) rfl rfl) (GA.ret ?_) ?_
      ·rintro _ _ _ ⟨A26, rfl, rfl, rfl⟩
       refine GA.all (rs := [7]) (by kernel_rfl) (by simp) ?_
       refine GAs.cons (i := 7) rfl rfl (t_call rfl fn_94 rfl (is := [0]) (js := [0]) rfl rfl (by exact small_aw _ _ _ _ 25 3 (by decide +kernel) (by decide) (by omega) (by decide))) (by rintro a w ⟨_, _, _, ⟨A30, rfl, rfl, rfl⟩, h⟩; exact h.mem (is := [2]) (js := [2, 3, 4, 5]) rfl rfl) (GA.ret ?_) ?_
       ·rintro _ _ _ ⟨A30, rfl, rfl, rfl⟩
        refine GA.all (rs := [11]) (by kernel_rfl) (by simp) ?_
        refine GAs.cons (i := 11) rfl rfl (t_call rfl fn_94 rfl (is := [0]) (js := [0]) rfl rfl (by exact small_aw _ _ _ _ 33 0 (by decide +kernel) (by decide) (by omega) (by decide))) (by rintro a w ⟨_, _, _, ⟨A34, rfl, rfl, rfl⟩, h⟩; exact h.mem (is := [2]) (js := [3, 4, 5, 6]) rfl rfl) (GA.ret ?_) ?_
        ·rintro _ _ _ ⟨A34, rfl, rfl, rfl⟩
         refine GA.all (rs := [15]) (by kernel_rfl) (by simp) ?_
         refine GAs.cons (i := 15) rfl rfl (t_call rfl fn_94 rfl (is := [0]) (js := [0]) rfl rfl (by exact small_aw _ _ _ _ 41 0 (by decide +kernel) (by decide) (by omega) (by decide))) (by rintro a w ⟨_, _, _, ⟨A38, rfl, rfl, rfl⟩, h⟩; exact h.mem (is := [2]) (js := [4, 5, 6, 7]) rfl rfl) (GA.ret ?_) ?_
         ·rintro _ _ _ ⟨A38, rfl, rfl, rfl⟩
          refine GA.all (rs := [19]) (by kernel_rfl) (by simp) ?_
          refine GAs.cons (i := 19) rfl rfl (t_call rfl fn_94 rfl (is := [0]) (js := [0]) rfl rfl (by exact small_aw _ _ _ _ 49 0 (by decide +kernel) (by decide) (by omega) (by decide))) (by rintro a w ⟨_, _, _, ⟨A42, rfl, rfl, rfl⟩, h⟩; exact h.mem (is := [2]) (js := [5, 6, 7, 8]) rfl rfl) (GA.ret ?_) ?_
          ·rintro _ _ _ ⟨A42, rfl, rfl, rfl⟩
           refine GA.take 20 rfl (by kernel_rfl) (by kernel_rfl) (by kernel_rfl) rfl (fun a w h => h.mem (is := [2]) (js := [5, 6, 7, 8]) rfl rfl) (i_pure (p_fieldAddr fo_42_3 rfl)) ?_
           refine GA.all (rs := [21]) (by kernel_rfl) (by simp) ?_
           refine GAs.cons (i := 21) rfl rfl (t_store (i := 1) rfl rfl rfl rfl sz_3 rfl rfl rfl) (by rintro a w h; exact h.mem (is := [2]) (js := [5, 6, 7, 8]) rfl rfl) ?_ ?_
           ·refine GA.take 22 rfl (by kernel_rfl) (by kernel_rfl) (by kernel_rfl) rfl (fun a w h => h.mem (is := [2]) (js := [5, 6, 7, 8]) rfl rfl) (i_pure (p_fieldAddr fo_42_4 rfl)) ?_
            refine GA.all (rs := [23]) (by kernel_rfl) (by simp) ?_
            refine GAs.cons (i := 23) rfl rfl (t_store (i := 1) rfl rfl rfl rfl sz_3 rfl rfl rfl) (by rintro a w h; exact h.mem (is := [2]) (js := [5, 6, 7, 8]) rfl rfl) ?_ ?_
            ·refine GA.take 24 rfl (by kernel_rfl) (by kernel_rfl) (by kernel_rfl) rfl (fun a w h => h.mem (is := [2]) (js := [5, 6, 7, 8]) rfl rfl) (i_pure (p_fieldAddr fo_42_5 rfl)) ?_
             refine GA.all (rs := [25]) (by kernel_rfl) (by simp) ?_
             refine GAs.cons (i := 25) rfl rfl (t_store (i := 1) rfl rfl rfl rfl sz_3 rfl rfl rfl) (by rintro a w h; exact h.mem (is := [2]) (js := [5, 6, 7, 8]) rfl rfl) ?_ ?_
             ·refine GA.take 26 rfl (by kernel_rfl) (by kernel_rfl) (by kernel_rfl) rfl (fun a w h => h.mem (is := [2]) (js := [5, 6, 7, 8]) rfl rfl) (i_pure (p_fieldAddr fo_42_6 rfl)) ?_
              refine GA.all (rs := [27]) (by kernel_rfl) (by simp) ?_
              refine GAs.cons (i := 27) rfl rfl (t_store (i := 1) rfl rfl rfl rfl sz_3 rfl rfl rfl) (by rintro a w h; exact h.mem (is := [2]) (js := [5, 6, 7, 8]) rfl rfl) ?_ ?_
              ·refine GA.take 28 rfl (by kernel_rfl) (by kernel_rfl) (by kernel_rfl) rfl (fun a w h => h.mem (is := [2]) (js := [5, 6, 7, 8]) rfl rfl) (i_pure (p_fieldAddr fo_42_7 rfl)) ?_
               refine GA.all (rs := [29]) (by kernel_rfl) (by simp) ?_
               refine GAs.cons (i := 29) rfl rfl (t_store (i := 1) rfl rfl rfl rfl sz_3 rfl rfl rfl) (by rintro a w h; exact h.mem (is := [2]) (js := [5, 6, 7, 8]) rfl rfl) ?_ ?_
               ·refine GA.done (by kernel_rfl) (?_ : GC _ _ _ _)
                refine GC.seq' ?_
                refine GC.region ?_
                refine GL.pure rfl (p_move rfl) ?_
                refine GL.pure rfl (p_nilCheck rfl) ?_
                refine GL.pure rfl (p_fieldAddr fo_96_0 rfl) ?_
                refine GL.step rfl (t_call rfl fn_93 rfl (is := [0]) (js := [0]) rfl rfl (by exact num_aw _ _ _ _ 57 8 0 (by decide +kernel) (by decide) (by omega))) (GL.ret ?_)
                rintro _ _ _ ⟨A51, rfl, rfl, rfl⟩
                refine GL.pure rfl (p_fieldAddr fo_42_8 rfl) ?_
                refine GL.step rfl (t_store (i := 1) rfl rfl rfl rfl sz_23 rfl rfl rfl) ?_
                refine GL.nil (?_ : GC _ _ _ _)
                refine GC.seq' ?_
                refine GC.regionC (m := 12) (is := [2]) (js := [0, 1, 2, 3, 4, 5, 6, 7, 8, 9]) wide_ rfl rfl rfl ?_
                refine GA.take 0 rfl (by kernel_rfl) (by kernel_rfl) (by kernel_rfl) rfl (fun a w h => h.mem (is := [2]) (js := [0, 1, 2, 3, 4, 5, 6, 7, 8, 9]) rfl rfl) (i_pure (p_move rfl)) ?_
                refine GA.take 1 rfl (by kernel_rfl) (by kernel_rfl) (by kernel_rfl) rfl (fun a w h => h.mem (is := [2]) (js := [0, 1, 2, 3, 4, 5, 6, 7, 8, 9]) rfl rfl) (i_pure (p_nilCheck rfl)) ?_
                refine GA.take 2 rfl (by kernel_rfl) (by kernel_rfl) (by kernel_rfl) rfl (fun a w h => h.mem (is := [2]) (js := [0, 1, 2, 3, 4, 5, 6, 7, 8, 9]) rfl rfl) (i_pure (p_fieldAddr fo_96_0 rfl)) ?_
                refine GA.take 4 rfl (by kernel_rfl) (by kernel_rfl) (by kernel_rfl) rfl (fun a w h => h.mem (is := [2]) (js := [0, 1, 2, 3, 4, 5, 6, 7, 8, 9]) rfl rfl) (i_pure (p_move rfl)) ?_
                refine GA.take 5 rfl (by kernel_rfl) (by kernel_rfl) (by kernel_rfl) rfl (fun a w h => h.mem (is := [2]) (js := [0, 1, 2, 3, 4, 5, 6, 7, 8, 9]) rfl rfl) (i_pure (p_nilCheck rfl)) ?_
                refine GA.take 6 rfl (by kernel_rfl) (by kernel_rfl) (by kernel_rfl) rfl (fun a w h => h.mem (is := [2]) (js := [0, 1, 2, 3, 4, 5, 6, 7, 8, 9]) rfl rfl) (i_pure (p_fieldAddr fo_96_0 rfl)) ?_
                refine GA.all (rs := [3]) (by kernel_rfl) (by simp) ?_
                refine GAs.cons (i := 3) rfl rfl (t_call rfl fn_94 rfl (is := [0]) (js := [0]) rfl rfl (by exact small_aw _ _ _ _ 65 0 (by decide +kernel) (by decide) (by omega) (by decide))) (by rintro a w ⟨_, _, _, ⟨A56, rfl, rfl, rfl⟩, h⟩; exact h.mem (is := [2]) (js := [1, 2, 3, 4, 5, 6, 7, 8, 9, 10]) rfl rfl) (GA.ret ?_) ?_
                ·rintro _ _ _ ⟨A56, rfl, rfl, rfl⟩
                 refine GA.all (rs := [7]) (by kernel_rfl) (by simp) ?_
                 refine GAs.cons (i := 7) rfl rfl (t_call rfl fn_94 rfl (is := [0]) (js := [0]) rfl rfl (by exact small_aw _ _ _ _ 73 0 (by decide +kernel) (by decide) (by omega) (by decide))) (by rintro a w ⟨_, _, _, ⟨A60, rfl, rfl, rfl⟩, h⟩; exact h.mem (is := [2]) (js := [2, 3, 4, 5, 6, 7, 8, 9, 10, 11]) rfl rfl) (GA.ret ?_) ?_
                 ·rintro _ _ _ ⟨A60, rfl, rfl, rfl⟩
                  refine GA.take 8 rfl (by kernel_rfl) (by kernel_rfl) (by kernel_rfl) rfl (fun a w h => h.mem (is := [2]) (js := [2, 3, 4, 5, 6, 7, 8, 9, 10, 11]) rfl rfl) (i_pure (p_fieldAddr fo_42_9 rfl)) ?_
                  refine GA.all (rs := [9]) (by kernel_rfl) (by simp) ?_
                  refine GAs.cons (i := 9) rfl rfl (t_store (i := 1) rfl rfl rfl rfl sz_3 rfl rfl rfl) (by rintro a w h; exact h.mem (is := [2]) (js := [2, 3, 4, 5, 6, 7, 8, 9, 10, 11]) rfl rfl) ?_ ?_
                  ·refine GA.take 10 rfl (by kernel_rfl) (by kernel_rfl) (by kernel_rfl) rfl (fun a w h => h.mem (is := [2]) (js := [2, 3, 4, 5, 6, 7, 8, 9, 10, 11]) rfl rfl) (i_pure (p_fieldAddr fo_42_10 rfl)) ?_
                   refine GA.all (rs := [11]) (by kernel_rfl) (by simp) ?_
                   refine GAs.cons (i := 11) rfl rfl (t_store (i := 1) rfl rfl rfl rfl sz_3 rfl rfl rfl) (by rintro a w h; exact h.mem (is := [2]) (js := [2, 3, 4, 5, 6, 7, 8, 9, 10, 11]) rfl rfl) ?_ ?_
                   ·refine GA.done (by kernel_rfl) (?_ : GC _ _ _ _)
                    refine GC.seq' ?_
                    refine GC.region ?_
                    refine GL.pure rfl (p_move rfl) ?_
                    refine GL.step rfl (t_call rfl fn_95 rfl (is := [0, 0]) (js := [0]) rfl rfl (by exact rparts_aw _ _ _ _ _ _ (by omega) _)) (GL.ret ?_)
                    rintro _ _ _ ⟨A64, rfl, rfl, rfl⟩
                    refine GL.nil (?_ : GC _ _ _ _)
                    refine GC.seq' ?_
                    refine GC.seq' ?_
                    refine GC.region ?_
                    refine GL.pure rfl (p_move rfl) ?_
                    refine GL.pure rfl (p_nilCheck rfl) ?_
                    refine GL.pure rfl (p_fieldAddr fo_96_0 rfl) ?_
                    refine GL.step rfl (t_call rfl fn_93 rfl (is := [0]) (js := [0]) rfl rfl (by exact num_aw _ _ _ _ 82 4 0 (by decide +kernel) (by decide) (by omega))) (GL.ret ?_)
                    rintro _ _ _ ⟨A68, rfl, rfl, rfl⟩
                    refine GL.pure rfl (p_move rfl) ?_
                    refine GL.nil (?_ : GC _ _ _ _)
                    refine GC.block ?_
                    refine GC.loopK1 (ks := [0, 2, 3, 68]) (is := [0, 1, 2]) (js := [0, 1, 2, 3, 4, 5, 6, 7, 8, 9, 10, 11, 12, 13]) (fun (u_ : Unit) => True) (fun (u_ : Unit) => [(69, .int .u64 0)]) (fun (u_ : Unit) => []) (fun (u_ : Unit) => []) (fun (u_ : Unit) => 0) (()) rfl rfl rfl (fun a w h => ⟨trivial, h.cutK (is := [0, 0, 0]) (js := [0, 1, 2, 3, 4, 5, 6, 7, 8, 9, 10, 11, 12, 13]) (ks := [0, 2, 3, 68]) ⟨rfl, trivial⟩ rfl rfl rfl⟩) ?_
                    intro u_ hI0
                    try dsimp only [List.cons_append, List.nil_append] at hI0 ⊢
                    refine GC.seq' ?_
                    refine GC.region ?_
                    refine GL.pure rfl (p_lss rfl rfl) ?_
                    refine GL.nil (?_ : GC _ _ _ _)
                    refine GC.seq' ?_
                    refine GC.cond rfl (fun h1 => ?_) (fun h1 => ?_)
                    ·try simp only [tst_] at h1
                     exfalso; omega
                    ·try simp only [tst_] at h1
                     refine GC.exit (?_ : GC _ _ _ _)
                     refine GC.seq' ?_
                     refine GC.region ?_
                     refine GL.step rfl (t_mem rfl (m_loadN (i := 1) rfl rfl ag_42 (vs := [_, _, _, _, _, _, _, _, _, _, _, _, _, _, _, _, _, _, _, _, _, _, _, _, _, _, _, _]) sz_42 ⟨rfl, rfl, rfl, rfl, rfl, rfl, rfl, rfl, rfl, rfl, rfl, rfl, rfl, rfl, rfl, rfl, rfl, rfl, rfl, rfl, rfl, rfl, rfl, rfl, rfl, rfl, rfl, rfl, trivial⟩)) ?_
                     refine GL.step rfl (t_storeN (i := 2) rfl rfl rfl sz_42 rfl rfl rfl) ?_
                     refine GL.nil (?_ : GC _ _ _ _)
                     refine GC.ret ?_
                     refine fun a w h => Fin.back (rs := [.cell 2 42]) (vs := [_]) (is := [0]) (js := [0]) rfl ⟨⟨2, _, _, _, _, rfl, rfl, .inr ⟨[_, _, _, _, _, _, _, _, _, _, _, _, _, _, _, _, _, _, _, _, _, _, _, _, _, _, _, _], rfl, ag_42, sz_42, ⟨rfl, rfl, rfl, rfl, rfl, rfl, rfl, rfl, rfl, rfl, rfl, rfl, rfl, rfl, rfl, rfl, rfl, rfl, rfl, rfl, rfl, rfl, rfl, rfl, rfl, rfl, rfl, rfl, trivial⟩⟩⟩, trivial⟩ rfl rfl ?_ h
                     clear h
                     exact ⟨_, rfl, rfl, rfl⟩
                   exact GAs.nil
                  exact GAs.nil
                 exact GAs.nil
                exact GAs.nil
               exact GAs.nil
              exact GAs.nil
             exact GAs.nil
            exact GAs.nil
           exact GAs.nil
          exact GAs.nil
         exact GAs.nil
        exact GAs.nil
       exact GAs.nil
      exact GAs.nil
     exact GAs.nil
    exact GAs.nil
   refine GAs.cons (i := 16) rfl rfl (t_alloc rfl ze_42) (by rintro a w ⟨_, h⟩; exact h.mem (is := [2]) (js := [2]) rfl rfl) (GA.ex fun b_t3 => ?_) ?_
   ·refine GA.all (rs := [13]) (by kernel_rfl) (by simp) ?_
    refine GAs.cons (i := 13) rfl rfl (t_call rfl fn_93 rfl (is := [1]) (js := [0]) rfl rfl (by exact num_aw _ _ _ _ 9 8 18446744073709551611 (by decide +kernel) (by decide) (by omega))) (by rintro a w ⟨_, _, _, ⟨A20, rfl, rfl, rfl⟩, h⟩; exact h.mem (is := [2]) (js := [3]) rfl rfl) (GA.ret ?_) ?_
    ·rintro _ _ _ ⟨A20, rfl, rfl, rfl⟩
     refine GA.take 14 rfl (by kernel_rfl) (by kernel_rfl) (by kernel_rfl) rfl (fun a w h => h.mem (is := [2]) (js := [3]) rfl rfl) (i_pure (p_convR (t := 23) (r := -5) (by rw [Tryz.underlying23]; simp) Tryz.underlying2 rfl (by decide))) ?_
     refine GA.take 15 rfl (by kernel_rfl) (by kernel_rfl) (by kernel_rfl) rfl (fun a w h => h.mem (is := [2]) (js := [3]) rfl rfl) (i_pure (p_build ze_42 of_42 rfl rfl)) ?_
     refine GA.all (rs := [17]) (by kernel_rfl) (by simp) ?_
     refine GAs.cons (i := 17) rfl rfl (t_storeN (i := 1) rfl rfl rfl sz_42 rfl rfl rfl) (by rintro a w h; exact h.mem (is := [2]) (js := [3]) rfl rfl) ?_ ?_
     ·refine GA.done (by kernel_rfl) (?_ : GC _ _ _ _)
      refine GC.seq' ?_
      refine GC.regionC (m := 30) (is := [2]) (js := [0, 1, 2, 3]) wide_ rfl rfl rfl ?_
      refine GA.take 0 rfl (by kernel_rfl) (by kernel_rfl) (by kernel_rfl) rfl (fun a w h => h.mem (is := [2]) (js := [0, 1, 2, 3]) rfl rfl) (i_pure (p_move rfl)) ?_
      refine GA.take 1 rfl (by kernel_rfl) (by kernel_rfl) (by kernel_rfl) rfl (fun a w h => h.mem (is := [2]) (js := [0, 1, 2, 3]) rfl rfl) (i_pure (p_nilCheck rfl)) ?_
      refine GA.take 2 rfl (by kernel_rfl) (by kernel_rfl) (by kernel_rfl) rfl (fun a w h => h.mem (is := [2]) (js := [0, 1, 2, 3]) rfl rfl) (i_pure (p_fieldAddr fo_96_0 rfl)) ?_
      refine GA.take 4 rfl (by kernel_rfl) (by kernel_rfl) (by kernel_rfl) rfl (fun a w h => h.mem (is := [2]) (js := [0, 1, 2, 3]) rfl rfl) (i_pure (p_move rfl)) ?_
      refine GA.take 5 rfl (by kernel_rfl) (by kernel_rfl) (by kernel_rfl) rfl (fun a w h => h.mem (is := [2]) (js := [0, 1, 2, 3]) rfl rfl) (i_pure (p_nilCheck rfl)) ?_
      refine GA.take 6 rfl (by kernel_rfl) (by kernel_rfl) (by kernel_rfl) rfl (fun a w h => h.mem (is := [2]) (js := [0, 1, 2, 3]) rfl rfl) (i_pure (p_fieldAddr fo_96_0 rfl)) ?_
      refine GA.take 8 rfl (by kernel_rfl) (by kernel_rfl) (by kernel_rfl) rfl (fun a w h => h.mem (is := [2]) (js := [0, 1, 2, 3]) rfl rfl) (i_pure (p_move rfl)) ?_
      refine GA.take 9 rfl (by kernel_rfl) (by kernel_rfl) (by kernel_rfl) rfl (fun a w h => h.mem (is := [2]) (js := [0, 1, 2, 3]) rfl rfl) (i_pure (p_nilCheck rfl)) ?_
      refine GA.take 10 rfl (by kernel_rfl) (by kernel_rfl) (by kernel_rfl) rfl (fun a w h => h.mem (is := [2]) (js := [0, 1, 2, 3]) rfl rfl) (i_pure (p_fieldAddr fo_96_0 rfl)) ?_
      refine GA.take 12 rfl (by kernel_rfl) (by kernel_rfl) (by kernel_rfl) rfl (fun a w h => h.mem (is := [2]) (js := [0, 1, 2, 3]) rfl rfl) (i_pure (p_move rfl)) ?_
      refine GA.take 13 rfl (by kernel_rfl) (by kernel_rfl) (by kernel_rfl) rfl (fun a w h => h.mem (is := [2]) (js := [0, 1, 2, 3]) rfl rfl) (i_pure (p_nilCheck rfl)) ?_
      refine GA.take 14 rfl (by kernel_rfl) (by kernel_rfl) (by kernel_rfl) rfl (fun a w h => h.mem (is := [2]) (js := [0, 1, 2, 3]) rfl rfl) (i_pure (p_fieldAddr fo_96_0 rfl)) ?_
      refine GA.take 16 rfl (by kernel_rfl) (by kernel_rfl) (by kernel_rfl) rfl (fun a w h => h.mem (is := [2]) (js := [0, 1, 2, 3]) rfl rfl) (i_pure (p_move rfl)) ?_
      refine GA.take 17 rfl (by kernel_rfl) (by kernel_rfl) (by kernel_rfl) rfl (fun a w h => h.mem (is := [2]) (js := [0, 1, 2, 3]) rfl rfl) (i_pure (p_nilCheck rfl)) ?_
      refine GA.take 18 rfl (by kernel_rfl) (by kernel_rfl) (by kernel_rfl) rfl (fun a w h => h.mem (is := [2]) (js := [0, 1, 2, 3]) rfl rfl) (i_pure (p_fieldAddr fo_96_0 rfl)) ?_
      refine GA.all (rs := [3]) (by kernel_rfl) (by simp) ?_
      refine GAs.cons (i := 3) rfl rfl (t_call rfl fn_94 rfl (is := [0]) (js := [0]) rfl rfl (by exact small_aw _ _ _ _ 17 0 (by decide +kernel) (by decide) (by omega) (by decide))) (by rintro a w ⟨_, _, _, ⟨A26, rfl, rfl, rfl⟩, h⟩; exact h.mem (is := [2]) (js := [1, 2, 3, 4]) rfl rfl) (GA.ret ?_) ?_
      ·rintro _ _ _ ⟨A26, rfl, rfl, rfl⟩
       refine GA.all (rs := [7]) (by kernel_rfl) (by simp) ?_
       refine GAs.cons (i := 7) rfl rfl (t_call rfl fn_94 rfl (is := [0]) (js := [0]) rfl rfl (by exact small_aw _ _ _ _ 25 3 (by decide +kernel) (by decide) (by omega) (by decide))) (by rintro a w ⟨_, _, _, ⟨A30, rfl, rfl, rfl⟩, h⟩; exact h.mem (is := [2]) (js := [2, 3, 4, 5]) rfl rfl) (GA.ret ?_) ?_
       ·rintro _ _ _ ⟨A30, rfl, rfl, rfl⟩
        refine GA.all (rs := [11]) (by kernel_rfl) (by simp) ?_
        refine GAs.cons (i := 11) rfl rfl (t_call rfl fn_94 rfl (is := [0]) (js := [0]) rfl rfl (by exact small_aw _ _ _ _ 33 0 (by decide +kernel) (by decide) (by omega) (by decide))) (by rintro a w ⟨_, _, _, ⟨A34, rfl, rfl, rfl⟩, h⟩; exact h.mem (is := [2]) (js := [3, 4, 5, 6]) rfl rfl) (GA.ret ?_) ?_
        ·rintro _ _ _ ⟨A34, rfl, rfl, rfl⟩
         refine GA.all (rs := [15]) (by kernel_rfl) (by simp) ?_
         refine GAs.cons (i := 15) rfl rfl (t_call rfl fn_94 rfl (is := [0]) (js := [0]) rfl rfl (by exact small_aw _ _ _ _ 41 0 (by decide +kernel) (by decide) (by omega) (by decide))) (by rintro a w ⟨_, _, _, ⟨A38, rfl, rfl, rfl⟩, h⟩; exact h.mem (is := [2]) (js := [4, 5, 6, 7]) rfl rfl) (GA.ret ?_) ?_
         ·rintro _ _ _ ⟨A38, rfl, rfl, rfl⟩
          refine GA.all (rs := [19]) (by kernel_rfl) (by simp) ?_
          refine GAs.cons (i := 19) rfl rfl (t_call rfl fn_94 rfl (is := [0]) (js := [0]) rfl rfl (by exact small_aw _ _ _ _ 49 0 (by decide +kernel) (by decide) (by omega) (by decide))) (by rintro a w ⟨_, _, _, ⟨A42, rfl, rfl, rfl⟩, h⟩; exact h.mem (is := [2]) (js := [5, 6, 7, 8]) rfl rfl) (GA.ret ?_) ?_
          ·rintro _ _ _ ⟨A42, rfl, rfl, rfl⟩
           refine GA.take 20 rfl (by kernel_rfl) (by kernel_rfl) (by kernel_rfl) rfl (fun a w h => h.mem (is := [2]) (js := [5, 6, 7, 8]) rfl rfl) (i_pure (p_fieldAddr fo_42_3 rfl)) ?_
           refine GA.all (rs := [21]) (by kernel_rfl) (by simp) ?_
           refine GAs.cons (i := 21) rfl rfl (t_store (i := 1) rfl rfl rfl rfl sz_3 rfl rfl rfl) (by rintro a w h; exact h.mem (is := [2]) (js := [5, 6, 7, 8]) rfl rfl) ?_ ?_
           ·refine GA.take 22 rfl (by kernel_rfl) (by kernel_rfl) (by kernel_rfl) rfl (fun a w h => h.mem (is := [2]) (js := [5, 6, 7, 8]) rfl rfl) (i_pure (p_fieldAddr fo_42_4 rfl)) ?_
            refine GA.all (rs := [23]) (by kernel_rfl) (by simp) ?_
            refine GAs.cons (i := 23) rfl rfl (t_store (i := 1) rfl rfl rfl rfl sz_3 rfl rfl rfl) (by rintro a w h; exact h.mem (is := [2]) (js := [5, 6, 7, 8]) rfl rfl) ?_ ?_
            ·refine GA.take 24 rfl (by kernel_rfl) (by kernel_rfl) (by kernel_rfl) rfl (fun a w h => h.mem (is := [2]) (js := [5, 6, 7, 8]) rfl rfl) (i_pure (p_fieldAddr fo_42_5 rfl)) ?_
             refine GA.all (rs := [25]) (by kernel_rfl) (by simp) ?_
             refine GAs.cons (i := 25) rfl rfl (t_store (i := 1) rfl rfl rfl rfl sz_3 rfl rfl rfl) (by rintro a w h; exact h.mem (is := [2]) (js := [5, 6, 7, 8]) rfl rfl) ?_ ?_
             ·refine GA.take 26 rfl (by kernel_rfl) (by kernel_rfl) (by kernel_rfl) rfl (fun a w h => h.mem (is := [2]) (js := [5, 6, 7, 8]) rfl rfl) (i_pure (p_fieldAddr fo_42_6 rfl)) ?_
              refine GA.all (rs := [27]) (by kernel_rfl) (by simp) ?_
              refine GAs.cons (i := 27) rfl rfl (t_store (i := 1) rfl rfl rfl rfl sz_3 rfl rfl rfl) (by rintro a w h; exact h.mem (is := [2]) (js := [5, 6, 7, 8]) rfl rfl) ?_ ?_
              ·refine GA.take 28 rfl (by kernel_rfl) (by kernel_rfl) (by kernel_rfl) rfl (fun a w h => h.mem (is := [2]) (js := [5, 6, 7, 8]) rfl rfl) (i_pure (p_fieldAddr fo_42_7 rfl)) ?_
               refine GA.all (rs := [29]) (by kernel_rfl) (by simp) ?_
               refine GAs.cons (i := 29) rfl rfl (t_store (i := 1) rfl rfl rfl rfl sz_3 rfl rfl rfl) (by rintro a w h; exact h.mem (is := [2]) (js := [5, 6, 7, 8]) rfl rfl) ?_ ?_
               ·refine GA.done (by kernel_rfl) (?_ : GC _ _ _ _)
                refine GC.seq' ?_
                refine GC.region ?_
                refine GL.pure rfl (p_move rfl) ?_
                refine GL.pure rfl (p_nilCheck rfl) ?_
                refine GL.pure rfl (p_fieldAddr fo_96_0 rfl) ?_
                refine GL.step rfl (t_call rfl fn_93 rfl (is := [0]) (js := [0]) rfl rfl (by exact num_aw _ _ _ _ 57 8 0 (by decide +kernel) (by decide) (by omega))) (GL.ret ?_)
                rintro _ _ _ ⟨A51, rfl, rfl, rfl⟩
                refine GL.pure rfl (p_fieldAddr fo_42_8 rfl) ?_
                refine GL.step rfl (t_store (i := 1) rfl rfl rfl rfl sz_23 rfl rfl rfl) ?_
                refine GL.nil (?_ : GC _ _ _ _)
                refine GC.seq' ?_
                refine GC.regionC (m := 12) (is := [2]) (js := [0, 1, 2, 3, 4, 5, 6, 7, 8, 9]) wide_ rfl rfl rfl ?_
                refine GA.take 0 rfl (by kernel_rfl) (by kernel_rfl) (by kernel_rfl) rfl (fun a w h => h.mem (is := [2]) (js := [0, 1, 2, 3, 4, 5, 6, 7, 8, 9]) rfl rfl) (i_pure (p_move rfl)) ?_
                refine GA.take 1 rfl (by kernel_rfl) (by kernel_rfl) (by kernel_rfl) rfl (fun a w h => h.mem (is := [2]) (js := [0, 1, 2, 3, 4, 5, 6, 7, 8, 9]) rfl rfl) (i_pure (p_nilCheck rfl)) ?_
                refine GA.take 2 rfl (by kernel_rfl) (by kernel_rfl) (by kernel_rfl) rfl (fun a w h => h.mem (is := [2]) (js := [0, 1, 2, 3, 4, 5, 6, 7, 8, 9]) rfl rfl) (i_pure (p_fieldAddr fo_96_0 rfl)) ?_
                refine GA.take 4 rfl (by kernel_rfl) (by kernel_rfl) (by kernel_rfl) rfl (fun a w h => h.mem (is := [2]) (js := [0, 1, 2, 3, 4, 5, 6, 7, 8, 9]) rfl rfl) (i_pure (p_move rfl)) ?_
                refine GA.take 5 rfl (by kernel_rfl) (by kernel_rfl) (by kernel_rfl) rfl (fun a w h => h.mem (is := [2]) (js := [0, 1, 2, 3, 4, 5, 6, 7, 8, 9]) rfl rfl) (i_pure (p_nilCheck rfl)) ?_
                refine GA.take 6 rfl (by kernel_rfl) (by kernel_rfl) (by kernel_rfl) rfl (fun a w h => h.mem (is := [2]) (js := [0, 1, 2, 3, 4, 5, 6, 7, 8, 9]) rfl rfl) (i_pure (p_fieldAddr fo_96_0 rfl)) ?_
                refine GA.all (rs := [3]) (by kernel_rfl) (by simp) ?_
                refine GAs.cons (i := 3) rfl rfl (t_call rfl fn_94 rfl (is := [0]) (js := [0]) rfl rfl (by exact small_aw _ _ _ _ 65 0 (by decide +kernel) (by decide) (by omega) (by decide))) (by rintro a w ⟨_, _, _, ⟨A56, rfl, rfl, rfl⟩, h⟩; exact h.mem (is := [2]) (js := [1, 2, 3, 4, 5, 6, 7, 8, 9, 10]) rfl rfl) (GA.ret ?_) ?_
                ·rintro _ _ _ ⟨A56, rfl, rfl, rfl⟩
                 refine GA.all (rs := [7]) (by kernel_rfl) (by simp) ?_
                 refine GAs.cons (i := 7) rfl rfl (t_call rfl fn_94 rfl (is := [0]) (js := [0]) rfl rfl (by exact small_aw _ _ _ _ 73 0 (by decide +kernel) (by decide) (by omega) (by decide))) (by rintro a w ⟨_, _, _, ⟨A60, rfl, rfl, rfl⟩, h⟩; exact h.mem (is := [2]) (js := [2, 3, 4, 5, 6, 7, 8, 9, 10, 11]) rfl rfl) (GA.ret ?_) ?_
                 ·rintro _ _ _ ⟨A60, rfl, rfl, rfl⟩
                  refine GA.take 8 rfl (by kernel_rfl) (by kernel_rfl) (by kernel_rfl) rfl (fun a w h => h.mem (is := [2]) (js := [2, 3, 4, 5, 6, 7, 8, 9, 10, 11]) rfl rfl) (i_pure (p_fieldAddr fo_42_9 rfl)) ?_
                  refine GA.all (rs := [9]) (by kernel_rfl) (by simp) ?_
                  refine GAs.cons (i := 9) rfl rfl (t_store (i := 1) rfl rfl rfl rfl sz_3 rfl rfl rfl) (by rintro a w h; exact h.mem (is := [2]) (js := [2, 3, 4, 5, 6, 7, 8, 9, 10, 11]) rfl rfl) ?_ ?_
                  ·refine GA.take 10 rfl (by kernel_rfl) (by kernel_rfl) (by kernel_rfl) rfl (fun a w h => h.mem (is := [2]) (js := [2, 3, 4, 5, 6, 7, 8, 9, 10, 11]) rfl rfl) (i_pure (p_fieldAddr fo_42_10 rfl)) ?_
                   refine GA.all (rs := [11]) (by kernel_rfl) (by simp) ?_
                   refine GAs.cons (i := 11) rfl rfl (t_store (i := 1) rfl rfl rfl rfl sz_3 rfl rfl rfl) (by rintro a w h; exact h.mem (is := [2]) (js := [2, 3, 4, 5, 6, 7, 8, 9, 10, 11]) rfl rfl) ?_ ?_
                   ·refine GA.done (by kernel_rfl) (?_ : GC _ _ _ _)
                    refine GC.seq' ?_
                    refine GC.region ?_
                    refine GL.pure rfl (p_move rfl) ?_
                    refine GL.step rfl (t_call rfl fn_95 rfl (is := [0, 0]) (js := [0]) rfl rfl (by exact rparts_aw _ _ _ _ _ _ (by omega) _)) (GL.ret ?_)
                    rintro _ _ _ ⟨A64, rfl, rfl, rfl⟩
                    refine GL.nil (?_ : GC _ _ _ _)
                    refine GC.seq' ?_
                    refine GC.seq' ?_
                    refine GC.region ?_
                    refine GL.pure rfl (p_move rfl) ?_
                    refine GL.pure rfl (p_nilCheck rfl) ?_
                    refine GL.pure rfl (p_fieldAddr fo_96_0 rfl) ?_
                    refine GL.step rfl (t_call rfl fn_93 rfl (is := [0]) (js := [0]) rfl rfl (by exact num_aw _ _ _ _ 82 4 0 (by decide +kernel) (by decide) (by omega))) (GL.ret ?_)
                    rintro _ _ _ ⟨A68, rfl, rfl, rfl⟩
                    refine GL.pure rfl (p_move rfl) ?_
                    refine GL.nil (?_ : GC _ _ _ _)
                    refine GC.block ?_
                    refine GC.loopK1 (ks := [0, 2, 3, 68]) (is := [0, 1, 2]) (js := [0, 1, 2, 3, 4, 5, 6, 7, 8, 9, 10, 11, 12, 13]) (fun (u_ : Unit) => True) (fun (u_ : Unit) => [(69, .int .u64 0)]) (fun (u_ : Unit) => []) (fun (u_ : Unit) => []) (fun (u_ : Unit) => 0) (()) rfl rfl rfl (fun a w h => ⟨trivial, h.cutK (is := [0, 0, 0]) (js := [0, 1, 2, 3, 4, 5, 6, 7, 8, 9, 10, 11, 12, 13]) (ks := [0, 2, 3, 68]) ⟨rfl, trivial⟩ rfl rfl rfl⟩) ?_
                    intro u_ hI0
                    try dsimp only [List.cons_append, List.nil_append] at hI0 ⊢
                    refine GC.seq' ?_
                    refine GC.region ?_
                    refine GL.pure rfl (p_lss rfl rfl) ?_
                    refine GL.nil (?_ : GC _ _ _ _)
                    refine GC.seq' ?_
                    refine GC.cond rfl (fun h1 => ?_) (fun h1 => ?_)
                    ·try simp only [tst_] at h1
                     exfalso; omega
                    ·try simp only [tst_] at h1
                     refine GC.exit (?_ : GC _ _ _ _)
                     refine GC.seq' ?_
                     refine GC.region ?_
                     refine GL.step rfl (t_mem rfl (m_loadN (i := 1) rfl rfl ag_42 (vs := [_, _, _, _, _, _, _, _, _, _, _, _, _, _, _, _, _, _, _, _, _, _, _, _, _, _, _, _]) sz_42 ⟨rfl, rfl, rfl, rfl, rfl, rfl, rfl, rfl, rfl, rfl, rfl, rfl, rfl, rfl, rfl, rfl, rfl, rfl, rfl, rfl, rfl, rfl, rfl, rfl, rfl, rfl, rfl, rfl, trivial⟩)) ?_
                     refine GL.step rfl (t_storeN (i := 2) rfl rfl rfl sz_42 rfl rfl rfl) ?_
                     refine GL.nil (?_ : GC _ _ _ _)
                     refine GC.ret ?_
                     refine fun a w h => Fin.back (rs := [.cell 2 42]) (vs := [_]) (is := [0]) (js := [0]) rfl ⟨⟨2, _, _, _, _, rfl, rfl, .inr ⟨[_, _, _, _, _, _, _, _, _, _, _, _, _, _, _, _, _, _, _, _, _, _, _, _, _, _, _, _], rfl, ag_42, sz_42, ⟨rfl, rfl, rfl, rfl, rfl, rfl, rfl, rfl, rfl, rfl, rfl, rfl, rfl, rfl, rfl, rfl, rfl, rfl, rfl, rfl, rfl, rfl, rfl, rfl, rfl, rfl, rfl, rfl, trivial⟩⟩⟩, trivial⟩ rfl rfl ?_ h
                     clear h
                     exact ⟨_, rfl, rfl, rfl⟩
                   exact GAs.nil
                  exact GAs.nil
                 exact GAs.nil
                exact GAs.nil
               exact GAs.nil
              exact GAs.nil
             exact GAs.nil
            exact GAs.nil
           exact GAs.nil
          exact GAs.nil
         exact GAs.nil
        exact GAs.nil
       exact GAs.nil
      exact GAs.nil
     exact GAs.nil
    exact GAs.nil
   exact GAs.nil
  refine GAs.cons (i := 16) rfl rfl (t_alloc rfl ze_42) (by rintro a w ⟨_, h⟩; exact h.mem (is := [2]) (js := [1]) rfl rfl) (GA.ex fun b_t3 => ?_) ?_
  ·refine GA.all (rs := [8]) (by kernel_rfl) (by simp) ?_
   refine GAs.cons (i := 8) rfl rfl (t_call rfl fn_93 rfl (is := [1]) (js := [0]) rfl rfl (by exact num_aw _ _ _ _ 1 8 0 (by decide +kernel) (by decide) (by omega))) (by rintro a w ⟨_, _, _, ⟨A15, rfl, rfl, rfl⟩, h⟩; exact h.mem (is := [2]) (js := [2]) rfl rfl) (GA.ret ?_) ?_
   ·rintro _ _ _ ⟨A15, rfl, rfl, rfl⟩
    refine GA.take 9 rfl (by kernel_rfl) (by kernel_rfl) (by kernel_rfl) rfl (fun a w h => h.mem (is := [2]) (js := [2]) rfl rfl) (i_pure (p_convR (t := 23) (r := 0) (by rw [Tryz.underlying23]; simp) Tryz.underlying2 rfl (by decide))) ?_
    refine GA.all (rs := [13]) (by kernel_rfl) (by simp) ?_
    refine GAs.cons (i := 13) rfl rfl (t_call rfl fn_93 rfl (is := [0]) (js := [0]) rfl rfl (by exact num_aw _ _ _ _ 9 8 18446744073709551611 (by decide +kernel) (by decide) (by omega))) (by rintro a w ⟨_, _, _, ⟨A20, rfl, rfl, rfl⟩, h⟩; exact h.mem (is := [2]) (js := [3]) rfl rfl) (GA.ret ?_) ?_
    ·rintro _ _ _ ⟨A20, rfl, rfl, rfl⟩
     refine GA.take 14 rfl (by kernel_rfl) (by kernel_rfl) (by kernel_rfl) rfl (fun a w h => h.mem (is := [2]) (js := [3]) rfl rfl) (i_pure (p_convR (t := 23) (r := -5) (by rw [Tryz.underlying23]; simp) Tryz.underlying2 rfl (by decide))) ?_
     refine GA.take 15 rfl (by kernel_rfl) (by kernel_rfl) (by kernel_rfl) rfl (fun a w h => h.mem (is := [2]) (js := [3]) rfl rfl) (i_pure (p_build ze_42 of_42 rfl rfl)) ?_
     refine GA.all (rs := [17]) (by kernel_rfl) (by simp) ?_
     refine GAs.cons (i := 17) rfl rfl (t_storeN (i := 1) rfl rfl rfl sz_42 rfl rfl rfl) (by rintro a w h; exact h.mem (is := [2]) (js := [3]) rfl rfl) ?_ ?_
     ·refine GA.done (by kernel_rfl) (?_ : GC _ _ _ _)
      refine GC.seq' ?_
      refine GC.regionC (m := 30) (is := [2]) (js := [0, 1, 2, 3]) wide_ rfl rfl rfl ?_
      refine GA.take 0 rfl (by kernel_rfl) (by kernel_rfl) (by kernel_rfl) rfl (fun a w h => h.mem (is := [2]) (js := [0, 1, 2, 3]) rfl rfl) (i_pure (p_move rfl)) ?_
      refine GA.take 1 rfl (by kernel_rfl) (by kernel_rfl) (by kernel_rfl) rfl (fun a w h => h.mem (is := [2]) (js := [0, 1, 2, 3]) rfl rfl) (i_pure (p_nilCheck rfl)) ?_
      refine GA.take 2 rfl (by kernel_rfl) (by kernel_rfl) (by kernel_rfl) rfl (fun a w h => h.mem (is := [2]) (js := [0, 1, 2, 3]) rfl rfl) (i_pure (p_fieldAddr fo_96_0 rfl)) ?_
      refine GA.take 4 rfl (by kernel_rfl) (by kernel_rfl) (by kernel_rfl) rfl (fun a w h => h.mem (is := [2]) (js := [0, 1, 2, 3]) rfl rfl) (i_pure (p_move rfl)) ?_
      refine GA.take 5 rfl (by kernel_rfl) (by kernel_rfl) (by kernel_rfl) rfl (fun a w h => h.mem (is := [2]) (js := [0, 1, 2, 3]) rfl rfl) (i_pure (p_nilCheck rfl)) ?_
      refine GA.take 6 rfl (by kernel_rfl) (by kernel_rfl) (by kernel_rfl) rfl (fun a w h => h.mem (is := [2]) (js := [0, 1, 2, 3]) rfl rfl) (i_pure (p_fieldAddr fo_96_0 rfl)) ?_
      refine GA.take 8 rfl (by kernel_rfl) (by kernel_rfl) (by kernel_rfl) rfl (fun a w h => h.mem (is := [2]) (js := [0, 1, 2, 3]) rfl rfl) (i_pure (p_move rfl)) ?_
      refine GA.take 9 rfl (by kernel_rfl) (by kernel_rfl) (by kernel_rfl) rfl (fun a w h => h.mem (is := [2]) (js := [0, 1, 2, 3]) rfl rfl) (i_pure (p_nilCheck rfl)) ?_
      refine GA.take 10 rfl (by kernel_rfl) (by kernel_rfl) (by kernel_rfl) rfl (fun a w h => h.mem (is := [2]) (js := [0, 1, 2, 3]) rfl rfl) (i_pure (p_fieldAddr fo_96_0 rfl)) ?_
      refine GA.take 12 rfl (by kernel_rfl) (by kernel_rfl) (by kernel_rfl) rfl (fun a w h => h.mem (is := [2]) (js := [0, 1, 2, 3]) rfl rfl) (i_pure (p_move rfl)) ?_
      refine GA.take 13 rfl (by kernel_rfl) (by kernel_rfl) (by kernel_rfl) rfl (fun a w h => h.mem (is := [2]) (js := [0, 1, 2, 3]) rfl rfl) (i_pure (p_nilCheck rfl)) ?_
      refine GA.take 14 rfl (by kernel_rfl) (by kernel_rfl) (by kernel_rfl) rfl (fun a w h => h.mem (is := [2]) (js := [0, 1, 2, 3]) rfl rfl) (i_pure (p_fieldAddr fo_96_0 rfl)) ?_
      refine GA.take 16 rfl (by kernel_rfl) (by kernel_rfl) (by kernel_rfl) rfl (fun a w h => h.mem (is := [2]) (js := [0, 1, 2, 3]) rfl rfl) (i_pure (p_move rfl)) ?_
      refine GA.take 17 rfl (by kernel_rfl) (by kernel_rfl) (by kernel_rfl) rfl (fun a w h => h.mem (is := [2]) (js := [0, 1, 2, 3]) rfl rfl) (i_pure (p_nilCheck rfl)) ?_
      refine GA.take 18 rfl (by kernel_rfl) (by kernel_rfl) (by kernel_rfl) rfl (fun a w h => h.mem (is := [2]) (js := [0, 1, 2, 3]) rfl rfl) (i_pure (p_fieldAddr fo_96_0 rfl)) ?_
      refine GA.all (rs := [3]) (by kernel_rfl) (by simp) ?_
      refine GAs.cons (i := 3) rfl rfl (t_call rfl fn_94 rfl (is := [0]) (js := [0]) rfl rfl (by exact small_aw _ _ _ _ 17 0 (by decide +kernel) (by decide) (by omega) (by decide))) (by rintro a w ⟨_, _, _, ⟨A26, rfl, rfl, rfl⟩, h⟩; exact h.mem (is := [2]) (js := [1, 2, 3, 4]) rfl rfl) (GA.ret ?_) ?_
      ·rintro _ _ _ ⟨A26, rfl, rfl, rfl⟩
       refine GA.all (rs := [7]) (by kernel_rfl) (by simp) ?_
       refine GAs.cons (i := 7) rfl rfl (t_call rfl fn_94 rfl (is := [0]) (js := [0]) rfl rfl (by exact small_aw _ _ _ _ 25 3 (by decide +kernel) (by decide) (by omega) (by decide))) (by rintro a w ⟨_, _, _, ⟨A30, rfl, rfl, rfl⟩, h⟩; exact h.mem (is := [2]) (js := [2, 3, 4, 5]) rfl rfl) (GA.ret ?_) ?_
       ·rintro _ _ _ ⟨A30, rfl, rfl, rfl⟩
        refine GA.all (rs := [11]) (by kernel_rfl) (by simp) ?_
        refine GAs.cons (i := 11) rfl rfl (t_call rfl fn_94 rfl (is := [0]) (js := [0]) rfl rfl (by exact small_aw _ _ _ _ 33 0 (by decide +kernel) (by decide) (by omega) (by decide))) (by rintro a w ⟨_, _, _, ⟨A34, rfl, rfl, rfl⟩, h⟩; exact h.mem (is := [2]) (js := [3, 4, 5, 6]) rfl rfl) (GA.ret ?_) ?_
        ·rintro _ _ _ ⟨A34, rfl, rfl, rfl⟩
         refine GA.all (rs := [15]) (by kernel_rfl) (by simp) ?_
         refine GAs.cons (i := 15) rfl rfl (t_call rfl fn_94 rfl (is := [0]) (js := [0]) rfl rfl (by exact small_aw _ _ _ _ 41 0 (by decide +kernel) (by decide) (by omega) (by decide))) (by rintro a w ⟨_, _, _, ⟨A38, rfl, rfl, rfl⟩, h⟩; exact h.mem (is := [2]) (js := [4, 5, 6, 7]) rfl rfl) (GA.ret ?_) ?_
         ·rintro _ _ _ ⟨A38, rfl, rfl, rfl⟩
          refine GA.all (rs := [19]) (by kernel_rfl) (by simp) ?_
          refine GAs.cons (i := 19) rfl rfl (t_call rfl fn_94 rfl (is := [0]) (js := [0]) rfl rfl (by exact small_aw _ _ _ _ 49 0 (by decide +kernel) (by decide) (by omega) (by decide))) (by rintro a w ⟨_, _, _, ⟨A42, rfl, rfl, rfl⟩, h⟩; exact h.mem (is := [2]) (js := [5, 6, 7, 8]) rfl rfl) (GA.ret ?_) ?_
          ·rintro _ _ _ ⟨A42, rfl, rfl, rfl⟩
           refine GA.take 20 rfl (by kernel_rfl) (by kernel_rfl) (by kernel_rfl) rfl (fun a w h => h.mem (is := [2]) (js := [5, 6, 7, 8]) rfl rfl) (i_pure (p_fieldAddr fo_42_3 rfl)) ?_
           refine GA.all (rs := [21]) (by kernel_rfl) (by simp) ?_
           refine GAs.cons (i := 21) rfl rfl (t_store (i := 1) rfl rfl rfl rfl sz_3 rfl rfl rfl) (by rintro a w h; exact h.mem (is := [2]) (js := [5, 6, 7, 8]) rfl rfl) ?_ ?_
           ·refine GA.take 22 rfl (by kernel_rfl) (by kernel_rfl) (by kernel_rfl) rfl (fun a w h => h.mem (is := [2]) (js := [5, 6, 7, 8]) rfl rfl) (i_pure (p_fieldAddr fo_42_4 rfl)) ?_
            refine GA.all (rs := [23]) (by kernel_rfl) (by simp) ?_
            refine GAs.cons (i := 23) rfl rfl (t_store (i := 1) rfl rfl rfl rfl sz_3 rfl rfl rfl) (by rintro a w h; exact h.mem (is := [2]) (js := [5, 6, 7, 8]) rfl rfl) ?_ ?_
            ·refine GA.take 24 rfl (by kernel_rfl) (by kernel_rfl) (by kernel_rfl) rfl (fun a w h => h.mem (is := [2]) (js := [5, 6, 7, 8]) rfl rfl) (i_pure (p_fieldAddr fo_42_5 rfl)) ?_
             refine GA.all (rs := [25]) (by kernel_rfl) (by simp) ?_
             refine GAs.cons (i := 25) rfl rfl (t_store (i := 1) rfl rfl rfl rfl sz_3 rfl rfl rfl) (by rintro a w h; exact h.mem (is := [2]) (js := [5, 6, 7, 8]) rfl rfl) ?_ ?_
             ·refine GA.take 26 rfl (by kernel_rfl) (by kernel_rfl) (by kernel_rfl) rfl (fun a w h => h.mem (is := [2]) (js := [5, 6, 7, 8]) rfl rfl) (i_pure (p_fieldAddr fo_42_6 rfl)) ?_
              refine GA.all (rs := [27]) (by kernel_rfl) (by simp) ?_
              refine GAs.cons (i := 27) rfl rfl (t_store (i := 1) rfl rfl rfl rfl sz_3 rfl rfl rfl) (by rintro a w h; exact h.mem (is := [2]) (js := [5, 6, 7, 8]) rfl rfl) ?_ ?_
              ·refine GA.take 28 rfl (by kernel_rfl) (by kernel_rfl) (by kernel_rfl) rfl (fun a w h => h.mem (is := [2]) (js := [5, 6, 7, 8]) rfl rfl) (i_pure (p_fieldAddr fo_42_7 rfl)) ?_
               refine GA.all (rs := [29]) (by kernel_rfl) (by simp) ?_
               refine GAs.cons (i := 29) rfl rfl (t_store (i := 1) rfl rfl rfl rfl sz_3 rfl rfl rfl) (by rintro a w h; exact h.mem (is := [2]) (js := [5, 6, 7, 8]) rfl rfl) ?_ ?_
               ·refine GA.done (by kernel_rfl) (?_ : GC _ _ _ _)
                refine GC.seq' ?_
                refine GC.region ?_
                refine GL.pure rfl (p_move rfl) ?_
                refine GL.pure rfl (p_nilCheck rfl) ?_
                refine GL.pure rfl (p_fieldAddr fo_96_0 rfl) ?_
                refine GL.step rfl (t_call rfl fn_93 rfl (is := [0]) (js := [0]) rfl rfl (by exact num_aw _ _ _ _ 57 8 0 (by decide +kernel) (by decide) (by omega))) (GL.ret ?_)
                rintro _ _ _ ⟨A51, rfl, rfl, rfl⟩
                refine GL.pure rfl (p_fieldAddr fo_42_8 rfl) ?_
                refine GL.step rfl (t_store (i := 1) rfl rfl rfl rfl sz_23 rfl rfl rfl) ?_
                refine GL.nil (?_ : GC _ _ _ _)
                refine GC.seq' ?_
                refine GC.regionC (m := 12) (is := [2]) (js := [0, 1, 2, 3, 4, 5, 6, 7, 8, 9]) wide_ rfl rfl rfl ?_
                refine GA.take 0 rfl (by kernel_rfl) (by kernel_rfl) (by kernel_rfl) rfl (fun a w h => h.mem (is := [2]) (js := [0, 1, 2, 3, 4, 5, 6, 7, 8, 9]) rfl rfl) (i_pure (p_move rfl)) ?_
                refine GA.take 1 rfl (by kernel_rfl) (by kernel_rfl) (by kernel_rfl) rfl (fun a w h => h.mem (is := [2]) (js := [0, 1, 2, 3, 4, 5, 6, 7, 8, 9]) rfl rfl) (i_pure (p_nilCheck rfl)) ?_
                refine GA.take 2 rfl (by kernel_rfl) (by kernel_rfl) (by kernel_rfl) rfl (fun a w h => h.mem (is := [2]) (js := [0, 1, 2, 3, 4, 5, 6, 7, 8, 9]) rfl rfl) (i_pure (p_fieldAddr fo_96_0 rfl)) ?_
                refine GA.take 4 rfl (by kernel_rfl) (by kernel_rfl) (by kernel_rfl) rfl (fun a w h => h.mem (is := [2]) (js := [0, 1, 2, 3, 4, 5, 6, 7, 8, 9]) rfl rfl) (i_pure (p_move rfl)) ?_
                refine GA.take 5 rfl (by kernel_rfl) (by kernel_rfl) (by kernel_rfl) rfl (fun a w h => h.mem (is := [2]) (js := [0, 1, 2, 3, 4, 5, 6, 7, 8, 9]) rfl rfl) (i_pure (p_nilCheck rfl)) ?_
                refine GA.take 6 rfl (by kernel_rfl) (by kernel_rfl) (by kernel_rfl) rfl (fun a w h => h.mem (is := [2]) (js := [0, 1, 2, 3, 4, 5, 6, 7, 8, 9]) rfl rfl) (i_pure (p_fieldAddr fo_96_0 rfl)) ?_
                refine GA.all (rs := [3]) (by kernel_rfl) (by simp) ?_
                refine GAs.cons (i := 3) rfl rfl (t_call rfl fn_94 rfl (is := [0]) (js := [0]) rfl rfl (by exact small_aw _ _ _ _ 65 0 (by decide +kernel) (by decide) (by omega) (by decide))) (by rintro a w ⟨_, _, _, ⟨A56, rfl, rfl, rfl⟩, h⟩; exact h.mem (is := [2]) (js := [1, 2, 3, 4, 5, 6, 7, 8, 9, 10]) rfl rfl) (GA.ret ?_) ?_
                ·rintro _ _ _ ⟨A56, rfl, rfl, rfl⟩
                 refine GA.all (rs := [7]) (by kernel_rfl) (by simp) ?_
                 refine GAs.cons (i := 7) rfl rfl (t_call rfl fn_94 rfl (is := [0]) (js := [0]) rfl rfl (by exact small_aw _ _ _ _ 73 0 (by decide +kernel) (by decide) (by omega) (by decide))) (by rintro a w ⟨_, _, _, ⟨A60, rfl, rfl, rfl⟩, h⟩; exact h.mem (is := [2]) (js := [2, 3, 4, 5, 6, 7, 8, 9, 10, 11]) rfl rfl) (GA.ret ?_) ?_
                 ·rintro _ _ _ ⟨A60, rfl, rfl, rfl⟩
                  refine GA.take 8 rfl (by kernel_rfl) (by kernel_rfl) (by kernel_rfl) rfl (fun a w h => h.mem (is := [2]) (js := [2, 3, 4, 5, 6, 7, 8, 9, 10, 11]) rfl rfl) (i_pure (p_fieldAddr fo_42_9 rfl)) ?_
                  refine GA.all (rs := [9]) (by kernel_rfl) (by simp) ?_
                  refine GAs.cons (i := 9) rfl rfl (t_store (i := 1) rfl rfl rfl rfl sz_3 rfl rfl rfl) (by rintro a w h; exact h.mem (is := [2]) (js := [2, 3, 4, 5, 6, 7, 8, 9, 10, 11]) rfl rfl) ?_ ?_
                  ·refine GA.take 10 rfl (by kernel_rfl) (by kernel_rfl) (by kernel_rfl) rfl (fun a w h => h.mem (is := [2]) (js := [2, 3, 4, 5, 6, 7, 8, 9, 10, 11]) rfl rfl) (i_pure (p_fieldAddr fo_42_10 rfl)) ?_
                   refine GA.all (rs := [11]) (by kernel_rfl) (by simp) ?_
                   refine GAs.cons (i := 11) rfl rfl (t_store (i := 1) rfl rfl rfl rfl sz_3 rfl rfl rfl) (by rintro a w h; exact h.mem (is := [2]) (js := [2, 3, 4, 5, 6, 7, 8, 9, 10, 11]) rfl rfl) ?_ ?_
                   ·refine GA.done (by kernel_rfl) (?_ : GC _ _ _ _)
                    refine GC.seq' ?_
                    refine GC.region ?_
                    refine GL.pure rfl (p_move rfl) ?_
                    refine GL.step rfl (t_call rfl fn_95 rfl (is := [0, 0]) (js := [0]) rfl rfl (by exact rparts_aw _ _ _ _ _ _ (by omega) _)) (GL.ret ?_)
                    rintro _ _ _ ⟨A64, rfl, rfl, rfl⟩
                    refine GL.nil (?_ : GC _ _ _ _)
                    refine GC.seq' ?_
                    refine GC.seq' ?_
                    refine GC.region ?_
                    refine GL.pure rfl (p_move rfl) ?_
                    refine GL.pure rfl (p_nilCheck rfl) ?_
                    refine GL.pure rfl (p_fieldAddr fo_96_0 rfl) ?_
                    refine GL.step rfl (t_call rfl fn_93 rfl (is := [0]) (js := [0]) rfl rfl (by exact num_aw _ _ _ _ 82 4 0 (by decide +kernel) (by decide) (by omega))) (GL.ret ?_)
                    rintro _ _ _ ⟨A68, rfl, rfl, rfl⟩
                    refine GL.pure rfl (p_move rfl) ?_
                    refine GL.nil (?_ : GC _ _ _ _)
                    refine GC.block ?_
                    refine GC.loopK1 (ks := [0, 2, 3, 68]) (is := [0, 1, 2]) (js := [0, 1, 2, 3, 4, 5, 6, 7, 8, 9, 10, 11, 12, 13]) (fun (u_ : Unit) => True) (fun (u_ : Unit) => [(69, .int .u64 0)]) (fun (u_ : Unit) => []) (fun (u_ : Unit) => []) (fun (u_ : Unit) => 0) (()) rfl rfl rfl (fun a w h => ⟨trivial, h.cutK (is := [0, 0, 0]) (js := [0, 1, 2, 3, 4, 5, 6, 7, 8, 9, 10, 11, 12, 13]) (ks := [0, 2, 3, 68]) ⟨rfl, trivial⟩ rfl rfl rfl⟩) ?_
                    intro u_ hI0
                    try dsimp only [List.cons_append, List.nil_append] at hI0 ⊢
                    refine GC.seq' ?_
                    refine GC.region ?_
                    refine GL.pure rfl (p_lss rfl rfl) ?_
                    refine GL.nil (?_ : GC _ _ _ _)
                    refine GC.seq' ?_
                    refine GC.cond rfl (fun h1 => ?_) (fun h1 => ?_)
                    ·try simp only [tst_] at h1
                     exfalso; omega
                    ·try simp only [tst_] at h1
                     refine GC.exit (?_ : GC _ _ _ _)
                     refine GC.seq' ?_
                     refine GC.region ?_
                     refine GL.step rfl (t_mem rfl (m_loadN (i := 1) rfl rfl ag_42 (vs := [_, _, _, _, _, _, _, _, _, _, _, _, _, _, _, _, _, _, _, _, _, _, _, _, _, _, _, _]) sz_42 ⟨rfl, rfl, rfl, rfl, rfl, rfl, rfl, rfl, rfl, rfl, rfl, rfl, rfl, rfl, rfl, rfl, rfl, rfl, rfl, rfl, rfl, rfl, rfl, rfl, rfl, rfl, rfl, rfl, trivial⟩)) ?_
                     refine GL.step rfl (t_storeN (i := 2) rfl rfl rfl sz_42 rfl rfl rfl) ?_
                     refine GL.nil (?_ : GC _ _ _ _)
                     refine GC.ret ?_
                     refine fun a w h => Fin.back (rs := [.cell 2 42]) (vs := [_]) (is := [0]) (js := [0]) rfl ⟨⟨2, _, _, _, _, rfl, rfl, .inr ⟨[_, _, _, _, _, _, _, _, _, _, _, _, _, _, _, _, _, _, _, _, _, _, _, _, _, _, _, _], rfl, ag_42, sz_42, ⟨rfl, rfl, rfl, rfl, rfl, rfl, rfl, rfl, rfl, rfl, rfl, rfl, rfl, rfl, rfl, rfl, rfl, rfl, rfl, rfl, rfl, rfl, rfl, rfl, rfl, rfl, rfl, rfl, trivial⟩⟩⟩, trivial⟩ rfl rfl ?_ h
                     clear h
                     exact ⟨_, rfl, rfl, rfl⟩
                   exact GAs.nil
                  exact GAs.nil
                 exact GAs.nil
                exact GAs.nil
               exact GAs.nil
              exact GAs.nil
             exact GAs.nil
            exact GAs.nil
           exact GAs.nil
          exact GAs.nil
         exact GAs.nil
        exact GAs.nil
       exact GAs.nil
      exact GAs.nil
     exact GAs.nil
    exact GAs.nil
   exact GAs.nil
  exact GAs.nil
 refine GAs.cons (i := 16) rfl rfl (t_alloc rfl ze_42) (by rintro a w ⟨_, h⟩; exact h.mem (is := [1]) (js := [0]) rfl rfl) (GA.ex fun b_t3 => ?_) ?_
 ·refine GA.all (rs := [3]) (by kernel_rfl) (by simp) ?_
  refine GAs.cons (i := 3) rfl rfl (t_call rfl fn_93 rfl (is := [2]) (js := [0]) rfl rfl (by exact num_aw _ _ _ _ 0 1 5 (by decide +kernel) (by decide) (by omega))) (by rintro a w ⟨_, _, _, ⟨A10, rfl, rfl, rfl⟩, h⟩; exact h.mem (is := [2]) (js := [1]) rfl rfl) (GA.ret ?_) ?_
  ·rintro _ _ _ ⟨A10, rfl, rfl, rfl⟩
   refine GA.take 4 rfl (by kernel_rfl) (by kernel_rfl) (by kernel_rfl) rfl (fun a w h => h.mem (is := [2]) (js := [1]) rfl rfl) (i_pure (p_convR (t := 23) (r := 5) (by rw [Tryz.underlying23]; simp) Tryz.underlying22 rfl (by decide))) ?_
   refine GA.all (rs := [8]) (by kernel_rfl) (by simp) ?_
   refine GAs.cons (i := 8) rfl rfl (t_call rfl fn_93 rfl (is := [0]) (js := [0]) rfl rfl (by exact num_aw _ _ _ _ 1 8 0 (by decide +kernel) (by decide) (by omega))) (by rintro a w ⟨_, _, _, ⟨A15, rfl, rfl, rfl⟩, h⟩; exact h.mem (is := [2]) (js := [2]) rfl rfl) (GA.ret ?_) ?_
   ·rintro _ _ _ ⟨A15, rfl, rfl, rfl⟩
    refine GA.take 9 rfl (by kernel_rfl) (by kernel_rfl) (by kernel_rfl) rfl (fun a w h => h.mem (is := [2]) (js := [2]) rfl rfl) (i_pure (p_convR (t := 23) (r := 0) (by rw [Tryz.underlying23]; simp) Tryz.underlying2 rfl (by decide))) ?_
    refine GA.all (rs := [13]) (by kernel_rfl) (by simp) ?_
    refine GAs.cons (i := 13) rfl rfl (t_call rfl fn_93 rfl (is := [0]) (js := [0]) rfl rfl (by exact num_aw _ _ _ _ 9 8 18446744073709551611 (by decide +kernel) (by decide) (by omega))) (by rintro a w ⟨_, _, _, ⟨A20, rfl, rfl, rfl⟩, h⟩; exact h.mem (is := [2]) (js := [3]) rfl rfl) (GA.ret ?_) ?_
    ·rintro _ _ _ ⟨A20, rfl, rfl, rfl⟩
     refine GA.take 14 rfl (by kernel_rfl) (by kernel_rfl) (by kernel_rfl) rfl (fun a w h => h.mem (is := [2]) (js := [3]) rfl rfl) (i_pure (p_convR (t := 23) (r := -5) (by rw [Tryz.underlying23]; simp) Tryz.underlying2 rfl (by decide))) ?_
     refine GA.take 15 rfl (by kernel_rfl) (by kernel_rfl) (by kernel_rfl) rfl (fun a w h => h.mem (is := [2]) (js := [3]) rfl rfl) (i_pure (p_build ze_42 of_42 rfl rfl)) ?_
     refine GA.all (rs := [17]) (by kernel_rfl) (by simp) ?_
     refine GAs.cons (i := 17) rfl rfl (t_storeN (i := 1) rfl rfl rfl sz_42 rfl rfl rfl) (by rintro a w h; exact h.mem (is := [2]) (js := [3]) rfl rfl) ?_ ?_
     ·refine GA.done (by kernel_rfl) (?_ : GC _ _ _ _)
      refine GC.seq' ?_
      refine GC.regionC (m := 30) (is := [2]) (js := [0, 1, 2, 3]) wide_ rfl rfl rfl ?_
      refine GA.take 0 rfl (by kernel_rfl) (by kernel_rfl) (by kernel_rfl) rfl (fun a w h => h.mem (is := [2]) (js := [0, 1, 2, 3]) rfl rfl) (i_pure (p_move rfl)) ?_
      refine GA.take 1 rfl (by kernel_rfl) (by kernel_rfl) (by kernel_rfl) rfl (fun a w h => h.mem (is := [2]) (js := [0, 1, 2, 3]) rfl rfl) (i_pure (p_nilCheck rfl)) ?_
      refine GA.take 2 rfl (by kernel_rfl) (by kernel_rfl) (by kernel_rfl) rfl (fun a w h => h.mem (is := [2]) (js := [0, 1, 2, 3]) rfl rfl) (i_pure (p_fieldAddr fo_96_0 rfl)) ?_
      refine GA.take 4 rfl (by kernel_rfl) (by kernel_rfl) (by kernel_rfl) rfl (fun a w h => h.mem (is := [2]) (js := [0, 1, 2, 3]) rfl rfl) (i_pure (p_move rfl)) ?_
      refine GA.take 5 rfl (by kernel_rfl) (by kernel_rfl) (by kernel_rfl) rfl (fun a w h => h.mem (is := [2]) (js := [0, 1, 2, 3]) rfl rfl) (i_pure (p_nilCheck rfl)) ?_
      refine GA.take 6 rfl (by kernel_rfl) (by kernel_rfl) (by kernel_rfl) rfl (fun a w h => h.mem (is := [2]) (js := [0, 1, 2, 3]) rfl rfl) (i_pure (p_fieldAddr fo_96_0 rfl)) ?_
      refine GA.take 8 rfl (by kernel_rfl) (by kernel_rfl) (by kernel_rfl) rfl (fun a w h => h.mem (is := [2]) (js := [0, 1, 2, 3]) rfl rfl) (i_pure (p_move rfl)) ?_
      refine GA.take 9 rfl (by kernel_rfl) (by kernel_rfl) (by kernel_rfl) rfl (fun a w h => h.mem (is := [2]) (js := [0, 1, 2, 3]) rfl rfl) (i_pure (p_nilCheck rfl)) ?_
      refine GA.take 10 rfl (by kernel_rfl) (by kernel_rfl) (by kernel_rfl) rfl (fun a w h => h.mem (is := [2]) (js := [0, 1, 2, 3]) rfl rfl) (i_pure (p_fieldAddr fo_96_0 rfl)) ?_
      refine GA.take 12 rfl (by kernel_rfl) (by kernel_rfl) (by kernel_rfl) rfl (fun a w h => h.mem (is := [2]) (js := [0, 1, 2, 3]) rfl rfl) (i_pure (p_move rfl)) ?_
      refine GA.take 13 rfl (by kernel_rfl) (by kernel_rfl) (by kernel_rfl) rfl (fun a w h => h.mem (is := [2]) (js := [0, 1, 2, 3]) rfl rfl) (i_pure (p_nilCheck rfl)) ?_
      refine GA.take 14 rfl (by kernel_rfl) (by kernel_rfl) (by kernel_rfl) rfl (fun a w h => h.mem (is := [2]) (js := [0, 1, 2, 3]) rfl rfl) (i_pure (p_fieldAddr fo_96_0 rfl)) ?_
      refine GA.take 16 rfl (by kernel_rfl) (by kernel_rfl) (by kernel_rfl) rfl (fun a w h => h.mem (is := [2]) (js := [0, 1, 2, 3]) rfl rfl) (i_pure (p_move rfl)) ?_
      refine GA.take 17 rfl (by kernel_rfl) (by kernel_rfl) (by kernel_rfl) rfl (fun a w h => h.mem (is := [2]) (js := [0, 1, 2, 3]) rfl rfl) (i_pure (p_nilCheck rfl)) ?_
      refine GA.take 18 rfl (by kernel_rfl) (by kernel_rfl) (by kernel_rfl) rfl (fun a w h => h.mem (is := [2]) (js := [0, 1, 2, 3]) rfl rfl) (i_pure (p_fieldAddr fo_96_0 rfl)) ?_
      refine GA.all (rs := [3]) (by kernel_rfl) (by simp) ?_
      refine GAs.cons (i := 3) rfl rfl (t_call rfl fn_94 rfl (is := [0]) (js := [0]) rfl rfl (by exact small_aw _ _ _ _ 17 0 (by decide +kernel) (by decide) (by omega) (by decide))) (by rintro a w ⟨_, _, _, ⟨A26, rfl, rfl, rfl⟩, h⟩; exact h.mem (is := [2]) (js := [1, 2, 3, 4]) rfl rfl) (GA.ret ?_) ?_
      ·rintro _ _ _ ⟨A26, rfl, rfl, rfl⟩
       refine GA.all (rs := [7]) (by kernel_rfl) (by simp) ?_
       refine GAs.cons (i := 7) rfl rfl (t_call rfl fn_94 rfl (is := [0]) (js := [0]) rfl rfl (by exact small_aw _ _ _ _ 25 3 (by decide +kernel) (by decide) (by omega) (by decide))) (by rintro a w ⟨_, _, _, ⟨A30, rfl, rfl, rfl⟩, h⟩; exact h.mem (is := [2]) (js := [2, 3, 4, 5]) rfl rfl) (GA.ret ?_) ?_
       ·rintro _ _ _ ⟨A30, rfl, rfl, rfl⟩
        refine GA.all (rs := [11]) (by kernel_rfl) (by simp) ?_
        refine GAs.cons (i := 11) rfl rfl (t_call rfl fn_94 rfl (is := [0]) (js := [0]) rfl rfl (by exact small_aw _ _ _ _ 33 0 (by decide +kernel) (by decide) (by omega) (by decide))) (by rintro a w ⟨_, _, _, ⟨A34, rfl, rfl, rfl⟩, h⟩; exact h.mem (is := [2]) (js := [3, 4, 5, 6]) rfl rfl) (GA.ret ?_) ?_
        ·rintro _ _ _ ⟨A34, rfl, rfl, rfl⟩
         refine GA.all (rs := [15]) (by kernel_rfl) (by simp) ?_
         refine GAs.cons (i := 15) rfl rfl (t_call rfl fn_94 rfl (is := [0]) (js := [0]) rfl rfl (by exact small_aw _ _ _ _ 41 0 (by decide +kernel) (by decide) (by omega) (by decide))) (by rintro a w ⟨_, _, _, ⟨A38, rfl, rfl, rfl⟩, h⟩; exact h.mem (is := [2]) (js := [4, 5, 6, 7]) rfl rfl) (GA.ret ?_) ?_
         ·rintro _ _ _ ⟨A38, rfl, rfl, rfl⟩
          refine GA.all (rs := [19]) (by kernel_rfl) (by simp) ?_
          refine GAs.cons (i := 19) rfl rfl (t_call rfl fn_94 rfl (is := [0]) (js := [0]) rfl rfl (by exact small_aw _ _ _ _ 49 0 (by decide +kernel) (by decide) (by omega) (by decide))) (by rintro a w ⟨_, _, _, ⟨A42, rfl, rfl, rfl⟩, h⟩; exact h.mem (is := [2]) (js := [5, 6, 7, 8]) rfl rfl) (GA.ret ?_) ?_
          ·rintro _ _ _ ⟨A42, rfl, rfl, rfl⟩
           refine GA.take 20 rfl (by kernel_rfl) (by kernel_rfl) (by kernel_rfl) rfl (fun a w h => h.mem (is := [2]) (js := [5, 6, 7, 8]) rfl rfl) (i_pure (p_fieldAddr fo_42_3 rfl)) ?_
           refine GA.all (rs := [21]) (by kernel_rfl) (by simp) ?_
           refine GAs.cons (i := 21) rfl rfl (t_store (i := 1) rfl rfl rfl rfl sz_3 rfl rfl rfl) (by rintro a w h; exact h.mem (is := [2]) (js := [5, 6, 7, 8]) rfl rfl) ?_ ?_
           ·refine GA.take 22 rfl (by kernel_rfl) (by kernel_rfl) (by kernel_rfl) rfl (fun a w h => h.mem (is := [2]) (js := [5, 6, 7, 8]) rfl rfl) (i_pure (p_fieldAddr fo_42_4 rfl)) ?_
            refine GA.all (rs := [23]) (by kernel_rfl) (by simp) ?_
            refine GAs.cons (i := 23) rfl rfl (t_store (i := 1) rfl rfl rfl rfl sz_3 rfl rfl rfl) (by rintro a w h; exact h.mem (is := [2]) (js := [5, 6, 7, 8]) rfl rfl) ?_ ?_
            ·refine GA.take 24 rfl (by kernel_rfl) (by kernel_rfl) (by kernel_rfl) rfl (fun a w h => h.mem (is := [2]) (js := [5, 6, 7, 8]) rfl rfl) (i_pure (p_fieldAddr fo_42_5 rfl)) ?_
             refine GA.all (rs := [25]) (by kernel_rfl) (by simp) ?_
             refine GAs.cons (i := 25) rfl rfl (t_store (i := 1) rfl rfl rfl rfl sz_3 rfl rfl rfl) (by rintro a w h; exact h.mem (is := [2]) (js := [5, 6, 7, 8]) rfl rfl) ?_ ?_
             ·refine GA.take 26 rfl (by kernel_rfl) (by kernel_rfl) (by kernel_rfl) rfl (fun a w h => h.mem (is := [2]) (js := [5, 6, 7, 8]) rfl rfl) (i_pure (p_fieldAddr fo_42_6 rfl)) ?_
              refine GA.all (rs := [27]) (by kernel_rfl) (by simp) ?_
              refine GAs.cons (i := 27) rfl rfl (t_store (i := 1) rfl rfl rfl rfl sz_3 rfl rfl rfl) (by rintro a w h; exact h.mem (is := [2]) (js := [5, 6, 7, 8]) rfl rfl) ?_ ?_
              ·refine GA.take 28 rfl (by kernel_rfl) (by kernel_rfl) (by kernel_rfl) rfl (fun a w h => h.mem (is := [2]) (js := [5, 6, 7, 8]) rfl rfl) (i_pure (p_fieldAddr fo_42_7 rfl)) ?_
               refine GA.all (rs := [29]) (by kernel_rfl) (by simp) ?_
               refine GAs.cons (i := 29) rfl rfl (t_store (i := 1) rfl rfl rfl rfl sz_3 rfl rfl rfl) (by rintro a w h; exact h.mem (is := [2]) (js := [5, 6, 7, 8]) rfl rfl) ?_ ?_
               ·refine GA.done (by kernel_rfl) (?_ : GC _ _ _ _)
                refine GC.seq' ?_
                refine GC.region ?_
                refine GL.pure rfl (p_move rfl) ?_
                refine GL.pure rfl (p_nilCheck rfl) ?_
                refine GL.pure rfl (p_fieldAddr fo_96_0 rfl) ?_
                refine GL.step rfl (t_call rfl fn_93 rfl (is := [0]) (js := [0]) rfl rfl (by exact num_aw _ _ _ _ 57 8 0 (by decide +kernel) (by decide) (by omega))) (GL.ret ?_)
                rintro _ _ _ ⟨A51, rfl, rfl, rfl⟩
                refine GL.pure rfl (p_fieldAddr fo_42_8 rfl) ?_
                refine GL.step rfl (t_store (i := 1) rfl rfl rfl rfl sz_23 rfl rfl rfl) ?_
                refine GL.nil (?_ : GC _ _ _ _)
                refine GC.seq' ?_
                refine GC.regionC (m := 12) (is := [2]) (js := [0, 1, 2, 3, 4, 5, 6, 7, 8, 9]) wide_ rfl rfl rfl ?_
                refine GA.take 0 rfl (by kernel_rfl) (by kernel_rfl) (by kernel_rfl) rfl (fun a w h => h.mem (is := [2]) (js := [0, 1, 2, 3, 4, 5, 6, 7, 8, 9]) rfl rfl) (i_pure (p_move rfl)) ?_
                refine GA.take 1 rfl (by kernel_rfl) (by kernel_rfl) (by kernel_rfl) rfl (fun a w h => h.mem (is := [2]) (js := [0, 1, 2, 3, 4, 5, 6, 7, 8, 9]) rfl rfl) (i_pure (p_nilCheck rfl)) ?_
                refine GA.take 2 rfl (by kernel_rfl) (by kernel_rfl) (by kernel_rfl) rfl (fun a w h => h.mem (is := [2]) (js := [0, 1, 2, 3, 4, 5, 6, 7, 8, 9]) rfl rfl) (i_pure (p_fieldAddr fo_96_0 rfl)) ?_
                refine GA.take 4 rfl (by kernel_rfl) (by kernel_rfl) (by kernel_rfl) rfl (fun a w h => h.mem (is := [2]) (js := [0, 1, 2, 3, 4, 5, 6, 7, 8, 9]) rfl rfl) (i_pure (p_move rfl)) ?_
                refine GA.take 5 rfl (by kernel_rfl) (by kernel_rfl) (by kernel_rfl) rfl (fun a w h => h.mem (is := [2]) (js := [0, 1, 2, 3, 4, 5, 6, 7, 8, 9]) rfl rfl) (i_pure (p_nilCheck rfl)) ?_
                refine GA.take 6 rfl (by kernel_rfl) (by kernel_rfl) (by kernel_rfl) rfl (fun a w h => h.mem (is := [2]) (js := [0, 1, 2, 3, 4, 5, 6, 7, 8, 9]) rfl rfl) (i_pure (p_fieldAddr fo_96_0 rfl)) ?_
                refine GA.all (rs := [3]) (by kernel_rfl) (by simp) ?_
                refine GAs.cons (i := 3) rfl rfl (t_call rfl fn_94 rfl (is := [0]) (js := [0]) rfl rfl (by exact small_aw _ _ _ _ 65 0 (by decide +kernel) (by decide) (by omega) (by decide))) (by rintro a w ⟨_, _, _, ⟨A56, rfl, rfl, rfl⟩, h⟩; exact h.mem (is := [2]) (js := [1, 2, 3, 4, 5, 6, 7, 8, 9, 10]) rfl rfl) (GA.ret ?_) ?_
                ·rintro _ _ _ ⟨A56, rfl, rfl, rfl⟩
                 refine GA.all (rs := [7]) (by kernel_rfl) (by simp) ?_
                 refine GAs.cons (i := 7) rfl rfl (t_call rfl fn_94 rfl (is := [0]) (js := [0]) rfl rfl (by exact small_aw _ _ _ _ 73 0 (by decide +kernel) (by decide) (by omega) (by decide))) (by rintro a w ⟨_, _, _, ⟨A60, rfl, rfl, rfl⟩, h⟩; exact h.mem (is := [2]) (js := [2, 3, 4, 5, 6, 7, 8, 9, 10, 11]) rfl rfl) (GA.ret ?_) ?_
                 ·rintro _ _ _ ⟨A60, rfl, rfl, rfl⟩
                  refine GA.take 8 rfl (by kernel_rfl) (by kernel_rfl) (by kernel_rfl) rfl (fun a w h => h.mem (is := [2]) (js := [2, 3, 4, 5, 6, 7, 8, 9, 10, 11]) rfl rfl) (i_pure (p_fieldAddr fo_42_9 rfl)) ?_
                  refine GA.all (rs := [9]) (by kernel_rfl) (by simp) ?_
                  refine GAs.cons (i := 9) rfl rfl (t_store (i := 1) rfl rfl rfl rfl sz_3 rfl rfl rfl) (by rintro a w h; exact h.mem (is := [2]) (js := [2, 3, 4, 5, 6, 7, 8, 9, 10, 11]) rfl rfl) ?_ ?_
                  ·refine GA.take 10 rfl (by kernel_rfl) (by kernel_rfl) (by kernel_rfl) rfl (fun a w h => h.mem (is := [2]) (js := [2, 3, 4, 5, 6, 7, 8, 9, 10, 11]) rfl rfl) (i_pure (p_fieldAddr fo_42_10 rfl)) ?_
                   refine GA.all (rs := [11]) (by kernel_rfl) (by simp) ?_
                   refine GAs.cons (i := 11) rfl rfl (t_store (i := 1) rfl rfl rfl rfl sz_3 rfl rfl rfl) (by rintro a w h; exact h.mem (is := [2]) (js := [2, 3, 4, 5, 6, 7, 8, 9, 10, 11]) rfl rfl) ?_ ?_
                   ·refine GA.done (by kernel_rfl) (?_ : GC _ _ _ _)
                    refine GC.seq' ?_
                    refine GC.region ?_
                    refine GL.pure rfl (p_move rfl) ?_
                    refine GL.step rfl (t_call rfl fn_95 rfl (is := [0, 0]) (js := [0]) rfl rfl (by exact rparts_aw _ _ _ _ _ _ (by omega) _)) (GL.ret ?_)
                    rintro _ _ _ ⟨A64, rfl, rfl, rfl⟩
                    refine GL.nil (?_ : GC _ _ _ _)
                    refine GC.seq' ?_
                    refine GC.seq' ?_
                    refine GC.region ?_
                    refine GL.pure rfl (p_move rfl) ?_
                    refine GL.pure rfl (p_nilCheck rfl) ?_
                    refine GL.pure rfl (p_fieldAddr fo_96_0 rfl) ?_
                    refine GL.step rfl (t_call rfl fn_93 rfl (is := [0]) (js := [0]) rfl rfl (by exact num_aw _ _ _ _ 82 4 0 (by decide +kernel) (by decide) (by omega))) (GL.ret ?_)
                    rintro _ _ _ ⟨A68, rfl, rfl, rfl⟩
                    refine GL.pure rfl (p_move rfl) ?_
                    refine GL.nil (?_ : GC _ _ _ _)
                    refine GC.block ?_
                    refine GC.loopK1 (ks := [0, 2, 3, 68]) (is := [0, 1, 2]) (js := [0, 1, 2, 3, 4, 5, 6, 7, 8, 9, 10, 11, 12, 13]) (fun (u_ : Unit) => True) (fun (u_ : Unit) => [(69, .int .u64 0)]) (fun (u_ : Unit) => []) (fun (u_ : Unit) => []) (fun (u_ : Unit) => 0) (()) rfl rfl rfl (fun a w h => ⟨trivial, h.cutK (is := [0, 0, 0]) (js := [0, 1, 2, 3, 4, 5, 6, 7, 8, 9, 10, 11, 12, 13]) (ks := [0, 2, 3, 68]) ⟨rfl, trivial⟩ rfl rfl rfl⟩) ?_
                    intro u_ hI0
                    try dsimp only [List.cons_append, List.nil_append] at hI0 ⊢
                    refine GC.seq' ?_
                    refine GC.region ?_
                    refine GL.pure rfl (p_lss rfl rfl) ?_
                    refine GL.nil (?_ : GC _ _ _ _)
                    refine GC.seq' ?_
                    refine GC.cond rfl (fun h1 => ?_) (fun h1 => ?_)
                    ·try simp only [tst_] at h1
                     exfalso; omega
                    ·try simp only [tst_] at h1
                     refine GC.exit (?_ : GC _ _ _ _)
                     refine GC.seq' ?_
                     refine GC.region ?_
                     refine GL.step rfl (t_mem rfl (m_loadN (i := 1) rfl rfl ag_42 (vs := [_, _, _, _, _, _, _, _, _, _, _, _, _, _, _, _, _, _, _, _, _, _, _, _, _, _, _, _]) sz_42 ⟨rfl, rfl, rfl, rfl, rfl, rfl, rfl, rfl, rfl, rfl, rfl, rfl, rfl, rfl, rfl, rfl, rfl, rfl, rfl, rfl, rfl, rfl, rfl, rfl, rfl, rfl, rfl, rfl, trivial⟩)) ?_
                     refine GL.step rfl (t_storeN (i := 2) rfl rfl rfl sz_42 rfl rfl rfl) ?_
                     refine GL.nil (?_ : GC _ _ _ _)
                     refine GC.ret ?_
                     refine fun a w h => Fin.back (rs := [.cell 2 42]) (vs := [_]) (is := [0]) (js := [0]) rfl ⟨⟨2, _, _, _, _, rfl, rfl, .inr ⟨[_, _, _, _, _, _, _, _, _, _, _, _, _, _, _, _, _, _, _, _, _, _, _, _, _, _, _, _], rfl, ag_42, sz_42, ⟨rfl, rfl, rfl, rfl, rfl, rfl, rfl, rfl, rfl, rfl, rfl, rfl, rfl, rfl, rfl, rfl, rfl, rfl, rfl, rfl, rfl, rfl, rfl, rfl, rfl, rfl, rfl, rfl, trivial⟩⟩⟩, trivial⟩ rfl rfl ?_ h
                     clear h
                     exact ⟨_, rfl, rfl, rfl⟩
                   exact GAs.nil
                  exact GAs.nil
                 exact GAs.nil
                exact GAs.nil
               exact GAs.nil
              exact GAs.nil
             exact GAs.nil
            exact GAs.nil
           exact GAs.nil
          exact GAs.nil
         exact GAs.nil
        exact GAs.nil
       exact GAs.nil
      exact GAs.nil
     exact GAs.nil
    exact GAs.nil
   exact GAs.nil
  exact GAs.nil
 exact GAs.nil
end Go.Proofs.YtdhdmbmknpjhbaaGreat
namespace Go.Proofs.YtdhdmbmknpjhbaaGreat
open Go Go.Sx Go.Proofs
theorem rdE_aw : rdE awF = 0 := by decide +kernel
theorem rdN_aw : rdN awF = 86 := by decide +kernel
theorem gt_aw : (gt awF 2).toNat = 4 := by decide +kernel
theorem sr_aw : valN (seg awF 4 12) = 0 := by decide +kernel
theorem bd_aw : seg awF 16 102 = awB := by decide +kernel
theorem rd_aw {k s : Int} {bd : List UInt8} {n : Int} (h : rdR awF k s bd n) : k = 4 ∧ s = 0 ∧ bd = awB ∧ n = 106 := by
  obtain ⟨h1, h2, h3, h4, _⟩ := h rdE_aw
  rw [rdN_aw] at h3 h4
  rw [gt_aw] at h1
  rw [sr_aw] at h2
  exact ⟨h1, h2, h3.trans bd_aw, h4⟩
theorem decode_idle (p q : Value) (w : World) : CallsD Tryz.prog 49 #[p, q] .returning w fun e u' w' => e = .returned (.tuple #[]) ∧ u' = .returning ∧ w' = w := by
  have hn : ∀ w : World, (binOp BinOp.eql 20 .nilIface .nilIface).run Tryz.prog w = .ok (.bool true) w := fun _ => by kernel_rfl
  refine callsD_of_wpS Tryz.func49 rfl fun c₀ cs hu => ?_
  apply wpS_seq
  apply wpS_region
  simp [wpOpsS, go_sem, recoverD, hu, Tryz.ntmps49, Exit.thenS]
  apply wpS_seq
  apply wpS_seq
  apply wpS_region
  simp [wpOpsS, go_sem, Exit.thenS, hn]
  refine wpS_cond (t := true) (by simp [Act.eval, Array.replicate]) ?_
  simp only [if_true]
  refine wpS_of_wp (wp_ret ?_)
  cases c₀
  simp_all [bodyPostS, results, Exit.thenS]
theorem dec_aw (A : Option Addr) (cp : Nat) (hcp : awF.length ≤ cp) (hcp' : cp ≤ 9223372036854775807) : Ct Tryz.prog 18 [.slice A awF.length cp] [] [Pers.row Kd.u8 A awF] (fun u G Q => u = .tuple #[awV, .int .i64 0] ∧ G = [] ∧ Q = []) := by
 have hfl := awF_len
 have hbl := awB_len
 refine Ct.introD Tryz.func18 rfl rfl rfl (fun c hc hcD => ?_)
 refine GC.seq' ?_
 refine GC.region ?_
 refine GL.step rfl (t_alloc rfl ze_42) (GL.ex fun b_t2 => ?_)
 refine GL.step rfl (t_alloc rfl ze_45) (GL.ex fun b_t3 => ?_)
 refine GL.nil (?_ : GC _ _ _ _)
 refine GC.seq' ?_
 refine GC.region ?_
 refine GL.pure rfl (p_move rfl) ?_
 refine GL.step rfl (t_call rfl fn_48 rfl (is := []) (js := [0]) rfl rfl (by exact fread_ct _ awF _ (by rw [awF_len]; omega) hcp hcp')) (GL.ret ?_)
 rintro _ _ _ ⟨k13, s13, A13, bd13, cp13, n13, l13, c13, hr13, rfl, rfl, rfl⟩
 obtain ⟨rfl, rfl, rfl, rfl⟩ := rd_aw hr13
 rw [rdE_aw]
 refine GL.pure rfl (p_move rfl) ?_
 refine GL.pure rfl (p_extract rfl rfl) ?_
 refine GL.pure rfl (p_extract rfl rfl) ?_
 refine GL.pure rfl (p_extract rfl rfl) ?_
 refine GL.step rfl (t_alloc rfl ze_55) (GL.ex fun b_t4 => ?_)
 refine GL.step rfl (t_storeN (i := 0) rfl rfl rfl sz_55 rfl rfl rfl) ?_
 refine GL.pure rfl (p_assign rfl) ?_
 refine GL.pure rfl (p_assign rfl) ?_
 refine GL.nil (?_ : GC _ _ _ _)
 refine GC.seq' ?_
 refine GC.seq' ?_
 refine GC.region ?_
 refine GL.pure rfl (p_move rfl) ?_
 refine GL.pure rfl (p_neq rfl rfl) ?_
 refine GL.nil (?_ : GC _ _ _ _)
 refine GC.cond_false rfl ?_
 refine GC.skip (?_ : GC _ _ _ _)
 refine GC.seq' ?_
 refine GC.seq' ?_
 refine GC.region ?_
 refine GL.pure rfl (p_move rfl) ?_
 refine GL.pure rfl (p_move rfl) ?_
 refine GL.pure rfl (p_len Tryz.underlying25 rfl) ?_
 refine GL.pure rfl (p_neq rfl rfl) ?_
 refine GL.pure rfl (p_move rfl) ?_
 refine GL.split (i := 25) rfl (fun h1 => ?_) (fun h1 => ?_)
 ·try simp only [tst_] at h1
  exfalso; exact h1 (by rw [awF_len]; rfl)
 ·try simp only [tst_] at h1
  refine GL.pureG (s := 25) rfl rfl rfl (p_fieldAddr fo_55_0 rfl) ?_
  refine GL.stepG rfl (s := 25) rfl rfl (t_mem rfl (m_load (i := 0) rfl rfl ag_5 rfl)) ?_
  refine GL.pureG (s := 25) rfl rfl rfl (p_neq rfl rfl) ?_
  refine GL.pure rfl (p_pick_false rfl rfl) ?_
  refine GL.pure rfl (p_move rfl) ?_
  refine GL.split (i := 30) rfl (fun h2 => ?_) (fun h2 => ?_)
  ·try simp only [tst_] at h2
   exfalso; first | exact h2 rfl | exact h2 trivial | simp at h2
  ·try simp only [tst_] at h2
   refine GL.pureG (s := 30) rfl rfl rfl (p_fieldAddr fo_55_1 rfl) ?_
   refine GL.stepG rfl (s := 30) rfl rfl (t_mem rfl (m_load (i := 0) rfl rfl ag_23 rfl)) ?_
   refine GL.pureG (s := 30) rfl rfl rfl (p_neq rfl rfl) ?_
   refine GL.pure rfl (p_pick_false rfl rfl) ?_
   refine GL.nil (?_ : GC _ _ _ _)
   refine GC.cond rfl (fun h3 => ?_) (fun h3 => ?_)
   ·try simp only [tst_] at h3
    exfalso; first | exact h3 rfl | exact h3 trivial | simp at h3
   ·try simp only [tst_] at h3
    refine GC.skip (?_ : GC _ _ _ _)
    refine GC.seq' ?_
    refine GC.region ?_
    refine GL.pure rfl (p_makeFunc rfl rfl) ?_
    refine GL.defer (f := 49) (us := [_, _]) hcD rfl ?_
    refine GL.nil (?_ : GC _ _ _ _)
    refine GC.seq' ?_
    refine GC.region ?_
    refine GL.pure rfl (p_fieldAddr fo_55_2 rfl) ?_
    refine GL.step rfl (t_mem rfl (m_load (i := 0) rfl rfl ag_25 rfl)) ?_
    refine GL.pure rfl (p_build ze_94 of_94 rfl rfl) ?_
    refine GL.pure rfl (p_build ze_96 of_96 rfl rfl) ?_
    refine GL.step rfl (t_box rfl rfl rfl) (GL.ex fun b_t41 => ?_)
    refine GL.pure rfl (p_assign rfl) ?_
    refine GL.nil (?_ : GC _ _ _ _)
    refine GC.seq' ?_
    refine GC.region ?_
    refine GL.pure rfl (p_move rfl) ?_
    refine GL.step rfl (t_call rfl fn_50 rfl (is := [0]) (js := [0]) rfl rfl (by exact message_aw _ _ _ _ (by rw [awB_len] at l13; exact l13))) (GL.ret ?_)
    rintro _ _ _ ⟨A43, rfl, rfl, rfl⟩
    refine GL.step rfl (t_alloc rfl ze_42) (GL.ex fun b_t8 => ?_)
    refine GL.step rfl (t_storeN (i := 0) rfl rfl rfl sz_42 rfl rfl rfl) ?_
    refine GL.nil (?_ : GC _ _ _ _)
    refine GC.seq' ?_
    refine GC.seq' ?_
    refine GC.region ?_
    refine GL.pure rfl (p_move rfl) ?_
    refine GL.pure rfl (p_nilCheck rfl) ?_
    refine GL.pure rfl (p_fieldAddr fo_96_0 rfl) ?_
    refine GL.pure rfl (p_fieldAddr fo_94_0 rfl) ?_
    refine GL.step rfl (t_mem rfl (m_load (i := 1) rfl rfl ag_25 rfl)) ?_
    refine GL.pure rfl (p_len Tryz.underlying25 rfl) ?_
    refine GL.pure rfl (p_gtr rfl rfl) ?_
    refine GL.pure rfl (p_move rfl) ?_
    refine GL.split (i := 51) rfl (fun h4 => ?_) (fun h4 => ?_)
    ·try simp only [tst_] at h4
     exfalso; exact absurd h4 (by decide)
    ·try simp only [tst_] at h4
     refine GL.stepG rfl (s := 51) rfl rfl (t_mem rfl (m_loadN (i := 0) rfl rfl ag_42 (vs := [_, _, _, _, _, _, _, _, _, _, _, _, _, _, _, _, _, _, _, _, _, _, _, _, _, _, _, _]) sz_42 ⟨rfl, rfl, rfl, rfl, rfl, rfl, rfl, rfl, rfl, rfl, rfl, rfl, rfl, rfl, rfl, rfl, rfl, rfl, rfl, rfl, rfl, rfl, rfl, rfl, rfl, rfl, rfl, rfl, trivial⟩)) ?_
     refine GL.stepG rfl (s := 51) rfl rfl (t_call rfl fn_12 rfl (is := []) (js := []) rfl rfl (by exact wchk_aw)) (GL.ret ?_)
     rintro _ _ _ ⟨rfl, rfl, rfl⟩
     refine GL.pureG (s := 51) rfl rfl rfl (p_neq rfl rfl) ?_
     refine GL.pure rfl (p_pick_false rfl rfl) ?_
     refine GL.nil (?_ : GC _ _ _ _)
     refine GC.cond_false rfl ?_
     refine GC.skip (?_ : GC _ _ _ _)
     refine GC.seq' ?_
     refine GC.seq' ?_
     refine GC.region ?_
     refine GL.step rfl (t_mem rfl (m_loadN (i := 0) rfl rfl ag_42 (vs := [_, _, _, _, _, _, _, _, _, _, _, _, _, _, _, _, _, _, _, _, _, _, _, _, _, _, _, _]) sz_42 ⟨rfl, rfl, rfl, rfl, rfl, rfl, rfl, rfl, rfl, rfl, rfl, rfl, rfl, rfl, rfl, rfl, rfl, rfl, rfl, rfl, rfl, rfl, rfl, rfl, rfl, rfl, rfl, rfl, trivial⟩)) ?_
     refine GL.step rfl (t_call rfl fn_45 rfl (is := []) (js := []) rfl rfl (by exact body_aw)) (GL.ret ?_)
     rintro _ _ _ ⟨A59, cp59, l59, k59, rfl, rfl, rfl⟩
     refine GL.pure rfl (p_move rfl) ?_
     refine GL.pure rfl (p_extract rfl rfl) ?_
     refine GL.pure rfl (p_extract rfl rfl) ?_
     refine GL.pure rfl (p_assign rfl) ?_
     refine GL.pure rfl (p_assign rfl) ?_
     refine GL.nil (?_ : GC _ _ _ _)
     refine GC.seq' ?_
     refine GC.region ?_
     refine GL.pure rfl (p_move rfl) ?_
     refine GL.pure rfl (p_not rfl) ?_
     refine GL.pure rfl (p_move rfl) ?_
     refine GL.pureG (s := 64) rfl rfl rfl (p_move rfl) ?_
     refine GL.pureG (s := 64) rfl rfl rfl (p_fieldAddr fo_55_2 rfl) ?_
     refine GL.stepG rfl (s := 64) rfl rfl (t_mem rfl (m_load (i := 3) rfl rfl ag_25 rfl)) ?_
     refine GL.freezeB (i := 0) rfl ?_
     refine GL.stepG rfl (s := 64) rfl rfl (t_call rfl fn_35 rfl (is := []) (js := [0, 2]) rfl rfl (by exact equal_ct _ awB _ _ awB _)) (GL.ret ?_)
     rintro _ _ _ ⟨rfl, rfl, rfl⟩
     refine GL.pureG (s := 64) rfl rfl rfl (p_not rfl) ?_
     refine GL.pure rfl (p_pick_false rfl rfl) ?_
     refine GL.nil (?_ : GC _ _ _ _)
     refine GC.cond rfl (fun h5 => ?_) (fun h5 => ?_)
     ·try simp only [tst_] at h5
      exfalso; first | exact h5 rfl | exact h5 trivial | simp at h5
     ·try simp only [tst_] at h5
      refine GC.skip (?_ : GC _ _ _ _)
      refine GC.seq' ?_
      refine GC.region ?_
      refine GL.step rfl (t_mem rfl (m_loadN (i := 0) rfl rfl ag_42 (vs := [_, _, _, _, _, _, _, _, _, _, _, _, _, _, _, _, _, _, _, _, _, _, _, _, _, _, _, _]) sz_42 ⟨rfl, rfl, rfl, rfl, rfl, rfl, rfl, rfl, rfl, rfl, rfl, rfl, rfl, rfl, rfl, rfl, rfl, rfl, rfl, rfl, rfl, rfl, rfl, rfl, rfl, rfl, rfl, rfl, trivial⟩)) ?_
      refine GL.step rfl (t_storeN (i := 4) rfl rfl rfl sz_42 rfl rfl rfl) ?_
      refine GL.step rfl (t_store (i := 3) rfl rfl rfl rfl sz_45 rfl rfl rfl) ?_
      refine GL.nil (?_ : GC _ _ _ _)
      refine GC.ret ?_
      refine fun a w h => FinD.back1 fn_49 (decode_idle _ _) (rs := [.cell 2 42, .cell 3 45]) (vs := [_, _]) (is := []) (js := []) rfl ⟨⟨4, _, _, _, _, rfl, rfl, .inr ⟨[_, _, _, _, _, _, _, _, _, _, _, _, _, _, _, _, _, _, _, _, _, _, _, _, _, _, _, _], rfl, ag_42, sz_42, ⟨rfl, rfl, rfl, rfl, rfl, rfl, rfl, rfl, rfl, rfl, rfl, rfl, rfl, rfl, rfl, rfl, rfl, rfl, rfl, rfl, rfl, rfl, rfl, rfl, rfl, rfl, rfl, rfl, trivial⟩⟩⟩, ⟨3, _, _, _, _, rfl, rfl, .inl ⟨ag_45, rfl⟩⟩, trivial⟩ rfl rfl ?_ h
      clear h
      exact ⟨rfl, rfl, rfl⟩
theorem awake_ct : Ct Tryz.prog 11 [] [] [] (fun u G Q => u = .bool true ∧ G = [] ∧ Q = []) := by
 refine Ct.intro Tryz.func11 rfl rfl rfl (fun c hc => ?_)
 refine GC.seq' ?_
 refine GC.region ?_
 refine GL.pure rfl (p_assign rfl) ?_
 refine GL.nil (?_ : GC _ _ _ _)
 refine GC.seq' ?_
 refine GC.region ?_
 refine GL.pure rfl (p_build ze_42 of_42 rfl rfl) ?_
 refine GL.step rfl (t_alloc rfl ze_42) (GL.ex fun b_t1 => ?_)
 refine GL.step rfl (t_storeN (i := 0) rfl rfl rfl sz_42 rfl rfl rfl) ?_
 refine GL.nil (?_ : GC _ _ _ _)
 refine GC.seq' ?_
 refine GC.region ?_
 refine GL.step rfl (t_mem rfl (m_loadN (i := 0) rfl rfl ag_42 (vs := [_, _, _, _, _, _, _, _, _, _, _, _, _, _, _, _, _, _, _, _, _, _, _, _, _, _, _, _]) sz_42 ⟨rfl, rfl, rfl, rfl, rfl, rfl, rfl, rfl, rfl, rfl, rfl, rfl, rfl, rfl, rfl, rfl, rfl, rfl, rfl, rfl, rfl, rfl, rfl, rfl, rfl, rfl, rfl, rfl, trivial⟩)) ?_
 refine GL.step rfl (t_call rfl fn_16 rfl (is := []) (js := []) rfl rfl (by exact enc_aw)) (GL.ret ?_)
 rintro _ _ _ ⟨A9, cp9, l9, k9, rfl, rfl, rfl⟩
 refine GL.pure rfl (p_move rfl) ?_
 refine GL.pure rfl (p_extract rfl rfl) ?_
 refine GL.pure rfl (p_extract rfl rfl) ?_
 refine GL.pure rfl (p_assign rfl) ?_
 refine GL.pure rfl (p_assign rfl) ?_
 refine GL.nil (?_ : GC _ _ _ _)
 refine GC.seq' ?_
 refine GC.region ?_
 refine GL.pure rfl (p_move rfl) ?_
 refine GL.freezeB (i := 0) rfl ?_
 refine GL.step rfl (t_call rfl fn_18 rfl (is := []) (js := [0]) rfl rfl (by exact dec_aw _ _ l9 k9)) (GL.ret ?_)
 rintro _ _ _ ⟨rfl, rfl, rfl⟩
 refine GL.pure rfl (p_move rfl) ?_
 refine GL.pure rfl (p_extract rfl rfl) ?_
 refine GL.pure rfl (p_extract rfl rfl) ?_
 refine GL.step rfl (t_alloc rfl ze_42) (GL.ex fun b_t4 => ?_)
 refine GL.step rfl (t_storeN (i := 0) rfl rfl rfl sz_42 rfl rfl rfl) ?_
 refine GL.pure rfl (p_assign rfl) ?_
 refine GL.nil (?_ : GC _ _ _ _)
 refine GC.seq' ?_
 refine GC.region ?_
 refine GL.pure rfl (p_move rfl) ?_
 refine GL.pure rfl (p_eql rfl rfl) ?_
 refine GL.pure rfl (p_move rfl) ?_
 refine GL.pureG (s := 19) rfl rfl rfl (p_move rfl) ?_
 refine GL.pureG (s := 19) rfl rfl rfl (p_eql rfl rfl) ?_
 refine GL.pure rfl (p_pick_true rfl rfl) ?_
 refine GL.pure rfl (p_move rfl) ?_
 refine GL.pureG (s := 23) rfl rfl rfl (p_move rfl) ?_
 refine GL.pureG (s := 23) rfl rfl rfl (p_len Tryz.underlying25 rfl) ?_
 refine GL.pureG (s := 23) rfl rfl rfl (p_eql rfl rfl) ?_
 refine GL.pure rfl (p_pick_true rfl rfl) ?_
 refine GL.pure rfl (p_move rfl) ?_
 refine GL.split (i := 28) rfl (fun h1 => ?_) (fun h1 => ?_)
 ·try simp only [tst_] at h1
  first
  | (exfalso; first | exact h1 rfl | exact h1 trivial | exact h1 (by rw [awF_len]; rfl) | exact absurd h1 (by decide))
  |(skip
    refine GL.stepG rfl (s := 28) rfl rfl (t_mem rfl (m_loadN (i := 1) rfl rfl ag_42 (vs := [_, _, _, _, _, _, _, _, _, _, _, _, _, _, _, _, _, _, _, _, _, _, _, _, _, _, _, _]) sz_42 ⟨rfl, rfl, rfl, rfl, rfl, rfl, rfl, rfl, rfl, rfl, rfl, rfl, rfl, rfl, rfl, rfl, rfl, rfl, rfl, rfl, rfl, rfl, rfl, rfl, rfl, rfl, rfl, rfl, trivial⟩)) ?_
    refine GL.stepG rfl (s := 28) rfl rfl (t_mem rfl (m_loadN (i := 0) rfl rfl ag_42 (vs := [_, _, _, _, _, _, _, _, _, _, _, _, _, _, _, _, _, _, _, _, _, _, _, _, _, _, _, _]) sz_42 ⟨rfl, rfl, rfl, rfl, rfl, rfl, rfl, rfl, rfl, rfl, rfl, rfl, rfl, rfl, rfl, rfl, rfl, rfl, rfl, rfl, rfl, rfl, rfl, rfl, rfl, rfl, rfl, rfl, trivial⟩)) ?_
    refine GL.stepG rfl (s := 28) rfl rfl (t_call rfl fn_14 rfl (is := []) (js := []) rfl rfl (by exact wsame_aw)) (GL.ret ?_)
    rintro _ _ _ ⟨rfl, rfl, rfl⟩
    refine GL.pure rfl (p_pick_true rfl rfl) ?_
    refine GL.pure rfl (p_move rfl) ?_
    refine GL.pureG (s := 33) rfl rfl rfl (p_fieldAddr fo_42_2 rfl) ?_
    refine GL.stepG rfl (s := 33) rfl rfl (t_mem rfl (m_load (i := 0) rfl rfl ag_3 rfl)) ?_
    refine GL.pureG (s := 33) rfl rfl rfl (p_eql rfl rfl) ?_
    refine GL.pure rfl (p_pick_true rfl rfl) ?_
    refine GL.pure rfl (p_assign rfl) ?_
    refine GL.nil (?_ : GC _ _ _ _)
    refine GC.ret ?_
    refine fun a w h => Fin.back (rs := [.tmp 0]) (vs := [_]) (is := []) (js := []) rfl ⟨rfl, trivial⟩ rfl rfl ?_ h
    clear h
    exact ⟨by first | rfl | decide, rfl, rfl⟩)
 ·try simp only [tst_] at h1
  first
  | (exfalso; first | exact h1 rfl | exact h1 trivial | exact h1 (by rw [awF_len]; rfl) | exact absurd h1 (by decide))
  |(skip
    refine GL.pass (s := 28) rfl rfl rfl ?_
    refine GL.pass (s := 28) rfl rfl rfl ?_
    refine GL.pass (s := 28) rfl rfl rfl ?_
    refine GL.pure rfl (p_pick_false rfl rfl) ?_
    refine GL.pure rfl (p_move rfl) ?_
    refine GL.pass (s := 33) rfl rfl rfl ?_
    refine GL.pass (s := 33) rfl rfl rfl ?_
    refine GL.pass (s := 33) rfl rfl rfl ?_
    refine GL.pure rfl (p_pick_false rfl rfl) ?_
    refine GL.pure rfl (p_assign rfl) ?_
    refine GL.nil (?_ : GC _ _ _ _)
    refine GC.ret ?_
    refine fun a w h => Fin.back (rs := [.tmp 0]) (vs := [_]) (is := []) (js := []) rfl ⟨rfl, trivial⟩ rfl rfl ?_ h
    clear h
    exact ⟨by first | rfl | decide, rfl, rfl⟩)
end Go.Proofs.YtdhdmbmknpjhbaaGreat
namespace Go.Proofs.YtdhdmbmknpjhbaaGreat
open Go Go.Sx Go.Proofs
theorem entLen_of {e : Entry} (h : okEntry e) : EntLen e := ⟨by have := h.2.2.2.2.2.1.2.2.2.1.1; omega, by have := h.2.2.2.2.2.1.2.2.2.2.1; omega, by have := h.2.2.2.2.2.2.2.1; omega⟩
theorem sttLen_of {s : Stt} (h : okStt s) : SttLen s := ⟨by have := h.2.2.1.1; omega, by have := h.2.2.2.1.1; omega, by have := h.2.2.2.2.2.1; omega, fun p hp => by have := (h.2.2.1.2 p hp).2.2.1; omega, fun r hr => by have := (h.2.2.2.1.2 r hr).2.2.2.1; omega⟩
theorem msgLen_of {m : Msg} (h : okMsg m) : MsgLen m := by
  obtain ⟨_, _, _, _, _, _, _, _, _, _, _, h12, h13, h14, h15, h16⟩ := h
  exact ⟨by have := h12.2.2.2.1.1; omega, by have := h12.2.2.2.2.1; omega, by have := h13.2.1; omega, by have := h14.2.1; omega, sttLen_of h15, by have := h16.1; omega, fun e he => entLen_of (h16.2 e he)⟩
theorem small_ct (m : Msg) (s : Lie) (hm : MsgLen m) : Ct Tryz.prog 10 [msgV m s] [] (msgQ m s) (fun u G Q => ∃ b : Bool, (b = true → m.log.length < 100000) ∧ u = .bool b ∧ G = [] ∧ Q = []) := by
 have g1 := hm.d
 have g2 := hm.o
 have g3 := hm.r
 have g4 := hm.s.p
 have g5 := hm.s.r
 have g6 := hm.l
 refine Ct.intro Tryz.func10 rfl rfl rfl (fun c hc => ?_)
 refine GC.seq' ?_
 refine GC.region ?_
 refine GL.step rfl (t_box rfl rfl rfl) (GL.ex fun b_t1 => ?_)
 refine GL.pure rfl (p_assign rfl) ?_
 refine GL.nil (?_ : GC _ _ _ _)
 refine GC.seq' ?_
 refine GC.region ?_
 refine GL.pure rfl (p_fieldAddr fo_42_11 rfl) ?_
 refine GL.pure rfl (p_fieldAddr fo_27_3 rfl) ?_
 refine GL.step rfl (t_mem rfl (m_load (i := 0) rfl rfl ag_25 rfl)) ?_
 refine GL.pure rfl (p_len Tryz.underlying25 rfl) ?_
 refine GL.pure rfl (p_fieldAddr fo_42_11 rfl) ?_
 refine GL.pure rfl (p_fieldAddr fo_27_4 rfl) ?_
 refine GL.step rfl (t_mem rfl (m_load (i := 0) rfl rfl ag_25 rfl)) ?_
 refine GL.pure rfl (p_len Tryz.underlying25 rfl) ?_
 refine GL.pure rfl (p_add rfl rfl (w64 (by first | omega | (dsimp only at *; omega)) (by first | omega | (dsimp only at *; omega)))) ?_
 refine GL.pure rfl (p_fieldAddr fo_42_12 rfl) ?_
 refine GL.pure rfl (p_fieldAddr fo_30_1 rfl) ?_
 refine GL.step rfl (t_mem rfl (m_load (i := 0) rfl rfl ag_25 rfl)) ?_
 refine GL.pure rfl (p_len Tryz.underlying25 rfl) ?_
 refine GL.pure rfl (p_add rfl rfl (w64 (by first | omega | (dsimp only at *; omega)) (by first | omega | (dsimp only at *; omega)))) ?_
 refine GL.pure rfl (p_fieldAddr fo_42_14 rfl) ?_
 refine GL.pure rfl (p_fieldAddr fo_39_2 rfl) ?_
 refine GL.step rfl (t_mem rfl (m_load (i := 0) rfl rfl ag_36 rfl)) ?_
 refine GL.pure rfl (p_len Tryz.underlying36 rfl) ?_
 refine GL.pure rfl (p_add rfl rfl (w64 (by first | omega | (dsimp only at *; omega)) (by first | omega | (dsimp only at *; omega)))) ?_
 refine GL.pure rfl (p_fieldAddr fo_42_14 rfl) ?_
 refine GL.pure rfl (p_fieldAddr fo_39_3 rfl) ?_
 refine GL.step rfl (t_mem rfl (m_load (i := 0) rfl rfl ag_37 rfl)) ?_
 refine GL.pure rfl (p_len Tryz.underlying37 rfl) ?_
 refine GL.pure rfl (p_add rfl rfl (w64 (by first | omega | (dsimp only at *; omega)) (by first | omega | (dsimp only at *; omega)))) ?_
 refine GL.pure rfl (p_fieldAddr fo_42_15 rfl) ?_
 refine GL.step rfl (t_mem rfl (m_load (i := 0) rfl rfl ag_40 rfl)) ?_
 refine GL.pure rfl (p_len Tryz.underlying40 rfl) ?_
 refine GL.pure rfl (p_add rfl rfl (w64 (by first | omega | (dsimp only at *; omega)) (by first | omega | (dsimp only at *; omega)))) ?_
 refine GL.pure rfl (p_assign rfl) ?_
 refine GL.nil (?_ : GC _ _ _ _)
 refine GC.seq' ?_
 refine GC.seq' ?_
 refine GC.region ?_
 refine GL.pure rfl (p_assign rfl) ?_
 refine GL.nil (?_ : GC _ _ _ _)
 refine GC.block ?_
 refine GC.loopK2 (ks := [1]) (is := [0]) (js := [0, 1, 2, 3, 4, 5, 6, 7]) (fun (k : Nat) (n : Int) => k ≤ m.stt.pages.length ∧ (m.log.length : Int) ≤ n ∧ n ≤ 1000000000000000) (fun (k : Nat) (n : Int) => [(3, .int .i64 n), (4, .int .i64 (k : Int))]) (fun (k : Nat) (n : Int) => []) (fun (k : Nat) (n : Int) => []) (fun (k : Nat) (n : Int) => m.stt.pages.length - k) (0) (_) rfl rfl rfl (fun a w h => ⟨⟨by omega, by omega, by omega⟩, h.cutK (is := [0]) (js := [0, 1, 2, 3, 4, 5, 6, 7]) (ks := [1]) ⟨rfl, rfl, trivial⟩ rfl rfl rfl⟩) ?_
 intro k n hk
 try dsimp only [List.cons_append, List.nil_append] at hk ⊢
 refine GC.seq' ?_
 refine GC.seq' ?_
 refine GC.region ?_
 refine GL.pure rfl (p_move rfl) ?_
 refine GL.pure rfl (p_fieldAddr fo_42_14 rfl) ?_
 refine GL.pure rfl (p_fieldAddr fo_39_2 rfl) ?_
 refine GL.step rfl (t_mem rfl (m_load (i := 0) rfl rfl ag_36 rfl)) ?_
 refine GL.pure rfl (p_len Tryz.underlying36 rfl) ?_
 refine GL.pure rfl (p_lss rfl rfl) ?_
 refine GL.pure rfl (p_move rfl) ?_
 refine GL.split (i := 41) rfl (fun h1 => ?_) (fun h1 => ?_)
 ·try simp only [tst_] at h1
  refine GL.pureG (s := 41) rfl rfl rfl (p_move rfl) ?_
  refine GL.pureG (s := 41) rfl rfl rfl (p_lss rfl rfl) ?_
  refine GL.pure rfl (p_pick_true rfl rfl) ?_
  refine GL.nil (?_ : GC _ _ _ _)
  refine GC.cond rfl (fun h2 => ?_) (fun h2 => ?_)
  ·try simp only [tst_] at h2
   refine GC.skip (?_ : GC _ _ _ _)
   refine GC.seq' ?_
   refine GC.block ?_
   have hx1 := hm.s.pd _ (gt_elem (l := m.stt.pages) (k := k) (by omega))
   refine GC.region ?_
   refine GL.pure rfl (p_move rfl) ?_
   refine GL.pure rfl (p_fieldAddr fo_42_14 rfl) ?_
   refine GL.pure rfl (p_fieldAddr fo_39_2 rfl) ?_
   refine GL.step rfl (t_mem rfl (m_load (i := 0) rfl rfl ag_36 rfl)) ?_
   refine GL.pure rfl (p_move rfl) ?_
   refine GL.step rfl (t_index (i := 4) rfl rfl rfl rfl Tryz.underlying36 sz_59 (by first | omega | (dsimp only at *; omega)) (gt_ok (by first | omega | (dsimp only at *; omega)) (by first | omega | (dsimp only at *; omega)))) (GL.ex fun p_x52 => GL.ex fun r_x52 => GL.and fun ok_x52 => ?_)
   rcases r_x52 with ⟨_, ⟨_, ⟨Ax52_0, cpx52_0⟩⟩⟩
   refine GL.pure rfl (p_fieldAddr' fo_59_2 rfl) ?_
   refine GL.step rfl (t_mem rfl (m_loadP (i := 0) rfl rfl ag_25 rfl)) ?_
   refine GL.pure rfl (p_len Tryz.underlying25 rfl) ?_
   refine GL.pure rfl (p_add rfl rfl (w64 (by first | omega | (dsimp only at *; omega)) (by first | omega | (dsimp only at *; omega)))) ?_
   refine GL.pure rfl (p_assign rfl) ?_
   refine GL.nil (?_ : GC _ _ _ _)
   refine GC.region ?_
   refine GL.pure rfl (p_move rfl) ?_
   refine GL.pure rfl (p_add rfl rfl (w64 (by first | omega | (dsimp only at *; omega)) (by first | omega | (dsimp only at *; omega)))) ?_
   refine GL.pure rfl (p_assign rfl) ?_
   refine GL.nil ?_
   exact fun a w h => ⟨(k + 1), (_), (by omega), ⟨by omega, by first | omega | (dsimp only; omega), by first | omega | (dsimp only; omega)⟩, h.cut (is := [0]) (js := [2, 3, 4, 5, 6, 7, 8, 9]) ⟨rfl, rfl, rfl, trivial⟩ rfl rfl⟩
  ·try simp only [tst_] at h2
   refine GC.exit (?_ : GC _ _ _ _)
   refine GC.seq' ?_
   refine GC.seq' ?_
   refine GC.region ?_
   refine GL.pure rfl (p_assign rfl) ?_
   refine GL.nil (?_ : GC _ _ _ _)
   refine GC.block ?_
   refine GC.loopK2 (ks := [1]) (is := [0]) (js := [0, 1, 2, 3, 4, 5, 6, 7]) (fun (k : Nat) (n : Int) => k ≤ m.stt.rows.length ∧ (m.log.length : Int) ≤ n ∧ n ≤ 1000000000000000) (fun (k : Nat) (n : Int) => [(3, .int .i64 n), (5, .int .i64 (k : Int))]) (fun (k : Nat) (n : Int) => []) (fun (k : Nat) (n : Int) => []) (fun (k : Nat) (n : Int) => m.stt.rows.length - k) (0) (_) rfl rfl rfl (fun a w h => ⟨⟨by omega, by omega, by omega⟩, h.cutK (is := [0]) (js := [0, 1, 2, 3, 4, 5, 6, 7]) (ks := [1]) ⟨rfl, rfl, trivial⟩ rfl rfl rfl⟩) ?_
   intro k n hk
   try dsimp only [List.cons_append, List.nil_append] at hk ⊢
   refine GC.seq' ?_
   refine GC.seq' ?_
   refine GC.region ?_
   refine GL.pure rfl (p_move rfl) ?_
   refine GL.pure rfl (p_fieldAddr fo_42_14 rfl) ?_
   refine GL.pure rfl (p_fieldAddr fo_39_3 rfl) ?_
   refine GL.step rfl (t_mem rfl (m_load (i := 0) rfl rfl ag_37 rfl)) ?_
   refine GL.pure rfl (p_len Tryz.underlying37 rfl) ?_
   refine GL.pure rfl (p_lss rfl rfl) ?_
   refine GL.pure rfl (p_move rfl) ?_
   refine GL.split (i := 63) rfl (fun h3 => ?_) (fun h3 => ?_)
   ·try simp only [tst_] at h3
    refine GL.pureG (s := 63) rfl rfl rfl (p_move rfl) ?_
    refine GL.pureG (s := 63) rfl rfl rfl (p_lss rfl rfl) ?_
    refine GL.pure rfl (p_pick_true rfl rfl) ?_
    refine GL.nil (?_ : GC _ _ _ _)
    refine GC.cond rfl (fun h4 => ?_) (fun h4 => ?_)
    ·try simp only [tst_] at h4
     refine GC.skip (?_ : GC _ _ _ _)
     refine GC.seq' ?_
     refine GC.block ?_
     have hx2 := hm.s.rd _ (gt_elem (l := m.stt.rows) (k := k) (by omega))
     refine GC.region ?_
     refine GL.pure rfl (p_move rfl) ?_
     refine GL.pure rfl (p_fieldAddr fo_42_14 rfl) ?_
     refine GL.pure rfl (p_fieldAddr fo_39_3 rfl) ?_
     refine GL.step rfl (t_mem rfl (m_load (i := 0) rfl rfl ag_37 rfl)) ?_
     refine GL.pure rfl (p_move rfl) ?_
     refine GL.step rfl (t_index (i := 5) rfl rfl rfl rfl Tryz.underlying37 sz_61 (by first | omega | (dsimp only at *; omega)) (gt_ok (by first | omega | (dsimp only at *; omega)) (by first | omega | (dsimp only at *; omega)))) (GL.ex fun p_x74 => GL.ex fun r_x74 => GL.and fun ok_x74 => ?_)
     rcases r_x74 with ⟨_, ⟨_, ⟨_, ⟨Ax74_0, cpx74_0⟩⟩⟩⟩
     refine GL.pure rfl (p_fieldAddr' fo_61_2 rfl) ?_
     refine GL.pure rfl (p_fieldAddr' fo_30_1 rfl) ?_
     refine GL.step rfl (t_mem rfl (m_loadP (i := 0) rfl rfl ag_25 rfl)) ?_
     refine GL.pure rfl (p_len Tryz.underlying25 rfl) ?_
     refine GL.pure rfl (p_add rfl rfl (w64 (by first | omega | (dsimp only at *; omega)) (by first | omega | (dsimp only at *; omega)))) ?_
     refine GL.pure rfl (p_assign rfl) ?_
     refine GL.nil (?_ : GC _ _ _ _)
     refine GC.region ?_
     refine GL.pure rfl (p_move rfl) ?_
     refine GL.pure rfl (p_add rfl rfl (w64 (by first | omega | (dsimp only at *; omega)) (by first | omega | (dsimp only at *; omega)))) ?_
     refine GL.pure rfl (p_assign rfl) ?_
     refine GL.nil ?_
     exact fun a w h => ⟨(k + 1), (_), (by omega), ⟨by omega, by first | omega | (dsimp only; omega), by first | omega | (dsimp only; omega)⟩, h.cut (is := [0]) (js := [2, 3, 4, 5, 6, 7, 8, 9]) ⟨rfl, rfl, rfl, trivial⟩ rfl rfl⟩
    ·try simp only [tst_] at h4
     refine GC.exit (?_ : GC _ _ _ _)
     refine GC.seq' ?_
     refine GC.seq' ?_
     refine GC.region ?_
     refine GL.pure rfl (p_assign rfl) ?_
     refine GL.nil (?_ : GC _ _ _ _)
     refine GC.block ?_
     refine GC.loopK2 (ks := [1]) (is := [0]) (js := [0, 1, 2, 3, 4, 5, 6, 7]) (fun (k : Nat) (n : Int) => k ≤ m.log.length ∧ (m.log.length : Int) ≤ n ∧ n ≤ 1000000000000000) (fun (k : Nat) (n : Int) => [(3, .int .i64 n), (6, .int .i64 (k : Int))]) (fun (k : Nat) (n : Int) => []) (fun (k : Nat) (n : Int) => []) (fun (k : Nat) (n : Int) => m.log.length - k) (0) (_) rfl rfl rfl (fun a w h => ⟨⟨by omega, by omega, by omega⟩, h.cutK (is := [0]) (js := [0, 1, 2, 3, 4, 5, 6, 7]) (ks := [1]) ⟨rfl, rfl, trivial⟩ rfl rfl rfl⟩) ?_
     intro k n hk
     try dsimp only [List.cons_append, List.nil_append] at hk ⊢
     refine GC.seq' ?_
     refine GC.seq' ?_
     refine GC.region ?_
     refine GL.pure rfl (p_move rfl) ?_
     refine GL.pure rfl (p_fieldAddr fo_42_15 rfl) ?_
     refine GL.step rfl (t_mem rfl (m_load (i := 0) rfl rfl ag_40 rfl)) ?_
     refine GL.pure rfl (p_len Tryz.underlying40 rfl) ?_
     refine GL.pure rfl (p_lss rfl rfl) ?_
     refine GL.pure rfl (p_move rfl) ?_
     refine GL.split (i := 85) rfl (fun h5 => ?_) (fun h5 => ?_)
     ·try simp only [tst_] at h5
      refine GL.pureG (s := 85) rfl rfl rfl (p_move rfl) ?_
      refine GL.pureG (s := 85) rfl rfl rfl (p_lss rfl rfl) ?_
      refine GL.pure rfl (p_pick_true rfl rfl) ?_
      refine GL.nil (?_ : GC _ _ _ _)
      refine GC.cond rfl (fun h6 => ?_) (fun h6 => ?_)
      ·try simp only [tst_] at h6
       refine GC.skip (?_ : GC _ _ _ _)
       refine GC.seq' ?_
       refine GC.block ?_
       have hx3 := (hm.e _ (gt_elem (l := m.log) (k := k) (by omega))).d
       have hx4 := (hm.e _ (gt_elem (l := m.log) (k := k) (by omega))).o
       refine GC.layQ (y := .tmp 6) (j := 7) rfl rfl (by first | omega | (dsimp only at *; omega)) (gt_ok (by first | omega | (dsimp only at *; omega)) (by first | omega | (dsimp only at *; omega))) (fun p_x95 r_x95 hA_x95 ok_x95 => ?_)
       rcases r_x95 with ⟨_, ⟨_, ⟨_, ⟨_, ⟨_, ⟨⟨_, ⟨_, ⟨_, ⟨⟨Ax95_0, cpx95_0⟩, ⟨Ax95_1, cpx95_1⟩⟩⟩⟩⟩, ⟨_, ⟨Ax95_2, cpx95_2⟩⟩⟩⟩⟩⟩⟩⟩
       refine GC.layQ (y := .tmp 6) (j := 11) rfl rfl (by first | omega | (dsimp only at *; omega)) (gt_ok (by first | omega | (dsimp only at *; omega)) (by first | omega | (dsimp only at *; omega))) (fun p_x104 r_x104 hA_x104 ok_x104 => ?_)
       rcases r_x104 with ⟨_, ⟨_, ⟨_, ⟨_, ⟨_, ⟨⟨_, ⟨_, ⟨_, ⟨⟨Ax104_0, cpx104_0⟩, ⟨Ax104_1, cpx104_1⟩⟩⟩⟩⟩, ⟨_, ⟨Ax104_2, cpx104_2⟩⟩⟩⟩⟩⟩⟩⟩
       refine GC.regionQ wide_ (by kernel_rfl) ?_
       refine GQ.step rfl (q_pure (p_move rfl)) ?_
       refine GQ.step rfl (q_pure (p_fieldAddr fo_42_15 rfl)) ?_
       refine GQ.step rfl (q_mem (m_load (i := 0) rfl rfl ag_40 rfl)) ?_
       refine GQ.step rfl (q_pure (p_move rfl)) ?_
       refine GQ.step rfl (q_pure (p_indexL hA_x95 rfl rfl Tryz.underlying40 sz_64 (by first | omega | (dsimp only at *; omega)) (by first | omega | (dsimp only at *; omega)))) ?_
       refine GQ.step rfl (q_pure (p_fieldAddr' fo_64_5 rfl)) ?_
       refine GQ.step rfl (q_pure (p_fieldAddr' fo_27_3 rfl)) ?_
       refine GQ.step rfl (q_mem (m_loadP (i := 4) rfl rfl ag_25 rfl)) ?_
       refine GQ.step rfl (q_pure (p_len Tryz.underlying25 rfl)) ?_
       refine GQ.step rfl (q_pure (p_add rfl rfl (w64 (by first | omega | (dsimp only at *; omega)) (by first | omega | (dsimp only at *; omega))))) ?_
       refine GQ.step rfl (q_pure (p_fieldAddr fo_42_15 rfl)) ?_
       refine GQ.step rfl (q_mem (m_load (i := 0) rfl rfl ag_40 rfl)) ?_
       refine GQ.step rfl (q_pure (p_move rfl)) ?_
       refine GQ.step rfl (q_pure (p_indexL hA_x104 rfl rfl Tryz.underlying40 sz_64 (by first | omega | (dsimp only at *; omega)) (by first | omega | (dsimp only at *; omega)))) ?_
       refine GQ.step rfl (q_pure (p_fieldAddr' fo_64_5 rfl)) ?_
       refine GQ.step rfl (q_pure (p_fieldAddr' fo_27_4 rfl)) ?_
       refine GQ.step rfl (q_mem (m_loadP (i := 0) rfl rfl ag_25 rfl)) ?_
       refine GQ.step rfl (q_pure (p_len Tryz.underlying25 rfl)) ?_
       refine GQ.step rfl (q_pure (p_add rfl rfl (w64 (by first | omega | (dsimp only at *; omega)) (by first | omega | (dsimp only at *; omega))))) ?_
       refine GQ.step rfl (q_pure (p_assign rfl)) ?_
       refine GQ.nil (?_ : GC _ _ _ _)
       refine GC.region ?_
       refine GL.pure rfl (p_move rfl) ?_
       refine GL.pure rfl (p_add rfl rfl (w64 (by first | omega | (dsimp only at *; omega)) (by first | omega | (dsimp only at *; omega)))) ?_
       refine GL.pure rfl (p_assign rfl) ?_
       refine GL.nil ?_
       exact fun a w h => ⟨(k + 1), (_), (by omega), ⟨by omega, by first | omega | (dsimp only; omega), by first | omega | (dsimp only; omega)⟩, h.cut (is := [0]) (js := [8, 9, 10, 11, 12, 13, 14, 15]) ⟨rfl, rfl, rfl, trivial⟩ rfl rfl⟩
      ·try simp only [tst_] at h6
       refine GC.exit (?_ : GC _ _ _ _)
       refine GC.seq' ?_
       refine GC.region ?_
       refine GL.pure rfl (p_move rfl) ?_
       refine GL.pure rfl (p_lss rfl rfl) ?_
       refine GL.pure rfl (p_assign rfl) ?_
       refine GL.nil (?_ : GC _ _ _ _)
       refine GC.ret ?_
       refine fun a w h => Fin.back (rs := [.tmp 2]) (vs := [_]) (is := []) (js := []) rfl ⟨rfl, trivial⟩ rfl rfl ?_ h
       clear h
       exact ⟨_, fun h => by have := of_decide_eq_true h; omega, rfl, rfl, rfl⟩
     ·try simp only [tst_] at h5
      refine GL.pass (s := 85) rfl rfl rfl ?_
      refine GL.pass (s := 85) rfl rfl rfl ?_
      refine GL.pure rfl (p_pick_false rfl rfl) ?_
      refine GL.nil (?_ : GC _ _ _ _)
      refine GC.cond_false rfl ?_
      refine GC.exit (?_ : GC _ _ _ _)
      refine GC.seq' ?_
      refine GC.region ?_
      refine GL.pure rfl (p_move rfl) ?_
      refine GL.pure rfl (p_lss rfl rfl) ?_
      refine GL.pure rfl (p_assign rfl) ?_
      refine GL.nil (?_ : GC _ _ _ _)
      refine GC.ret ?_
      refine fun a w h => Fin.back (rs := [.tmp 2]) (vs := [_]) (is := []) (js := []) rfl ⟨rfl, trivial⟩ rfl rfl ?_ h
      clear h
      exact ⟨_, fun h => by have := of_decide_eq_true h; omega, rfl, rfl, rfl⟩
   ·try simp only [tst_] at h3
    refine GL.pass (s := 63) rfl rfl rfl ?_
    refine GL.pass (s := 63) rfl rfl rfl ?_
    refine GL.pure rfl (p_pick_false rfl rfl) ?_
    refine GL.nil (?_ : GC _ _ _ _)
    refine GC.cond_false rfl ?_
    refine GC.exit (?_ : GC _ _ _ _)
    refine GC.seq' ?_
    refine GC.seq' ?_
    refine GC.region ?_
    refine GL.pure rfl (p_assign rfl) ?_
    refine GL.nil (?_ : GC _ _ _ _)
    refine GC.block ?_
    refine GC.loopK2 (ks := [1]) (is := [0]) (js := [0, 1, 2, 3, 4, 5, 6, 7]) (fun (k : Nat) (n : Int) => k ≤ m.log.length ∧ (m.log.length : Int) ≤ n ∧ n ≤ 1000000000000000) (fun (k : Nat) (n : Int) => [(3, .int .i64 n), (6, .int .i64 (k : Int))]) (fun (k : Nat) (n : Int) => []) (fun (k : Nat) (n : Int) => []) (fun (k : Nat) (n : Int) => m.log.length - k) (0) (_) rfl rfl rfl (fun a w h => ⟨⟨by omega, by omega, by omega⟩, h.cutK (is := [0]) (js := [0, 1, 2, 3, 4, 5, 6, 7]) (ks := [1]) ⟨rfl, rfl, trivial⟩ rfl rfl rfl⟩) ?_
    intro k n hk
    try dsimp only [List.cons_append, List.nil_append] at hk ⊢
    refine GC.seq' ?_
    refine GC.seq' ?_
    refine GC.region ?_
    refine GL.pure rfl (p_move rfl) ?_
    refine GL.pure rfl (p_fieldAddr fo_42_15 rfl) ?_
    refine GL.step rfl (t_mem rfl (m_load (i := 0) rfl rfl ag_40 rfl)) ?_
    refine GL.pure rfl (p_len Tryz.underlying40 rfl) ?_
    refine GL.pure rfl (p_lss rfl rfl) ?_
    refine GL.pure rfl (p_move rfl) ?_
    refine GL.split (i := 85) rfl (fun h7 => ?_) (fun h7 => ?_)
    ·try simp only [tst_] at h7
     refine GL.pureG (s := 85) rfl rfl rfl (p_move rfl) ?_
     refine GL.pureG (s := 85) rfl rfl rfl (p_lss rfl rfl) ?_
     refine GL.pure rfl (p_pick_true rfl rfl) ?_
     refine GL.nil (?_ : GC _ _ _ _)
     refine GC.cond rfl (fun h8 => ?_) (fun h8 => ?_)
     ·try simp only [tst_] at h8
      refine GC.skip (?_ : GC _ _ _ _)
      refine GC.seq' ?_
      refine GC.block ?_
      have hx3 := (hm.e _ (gt_elem (l := m.log) (k := k) (by omega))).d
      have hx4 := (hm.e _ (gt_elem (l := m.log) (k := k) (by omega))).o
      refine GC.layQ (y := .tmp 6) (j := 7) rfl rfl (by first | omega | (dsimp only at *; omega)) (gt_ok (by first | omega | (dsimp only at *; omega)) (by first | omega | (dsimp only at *; omega))) (fun p_x95 r_x95 hA_x95 ok_x95 => ?_)
      rcases r_x95 with ⟨_, ⟨_, ⟨_, ⟨_, ⟨_, ⟨⟨_, ⟨_, ⟨_, ⟨⟨Ax95_0, cpx95_0⟩, ⟨Ax95_1, cpx95_1⟩⟩⟩⟩⟩, ⟨_, ⟨Ax95_2, cpx95_2⟩⟩⟩⟩⟩⟩⟩⟩
      refine GC.layQ (y := .tmp 6) (j := 11) rfl rfl (by first | omega | (dsimp only at *; omega)) (gt_ok (by first | omega | (dsimp only at *; omega)) (by first | omega | (dsimp only at *; omega))) (fun p_x104 r_x104 hA_x104 ok_x104 => ?_)
      rcases r_x104 with ⟨_, ⟨_, ⟨_, ⟨_, ⟨_, ⟨⟨_, ⟨_, ⟨_, ⟨⟨Ax104_0, cpx104_0⟩, ⟨Ax104_1, cpx104_1⟩⟩⟩⟩⟩, ⟨_, ⟨Ax104_2, cpx104_2⟩⟩⟩⟩⟩⟩⟩⟩
      refine GC.regionQ wide_ (by kernel_rfl) ?_
      refine GQ.step rfl (q_pure (p_move rfl)) ?_
      refine GQ.step rfl (q_pure (p_fieldAddr fo_42_15 rfl)) ?_
      refine GQ.step rfl (q_mem (m_load (i := 0) rfl rfl ag_40 rfl)) ?_
      refine GQ.step rfl (q_pure (p_move rfl)) ?_
      refine GQ.step rfl (q_pure (p_indexL hA_x95 rfl rfl Tryz.underlying40 sz_64 (by first | omega | (dsimp only at *; omega)) (by first | omega | (dsimp only at *; omega)))) ?_
      refine GQ.step rfl (q_pure (p_fieldAddr' fo_64_5 rfl)) ?_
      refine GQ.step rfl (q_pure (p_fieldAddr' fo_27_3 rfl)) ?_
      refine GQ.step rfl (q_mem (m_loadP (i := 4) rfl rfl ag_25 rfl)) ?_
      refine GQ.step rfl (q_pure (p_len Tryz.underlying25 rfl)) ?_
      refine GQ.step rfl (q_pure (p_add rfl rfl (w64 (by first | omega | (dsimp only at *; omega)) (by first | omega | (dsimp only at *; omega))))) ?_
      refine GQ.step rfl (q_pure (p_fieldAddr fo_42_15 rfl)) ?_
      refine GQ.step rfl (q_mem (m_load (i := 0) rfl rfl ag_40 rfl)) ?_
      refine GQ.step rfl (q_pure (p_move rfl)) ?_
      refine GQ.step rfl (q_pure (p_indexL hA_x104 rfl rfl Tryz.underlying40 sz_64 (by first | omega | (dsimp only at *; omega)) (by first | omega | (dsimp only at *; omega)))) ?_
      refine GQ.step rfl (q_pure (p_fieldAddr' fo_64_5 rfl)) ?_
      refine GQ.step rfl (q_pure (p_fieldAddr' fo_27_4 rfl)) ?_
      refine GQ.step rfl (q_mem (m_loadP (i := 0) rfl rfl ag_25 rfl)) ?_
      refine GQ.step rfl (q_pure (p_len Tryz.underlying25 rfl)) ?_
      refine GQ.step rfl (q_pure (p_add rfl rfl (w64 (by first | omega | (dsimp only at *; omega)) (by first | omega | (dsimp only at *; omega))))) ?_
      refine GQ.step rfl (q_pure (p_assign rfl)) ?_
      refine GQ.nil (?_ : GC _ _ _ _)
      refine GC.region ?_
      refine GL.pure rfl (p_move rfl) ?_
      refine GL.pure rfl (p_add rfl rfl (w64 (by first | omega | (dsimp only at *; omega)) (by first | omega | (dsimp only at *; omega)))) ?_
      refine GL.pure rfl (p_assign rfl) ?_
      refine GL.nil ?_
      exact fun a w h => ⟨(k + 1), (_), (by omega), ⟨by omega, by first | omega | (dsimp only; omega), by first | omega | (dsimp only; omega)⟩, h.cut (is := [0]) (js := [8, 9, 10, 11, 12, 13, 14, 15]) ⟨rfl, rfl, rfl, trivial⟩ rfl rfl⟩
     ·try simp only [tst_] at h8
      refine GC.exit (?_ : GC _ _ _ _)
      refine GC.seq' ?_
      refine GC.region ?_
      refine GL.pure rfl (p_move rfl) ?_
      refine GL.pure rfl (p_lss rfl rfl) ?_
      refine GL.pure rfl (p_assign rfl) ?_
      refine GL.nil (?_ : GC _ _ _ _)
      refine GC.ret ?_
      refine fun a w h => Fin.back (rs := [.tmp 2]) (vs := [_]) (is := []) (js := []) rfl ⟨rfl, trivial⟩ rfl rfl ?_ h
      clear h
      exact ⟨_, fun h => by have := of_decide_eq_true h; omega, rfl, rfl, rfl⟩
    ·try simp only [tst_] at h7
     refine GL.pass (s := 85) rfl rfl rfl ?_
     refine GL.pass (s := 85) rfl rfl rfl ?_
     refine GL.pure rfl (p_pick_false rfl rfl) ?_
     refine GL.nil (?_ : GC _ _ _ _)
     refine GC.cond_false rfl ?_
     refine GC.exit (?_ : GC _ _ _ _)
     refine GC.seq' ?_
     refine GC.region ?_
     refine GL.pure rfl (p_move rfl) ?_
     refine GL.pure rfl (p_lss rfl rfl) ?_
     refine GL.pure rfl (p_assign rfl) ?_
     refine GL.nil (?_ : GC _ _ _ _)
     refine GC.ret ?_
     refine fun a w h => Fin.back (rs := [.tmp 2]) (vs := [_]) (is := []) (js := []) rfl ⟨rfl, trivial⟩ rfl rfl ?_ h
     clear h
     exact ⟨_, fun h => by have := of_decide_eq_true h; omega, rfl, rfl, rfl⟩
 ·try simp only [tst_] at h1
  refine GL.pass (s := 41) rfl rfl rfl ?_
  refine GL.pass (s := 41) rfl rfl rfl ?_
  refine GL.pure rfl (p_pick_false rfl rfl) ?_
  refine GL.nil (?_ : GC _ _ _ _)
  refine GC.cond_false rfl ?_
  refine GC.exit (?_ : GC _ _ _ _)
  refine GC.seq' ?_
  refine GC.seq' ?_
  refine GC.region ?_
  refine GL.pure rfl (p_assign rfl) ?_
  refine GL.nil (?_ : GC _ _ _ _)
  refine GC.block ?_
  refine GC.loopK2 (ks := [1]) (is := [0]) (js := [0, 1, 2, 3, 4, 5, 6, 7]) (fun (k : Nat) (n : Int) => k ≤ m.stt.rows.length ∧ (m.log.length : Int) ≤ n ∧ n ≤ 1000000000000000) (fun (k : Nat) (n : Int) => [(3, .int .i64 n), (5, .int .i64 (k : Int))]) (fun (k : Nat) (n : Int) => []) (fun (k : Nat) (n : Int) => []) (fun (k : Nat) (n : Int) => m.stt.rows.length - k) (0) (_) rfl rfl rfl (fun a w h => ⟨⟨by omega, by omega, by omega⟩, h.cutK (is := [0]) (js := [0, 1, 2, 3, 4, 5, 6, 7]) (ks := [1]) ⟨rfl, rfl, trivial⟩ rfl rfl rfl⟩) ?_
  intro k n hk
  try dsimp only [List.cons_append, List.nil_append] at hk ⊢
  refine GC.seq' ?_
  refine GC.seq' ?_
  refine GC.region ?_
  refine GL.pure rfl (p_move rfl) ?_
  refine GL.pure rfl (p_fieldAddr fo_42_14 rfl) ?_
  refine GL.pure rfl (p_fieldAddr fo_39_3 rfl) ?_
  refine GL.step rfl (t_mem rfl (m_load (i := 0) rfl rfl ag_37 rfl)) ?_
  refine GL.pure rfl (p_len Tryz.underlying37 rfl) ?_
  refine GL.pure rfl (p_lss rfl rfl) ?_
  refine GL.pure rfl (p_move rfl) ?_
  refine GL.split (i := 63) rfl (fun h9 => ?_) (fun h9 => ?_)
  ·try simp only [tst_] at h9
   refine GL.pureG (s := 63) rfl rfl rfl (p_move rfl) ?_
   refine GL.pureG (s := 63) rfl rfl rfl (p_lss rfl rfl) ?_
   refine GL.pure rfl (p_pick_true rfl rfl) ?_
   refine GL.nil (?_ : GC _ _ _ _)
   refine GC.cond rfl (fun h10 => ?_) (fun h10 => ?_)
   ·try simp only [tst_] at h10
    refine GC.skip (?_ : GC _ _ _ _)
    refine GC.seq' ?_
    refine GC.block ?_
    have hx2 := hm.s.rd _ (gt_elem (l := m.stt.rows) (k := k) (by omega))
    refine GC.region ?_
    refine GL.pure rfl (p_move rfl) ?_
    refine GL.pure rfl (p_fieldAddr fo_42_14 rfl) ?_
    refine GL.pure rfl (p_fieldAddr fo_39_3 rfl) ?_
    refine GL.step rfl (t_mem rfl (m_load (i := 0) rfl rfl ag_37 rfl)) ?_
    refine GL.pure rfl (p_move rfl) ?_
    refine GL.step rfl (t_index (i := 5) rfl rfl rfl rfl Tryz.underlying37 sz_61 (by first | omega | (dsimp only at *; omega)) (gt_ok (by first | omega | (dsimp only at *; omega)) (by first | omega | (dsimp only at *; omega)))) (GL.ex fun p_x74 => GL.ex fun r_x74 => GL.and fun ok_x74 => ?_)
    rcases r_x74 with ⟨_, ⟨_, ⟨_, ⟨Ax74_0, cpx74_0⟩⟩⟩⟩
    refine GL.pure rfl (p_fieldAddr' fo_61_2 rfl) ?_
    refine GL.pure rfl (p_fieldAddr' fo_30_1 rfl) ?_
    refine GL.step rfl (t_mem rfl (m_loadP (i := 0) rfl rfl ag_25 rfl)) ?_
    refine GL.pure rfl (p_len Tryz.underlying25 rfl) ?_
    refine GL.pure rfl (p_add rfl rfl (w64 (by first | omega | (dsimp only at *; omega)) (by first | omega | (dsimp only at *; omega)))) ?_
    refine GL.pure rfl (p_assign rfl) ?_
    refine GL.nil (?_ : GC _ _ _ _)
    refine GC.region ?_
    refine GL.pure rfl (p_move rfl) ?_
    refine GL.pure rfl (p_add rfl rfl (w64 (by first | omega | (dsimp only at *; omega)) (by first | omega | (dsimp only at *; omega)))) ?_
    refine GL.pure rfl (p_assign rfl) ?_
    refine GL.nil ?_
    exact fun a w h => ⟨(k + 1), (_), (by omega), ⟨by omega, by first | omega | (dsimp only; omega), by first | omega | (dsimp only; omega)⟩, h.cut (is := [0]) (js := [2, 3, 4, 5, 6, 7, 8, 9]) ⟨rfl, rfl, rfl, trivial⟩ rfl rfl⟩
   ·try simp only [tst_] at h10
    refine GC.exit (?_ : GC _ _ _ _)
    refine GC.seq' ?_
    refine GC.seq' ?_
    refine GC.region ?_
    refine GL.pure rfl (p_assign rfl) ?_
    refine GL.nil (?_ : GC _ _ _ _)
    refine GC.block ?_
    refine GC.loopK2 (ks := [1]) (is := [0]) (js := [0, 1, 2, 3, 4, 5, 6, 7]) (fun (k : Nat) (n : Int) => k ≤ m.log.length ∧ (m.log.length : Int) ≤ n ∧ n ≤ 1000000000000000) (fun (k : Nat) (n : Int) => [(3, .int .i64 n), (6, .int .i64 (k : Int))]) (fun (k : Nat) (n : Int) => []) (fun (k : Nat) (n : Int) => []) (fun (k : Nat) (n : Int) => m.log.length - k) (0) (_) rfl rfl rfl (fun a w h => ⟨⟨by omega, by omega, by omega⟩, h.cutK (is := [0]) (js := [0, 1, 2, 3, 4, 5, 6, 7]) (ks := [1]) ⟨rfl, rfl, trivial⟩ rfl rfl rfl⟩) ?_
    intro k n hk
    try dsimp only [List.cons_append, List.nil_append] at hk ⊢
    refine GC.seq' ?_
    refine GC.seq' ?_
    refine GC.region ?_
    refine GL.pure rfl (p_move rfl) ?_
    refine GL.pure rfl (p_fieldAddr fo_42_15 rfl) ?_
    refine GL.step rfl (t_mem rfl (m_load (i := 0) rfl rfl ag_40 rfl)) ?_
    refine GL.pure rfl (p_len Tryz.underlying40 rfl) ?_
    refine GL.pure rfl (p_lss rfl rfl) ?_
    refine GL.pure rfl (p_move rfl) ?_
    refine GL.split (i := 85) rfl (fun h11 => ?_) (fun h11 => ?_)
    ·try simp only [tst_] at h11
     refine GL.pureG (s := 85) rfl rfl rfl (p_move rfl) ?_
     refine GL.pureG (s := 85) rfl rfl rfl (p_lss rfl rfl) ?_
     refine GL.pure rfl (p_pick_true rfl rfl) ?_
     refine GL.nil (?_ : GC _ _ _ _)
     refine GC.cond rfl (fun h12 => ?_) (fun h12 => ?_)
     ·try simp only [tst_] at h12
      refine GC.skip (?_ : GC _ _ _ _)
      refine GC.seq' ?_
      refine GC.block ?_
      have hx3 := (hm.e _ (gt_elem (l := m.log) (k := k) (by omega))).d
      have hx4 := (hm.e _ (gt_elem (l := m.log) (k := k) (by omega))).o
      refine GC.layQ (y := .tmp 6) (j := 7) rfl rfl (by first | omega | (dsimp only at *; omega)) (gt_ok (by first | omega | (dsimp only at *; omega)) (by first | omega | (dsimp only at *; omega))) (fun p_x95 r_x95 hA_x95 ok_x95 => ?_)
      rcases r_x95 with ⟨_, ⟨_, ⟨_, ⟨_, ⟨_, ⟨⟨_, ⟨_, ⟨_, ⟨⟨Ax95_0, cpx95_0⟩, ⟨Ax95_1, cpx95_1⟩⟩⟩⟩⟩, ⟨_, ⟨Ax95_2, cpx95_2⟩⟩⟩⟩⟩⟩⟩⟩
      refine GC.layQ (y := .tmp 6) (j := 11) rfl rfl (by first | omega | (dsimp only at *; omega)) (gt_ok (by first | omega | (dsimp only at *; omega)) (by first | omega | (dsimp only at *; omega))) (fun p_x104 r_x104 hA_x104 ok_x104 => ?_)
      rcases r_x104 with ⟨_, ⟨_, ⟨_, ⟨_, ⟨_, ⟨⟨_, ⟨_, ⟨_, ⟨⟨Ax104_0, cpx104_0⟩, ⟨Ax104_1, cpx104_1⟩⟩⟩⟩⟩, ⟨_, ⟨Ax104_2, cpx104_2⟩⟩⟩⟩⟩⟩⟩⟩
      refine GC.regionQ wide_ (by kernel_rfl) ?_
      refine GQ.step rfl (q_pure (p_move rfl)) ?_
      refine GQ.step rfl (q_pure (p_fieldAddr fo_42_15 rfl)) ?_
      refine GQ.step rfl (q_mem (m_load (i := 0) rfl rfl ag_40 rfl)) ?_
      refine GQ.step rfl (q_pure (p_move rfl)) ?_
      refine GQ.step rfl (q_pure (p_indexL hA_x95 rfl rfl Tryz.underlying40 sz_64 (by first | omega | (dsimp only at *; omega)) (by first | omega | (dsimp only at *; omega)))) ?_
      refine GQ.step rfl (q_pure (p_fieldAddr' fo_64_5 rfl)) ?_
      refine GQ.step rfl (q_pure (p_fieldAddr' fo_27_3 rfl)) ?_
      refine GQ.step rfl (q_mem (m_loadP (i := 4) rfl rfl ag_25 rfl)) ?_
      refine GQ.step rfl (q_pure (p_len Tryz.underlying25 rfl)) ?_
      refine GQ.step rfl (q_pure (p_add rfl rfl (w64 (by first | omega | (dsimp only at *; omega)) (by first | omega | (dsimp only at *; omega))))) ?_
      refine GQ.step rfl (q_pure (p_fieldAddr fo_42_15 rfl)) ?_
      refine GQ.step rfl (q_mem (m_load (i := 0) rfl rfl ag_40 rfl)) ?_
      refine GQ.step rfl (q_pure (p_move rfl)) ?_
      refine GQ.step rfl (q_pure (p_indexL hA_x104 rfl rfl Tryz.underlying40 sz_64 (by first | omega | (dsimp only at *; omega)) (by first | omega | (dsimp only at *; omega)))) ?_
      refine GQ.step rfl (q_pure (p_fieldAddr' fo_64_5 rfl)) ?_
      refine GQ.step rfl (q_pure (p_fieldAddr' fo_27_4 rfl)) ?_
      refine GQ.step rfl (q_mem (m_loadP (i := 0) rfl rfl ag_25 rfl)) ?_
      refine GQ.step rfl (q_pure (p_len Tryz.underlying25 rfl)) ?_
      refine GQ.step rfl (q_pure (p_add rfl rfl (w64 (by first | omega | (dsimp only at *; omega)) (by first | omega | (dsimp only at *; omega))))) ?_
      refine GQ.step rfl (q_pure (p_assign rfl)) ?_
      refine GQ.nil (?_ : GC _ _ _ _)
      refine GC.region ?_
      refine GL.pure rfl (p_move rfl) ?_
      refine GL.pure rfl (p_add rfl rfl (w64 (by first | omega | (dsimp only at *; omega)) (by first | omega | (dsimp only at *; omega)))) ?_
      refine GL.pure rfl (p_assign rfl) ?_
      refine GL.nil ?_
      exact fun a w h => ⟨(k + 1), (_), (by omega), ⟨by omega, by first | omega | (dsimp only; omega), by first | omega | (dsimp only; omega)⟩, h.cut (is := [0]) (js := [8, 9, 10, 11, 12, 13, 14, 15]) ⟨rfl, rfl, rfl, trivial⟩ rfl rfl⟩
     ·try simp only [tst_] at h12
      refine GC.exit (?_ : GC _ _ _ _)
      refine GC.seq' ?_
      refine GC.region ?_
      refine GL.pure rfl (p_move rfl) ?_
      refine GL.pure rfl (p_lss rfl rfl) ?_
      refine GL.pure rfl (p_assign rfl) ?_
      refine GL.nil (?_ : GC _ _ _ _)
      refine GC.ret ?_
      refine fun a w h => Fin.back (rs := [.tmp 2]) (vs := [_]) (is := []) (js := []) rfl ⟨rfl, trivial⟩ rfl rfl ?_ h
      clear h
      exact ⟨_, fun h => by have := of_decide_eq_true h; omega, rfl, rfl, rfl⟩
    ·try simp only [tst_] at h11
     refine GL.pass (s := 85) rfl rfl rfl ?_
     refine GL.pass (s := 85) rfl rfl rfl ?_
     refine GL.pure rfl (p_pick_false rfl rfl) ?_
     refine GL.nil (?_ : GC _ _ _ _)
     refine GC.cond_false rfl ?_
     refine GC.exit (?_ : GC _ _ _ _)
     refine GC.seq' ?_
     refine GC.region ?_
     refine GL.pure rfl (p_move rfl) ?_
     refine GL.pure rfl (p_lss rfl rfl) ?_
     refine GL.pure rfl (p_assign rfl) ?_
     refine GL.nil (?_ : GC _ _ _ _)
     refine GC.ret ?_
     refine fun a w h => Fin.back (rs := [.tmp 2]) (vs := [_]) (is := []) (js := []) rfl ⟨rfl, trivial⟩ rfl rfl ?_ h
     clear h
     exact ⟨_, fun h => by have := of_decide_eq_true h; omega, rfl, rfl, rfl⟩
  ·try simp only [tst_] at h9
   refine GL.pass (s := 63) rfl rfl rfl ?_
   refine GL.pass (s := 63) rfl rfl rfl ?_
   refine GL.pure rfl (p_pick_false rfl rfl) ?_
   refine GL.nil (?_ : GC _ _ _ _)
   refine GC.cond_false rfl ?_
   refine GC.exit (?_ : GC _ _ _ _)
   refine GC.seq' ?_
   refine GC.seq' ?_
   refine GC.region ?_
   refine GL.pure rfl (p_assign rfl) ?_
   refine GL.nil (?_ : GC _ _ _ _)
   refine GC.block ?_
   refine GC.loopK2 (ks := [1]) (is := [0]) (js := [0, 1, 2, 3, 4, 5, 6, 7]) (fun (k : Nat) (n : Int) => k ≤ m.log.length ∧ (m.log.length : Int) ≤ n ∧ n ≤ 1000000000000000) (fun (k : Nat) (n : Int) => [(3, .int .i64 n), (6, .int .i64 (k : Int))]) (fun (k : Nat) (n : Int) => []) (fun (k : Nat) (n : Int) => []) (fun (k : Nat) (n : Int) => m.log.length - k) (0) (_) rfl rfl rfl (fun a w h => ⟨⟨by omega, by omega, by omega⟩, h.cutK (is := [0]) (js := [0, 1, 2, 3, 4, 5, 6, 7]) (ks := [1]) ⟨rfl, rfl, trivial⟩ rfl rfl rfl⟩) ?_
   intro k n hk
   try dsimp only [List.cons_append, List.nil_append] at hk ⊢
   refine GC.seq' ?_
   refine GC.seq' ?_
   refine GC.region ?_
   refine GL.pure rfl (p_move rfl) ?_
   refine GL.pure rfl (p_fieldAddr fo_42_15 rfl) ?_
   refine GL.step rfl (t_mem rfl (m_load (i := 0) rfl rfl ag_40 rfl)) ?_
   refine GL.pure rfl (p_len Tryz.underlying40 rfl) ?_
   refine GL.pure rfl (p_lss rfl rfl) ?_
   refine GL.pure rfl (p_move rfl) ?_
   refine GL.split (i := 85) rfl (fun h13 => ?_) (fun h13 => ?_)
   ·try simp only [tst_] at h13
    refine GL.pureG (s := 85) rfl rfl rfl (p_move rfl) ?_
    refine GL.pureG (s := 85) rfl rfl rfl (p_lss rfl rfl) ?_
    refine GL.pure rfl (p_pick_true rfl rfl) ?_
    refine GL.nil (?_ : GC _ _ _ _)
    refine GC.cond rfl (fun h14 => ?_) (fun h14 => ?_)
    ·try simp only [tst_] at h14
     refine GC.skip (?_ : GC _ _ _ _)
     refine GC.seq' ?_
     refine GC.block ?_
     have hx3 := (hm.e _ (gt_elem (l := m.log) (k := k) (by omega))).d
     have hx4 := (hm.e _ (gt_elem (l := m.log) (k := k) (by omega))).o
     refine GC.layQ (y := .tmp 6) (j := 7) rfl rfl (by first | omega | (dsimp only at *; omega)) (gt_ok (by first | omega | (dsimp only at *; omega)) (by first | omega | (dsimp only at *; omega))) (fun p_x95 r_x95 hA_x95 ok_x95 => ?_)
     rcases r_x95 with ⟨_, ⟨_, ⟨_, ⟨_, ⟨_, ⟨⟨_, ⟨_, ⟨_, ⟨⟨Ax95_0, cpx95_0⟩, ⟨Ax95_1, cpx95_1⟩⟩⟩⟩⟩, ⟨_, ⟨Ax95_2, cpx95_2⟩⟩⟩⟩⟩⟩⟩⟩
     refine GC.layQ (y := .tmp 6) (j := 11) rfl rfl (by first | omega | (dsimp only at *; omega)) (gt_ok (by first | omega | (dsimp only at *; omega)) (by first | omega | (dsimp only at *; omega))) (fun p_x104 r_x104 hA_x104 ok_x104 => ?_)
     rcases r_x104 with ⟨_, ⟨_, ⟨_, ⟨_, ⟨_, ⟨⟨_, ⟨_, ⟨_, ⟨⟨Ax104_0, cpx104_0⟩, ⟨Ax104_1, cpx104_1⟩⟩⟩⟩⟩, ⟨_, ⟨Ax104_2, cpx104_2⟩⟩⟩⟩⟩⟩⟩⟩
     refine GC.regionQ wide_ (by kernel_rfl) ?_
     refine GQ.step rfl (q_pure (p_move rfl)) ?_
     refine GQ.step rfl (q_pure (p_fieldAddr fo_42_15 rfl)) ?_
     refine GQ.step rfl (q_mem (m_load (i := 0) rfl rfl ag_40 rfl)) ?_
     refine GQ.step rfl (q_pure (p_move rfl)) ?_
     refine GQ.step rfl (q_pure (p_indexL hA_x95 rfl rfl Tryz.underlying40 sz_64 (by first | omega | (dsimp only at *; omega)) (by first | omega | (dsimp only at *; omega)))) ?_
     refine GQ.step rfl (q_pure (p_fieldAddr' fo_64_5 rfl)) ?_
     refine GQ.step rfl (q_pure (p_fieldAddr' fo_27_3 rfl)) ?_
     refine GQ.step rfl (q_mem (m_loadP (i := 4) rfl rfl ag_25 rfl)) ?_
     refine GQ.step rfl (q_pure (p_len Tryz.underlying25 rfl)) ?_
     refine GQ.step rfl (q_pure (p_add rfl rfl (w64 (by first | omega | (dsimp only at *; omega)) (by first | omega | (dsimp only at *; omega))))) ?_
     refine GQ.step rfl (q_pure (p_fieldAddr fo_42_15 rfl)) ?_
     refine GQ.step rfl (q_mem (m_load (i := 0) rfl rfl ag_40 rfl)) ?_
     refine GQ.step rfl (q_pure (p_move rfl)) ?_
     refine GQ.step rfl (q_pure (p_indexL hA_x104 rfl rfl Tryz.underlying40 sz_64 (by first | omega | (dsimp only at *; omega)) (by first | omega | (dsimp only at *; omega)))) ?_
     refine GQ.step rfl (q_pure (p_fieldAddr' fo_64_5 rfl)) ?_
     refine GQ.step rfl (q_pure (p_fieldAddr' fo_27_4 rfl)) ?_
     refine GQ.step rfl (q_mem (m_loadP (i := 0) rfl rfl ag_25 rfl)) ?_
     refine GQ.step rfl (q_pure (p_len Tryz.underlying25 rfl)) ?_
     refine GQ.step rfl (q_pure (p_add rfl rfl (w64 (by first | omega | (dsimp only at *; omega)) (by first | omega | (dsimp only at *; omega))))) ?_
     refine GQ.step rfl (q_pure (p_assign rfl)) ?_
     refine GQ.nil (?_ : GC _ _ _ _)
     refine GC.region ?_
     refine GL.pure rfl (p_move rfl) ?_
     refine GL.pure rfl (p_add rfl rfl (w64 (by first | omega | (dsimp only at *; omega)) (by first | omega | (dsimp only at *; omega)))) ?_
     refine GL.pure rfl (p_assign rfl) ?_
     refine GL.nil ?_
     exact fun a w h => ⟨(k + 1), (_), (by omega), ⟨by omega, by first | omega | (dsimp only; omega), by first | omega | (dsimp only; omega)⟩, h.cut (is := [0]) (js := [8, 9, 10, 11, 12, 13, 14, 15]) ⟨rfl, rfl, rfl, trivial⟩ rfl rfl⟩
    ·try simp only [tst_] at h14
     refine GC.exit (?_ : GC _ _ _ _)
     refine GC.seq' ?_
     refine GC.region ?_
     refine GL.pure rfl (p_move rfl) ?_
     refine GL.pure rfl (p_lss rfl rfl) ?_
     refine GL.pure rfl (p_assign rfl) ?_
     refine GL.nil (?_ : GC _ _ _ _)
     refine GC.ret ?_
     refine fun a w h => Fin.back (rs := [.tmp 2]) (vs := [_]) (is := []) (js := []) rfl ⟨rfl, trivial⟩ rfl rfl ?_ h
     clear h
     exact ⟨_, fun h => by have := of_decide_eq_true h; omega, rfl, rfl, rfl⟩
   ·try simp only [tst_] at h13
    refine GL.pass (s := 85) rfl rfl rfl ?_
    refine GL.pass (s := 85) rfl rfl rfl ?_
    refine GL.pure rfl (p_pick_false rfl rfl) ?_
    refine GL.nil (?_ : GC _ _ _ _)
    refine GC.cond_false rfl ?_
    refine GC.exit (?_ : GC _ _ _ _)
    refine GC.seq' ?_
    refine GC.region ?_
    refine GL.pure rfl (p_move rfl) ?_
    refine GL.pure rfl (p_lss rfl rfl) ?_
    refine GL.pure rfl (p_assign rfl) ?_
    refine GL.nil (?_ : GC _ _ _ _)
    refine GC.ret ?_
    refine fun a w h => Fin.back (rs := [.tmp 2]) (vs := [_]) (is := []) (js := []) rfl ⟨rfl, trivial⟩ rfl rfl ?_ h
    clear h
    exact ⟨_, fun h => by have := of_decide_eq_true h; omega, rfl, rfl, rfl⟩
theorem wireForms_ct (m k : Msg) (s t : Lie) (hm : MsgLen m) (hk : MsgLen k) : Ct Tryz.prog 3 [msgV m s, msgV k t] [] (msgQ m s ++ msgQ k t) (fun u G Q => u = .bool true ∧ G = [] ∧ Q = []) := by
 refine Ct.intro Tryz.func3 rfl rfl rfl (fun c hc => ?_)
 refine GC.seq' ?_
 refine GC.region ?_
 refine GL.step rfl (t_box rfl rfl rfl) (GL.ex fun b_t2 => ?_)
 refine GL.step rfl (t_box rfl rfl rfl) (GL.ex fun b_t3 => ?_)
 refine GL.pure rfl (p_assign rfl) ?_
 refine GL.nil (?_ : GC _ _ _ _)
 refine GC.seq' ?_
 refine GC.seq' ?_
 refine GC.region ?_
 refine GL.step rfl (t_mem rfl (m_loadN (i := 1) rfl rfl ag_42 (vs := [_, _, _, _, _, _, _, _, _, _, _, _, _, _, _, _, _, _, _, _, _, _, _, _, _, _, _, _]) sz_42 ⟨rfl, rfl, rfl, rfl, rfl, rfl, rfl, rfl, rfl, rfl, rfl, rfl, rfl, rfl, rfl, rfl, rfl, rfl, rfl, rfl, rfl, rfl, rfl, rfl, rfl, rfl, rfl, rfl, trivial⟩)) ?_
 refine GL.step rfl (t_call rfl fn_10 rfl (is := []) (js := [0, 1, 2, 3, 4, 5, 6, 7]) rfl rfl (by exact small_ct m s hm)) (GL.ret ?_)
 rintro _ _ _ ⟨b6, hb6, rfl, rfl, rfl⟩
 refine GL.pure rfl (p_not rfl) ?_
 refine GL.pure rfl (p_move rfl) ?_
 refine GL.split (i := 8) rfl (fun h1 => ?_) (fun h1 => ?_)
 ·try simp only [tst_] at h1
  first
  | (exfalso; first | exact h1 rfl | exact h1 trivial | (simp at h1; done))
  |(skip
    refine GL.pass (s := 8) rfl rfl rfl ?_
    refine GL.pass (s := 8) rfl rfl rfl ?_
    refine GL.pass (s := 8) rfl rfl rfl ?_
    refine GL.pure rfl (p_pick_true rfl rfl) ?_
    refine GL.nil (?_ : GC _ _ _ _)
    refine GC.cond_true rfl ?_
    refine GC.seq' ?_
    refine GC.region ?_
    refine GL.step rfl (t_call rfl fn_11 rfl (is := []) (js := []) rfl rfl (by exact awake_ct)) (GL.ret ?_)
    rintro _ _ _ ⟨rfl, rfl, rfl⟩
    refine GL.pure rfl (p_assign rfl) ?_
    refine GL.nil (?_ : GC _ _ _ _)
    refine GC.ret ?_
    refine fun a w h => Fin.back (rs := [.tmp 4]) (vs := [_]) (is := []) (js := []) rfl ⟨rfl, trivial⟩ rfl rfl ?_ h
    clear h
    exact ⟨rfl, rfl, rfl⟩)
 ·try simp only [tst_] at h1
  first
  | (exfalso; first | exact h1 rfl | exact h1 trivial | (simp at h1; done))
  |(skip
    refine GL.stepG rfl (s := 8) rfl rfl (t_mem rfl (m_loadN (i := 0) rfl rfl ag_42 (vs := [_, _, _, _, _, _, _, _, _, _, _, _, _, _, _, _, _, _, _, _, _, _, _, _, _, _, _, _]) sz_42 ⟨rfl, rfl, rfl, rfl, rfl, rfl, rfl, rfl, rfl, rfl, rfl, rfl, rfl, rfl, rfl, rfl, rfl, rfl, rfl, rfl, rfl, rfl, rfl, rfl, rfl, rfl, rfl, rfl, trivial⟩)) ?_
    refine GL.stepG rfl (s := 8) rfl rfl (t_call rfl fn_10 rfl (is := []) (js := [8, 9, 10, 11, 12, 13, 14, 15]) rfl rfl (by exact small_ct k t hk)) (GL.ret ?_)
    rintro _ _ _ ⟨b10, hb10, rfl, rfl, rfl⟩
    refine GL.pureG (s := 8) rfl rfl rfl (p_not rfl) ?_
    refine GL.pure rfl (p_pick_false rfl rfl) ?_
    refine GL.nil (?_ : GC _ _ _ _)
    refine GC.cond rfl (fun h2 => ?_) (fun h2 => ?_)
    ·try simp only [tst_] at h2
     first
     | (exfalso; first | exact h2 rfl | exact h2 trivial | (simp at h2; done))
     |(skip
       refine GC.seq' ?_
       refine GC.region ?_
       refine GL.step rfl (t_call rfl fn_11 rfl (is := []) (js := []) rfl rfl (by exact awake_ct)) (GL.ret ?_)
       rintro _ _ _ ⟨rfl, rfl, rfl⟩
       refine GL.pure rfl (p_assign rfl) ?_
       refine GL.nil (?_ : GC _ _ _ _)
       refine GC.ret ?_
       refine fun a w h => Fin.back (rs := [.tmp 4]) (vs := [_]) (is := []) (js := []) rfl ⟨rfl, trivial⟩ rfl rfl ?_ h
       clear h
       exact ⟨rfl, rfl, rfl⟩)
    ·try simp only [tst_] at h2
     first
     | (exfalso; first | exact h2 rfl | exact h2 trivial | (simp at h2; done))
     |(skip
       refine GC.skip (?_ : GC _ _ _ _)
       refine GC.seq' ?_
       refine GC.regionQ wide_ (by kernel_rfl) ?_
       refine GQ.step rfl (q_mem (m_loadN (i := 1) rfl rfl ag_42 (vs := [_, _, _, _, _, _, _, _, _, _, _, _, _, _, _, _, _, _, _, _, _, _, _, _, _, _, _, _]) sz_42 ⟨rfl, rfl, rfl, rfl, rfl, rfl, rfl, rfl, rfl, rfl, rfl, rfl, rfl, rfl, rfl, rfl, rfl, rfl, rfl, rfl, rfl, rfl, rfl, rfl, rfl, rfl, rfl, rfl, trivial⟩)) ?_
       refine GQ.step rfl (q_call fn_12 rfl (js := [0, 1, 2, 3, 4, 5, 6, 7]) rfl (by exact wchk_ct m s hm)) ?_
       refine GQ.step rfl (q_mem (m_loadN (i := 1) rfl rfl ag_42 (vs := [_, _, _, _, _, _, _, _, _, _, _, _, _, _, _, _, _, _, _, _, _, _, _, _, _, _, _, _]) sz_42 ⟨rfl, rfl, rfl, rfl, rfl, rfl, rfl, rfl, rfl, rfl, rfl, rfl, rfl, rfl, rfl, rfl, rfl, rfl, rfl, rfl, rfl, rfl, rfl, rfl, rfl, rfl, rfl, rfl, trivial⟩)) ?_
       refine GQ.step rfl (q_call fn_13 rfl (js := [0, 1, 2, 3, 4, 5, 6, 7]) rfl (by exact rchk_ct m s hm)) ?_
       refine GQ.step rfl (q_pure (p_eql rfl rfl)) ?_
       refine GQ.step rfl (q_pure (p_move rfl)) ?_
       refine GQ.split (i := 19) rfl (fun h3 => ?_) (fun h3 => ?_)
       ·try simp only [tst_] at h3
        first
        | (exfalso; first | exact h3 rfl | exact h3 trivial | (simp at h3; done))
        |(skip
          refine GQ.stepG (s := 19) rfl rfl rfl (q_mem (m_loadN (i := 1) rfl rfl ag_42 (vs := [_, _, _, _, _, _, _, _, _, _, _, _, _, _, _, _, _, _, _, _, _, _, _, _, _, _, _, _]) sz_42 ⟨rfl, rfl, rfl, rfl, rfl, rfl, rfl, rfl, rfl, rfl, rfl, rfl, rfl, rfl, rfl, rfl, rfl, rfl, rfl, rfl, rfl, rfl, rfl, rfl, rfl, rfl, rfl, rfl, trivial⟩)) ?_
          refine GQ.stepG (s := 19) rfl rfl rfl (q_mem (m_loadN (i := 0) rfl rfl ag_42 (vs := [_, _, _, _, _, _, _, _, _, _, _, _, _, _, _, _, _, _, _, _, _, _, _, _, _, _, _, _]) sz_42 ⟨rfl, rfl, rfl, rfl, rfl, rfl, rfl, rfl, rfl, rfl, rfl, rfl, rfl, rfl, rfl, rfl, rfl, rfl, rfl, rfl, rfl, rfl, rfl, rfl, rfl, rfl, rfl, rfl, trivial⟩)) ?_
          refine GQ.stepG (s := 19) rfl rfl rfl (q_call fn_14 rfl (js := [0, 1, 2, 3, 4, 5, 6, 7, 8, 9, 10, 11, 12, 13, 14, 15]) rfl (by exact wsame_ct m k s t hm)) ?_
          refine GQ.stepG (s := 19) rfl rfl rfl (q_mem (m_loadN (i := 1) rfl rfl ag_42 (vs := [_, _, _, _, _, _, _, _, _, _, _, _, _, _, _, _, _, _, _, _, _, _, _, _, _, _, _, _]) sz_42 ⟨rfl, rfl, rfl, rfl, rfl, rfl, rfl, rfl, rfl, rfl, rfl, rfl, rfl, rfl, rfl, rfl, rfl, rfl, rfl, rfl, rfl, rfl, rfl, rfl, rfl, rfl, rfl, rfl, trivial⟩)) ?_
          refine GQ.stepG (s := 19) rfl rfl rfl (q_mem (m_loadN (i := 0) rfl rfl ag_42 (vs := [_, _, _, _, _, _, _, _, _, _, _, _, _, _, _, _, _, _, _, _, _, _, _, _, _, _, _, _]) sz_42 ⟨rfl, rfl, rfl, rfl, rfl, rfl, rfl, rfl, rfl, rfl, rfl, rfl, rfl, rfl, rfl, rfl, rfl, rfl, rfl, rfl, rfl, rfl, rfl, rfl, rfl, rfl, rfl, rfl, trivial⟩)) ?_
          refine GQ.stepG (s := 19) rfl rfl rfl (q_call fn_15 rfl (js := [0, 1, 2, 3, 4, 5, 6, 7, 8, 9, 10, 11, 12, 13, 14, 15]) rfl (by exact rmsame_ct m k s t hm)) ?_
          refine GQ.stepG (s := 19) rfl rfl rfl (q_pure (p_beql Tryz.underlying4 rfl rfl)) ?_
          refine GQ.step rfl (q_pure (p_pick_true rfl rfl)) ?_
          refine GQ.step rfl (q_pure (p_move rfl)) ?_
          refine GQ.split (i := 28) rfl (fun h4 => ?_) (fun h4 => ?_)
          ·try simp only [tst_] at h4
           first
           | (exfalso; first | exact h4 rfl | exact h4 trivial | (simp at h4; done))
           |(skip
             refine GQ.stepG (s := 28) rfl rfl rfl (q_mem (m_loadN (i := 1) rfl rfl ag_42 (vs := [_, _, _, _, _, _, _, _, _, _, _, _, _, _, _, _, _, _, _, _, _, _, _, _, _, _, _, _]) sz_42 ⟨rfl, rfl, rfl, rfl, rfl, rfl, rfl, rfl, rfl, rfl, rfl, rfl, rfl, rfl, rfl, rfl, rfl, rfl, rfl, rfl, rfl, rfl, rfl, rfl, rfl, rfl, rfl, rfl, trivial⟩)) ?_
             refine GQ.stepG (s := 28) rfl rfl rfl (q_mem (m_loadN (i := 1) rfl rfl ag_42 (vs := [_, _, _, _, _, _, _, _, _, _, _, _, _, _, _, _, _, _, _, _, _, _, _, _, _, _, _, _]) sz_42 ⟨rfl, rfl, rfl, rfl, rfl, rfl, rfl, rfl, rfl, rfl, rfl, rfl, rfl, rfl, rfl, rfl, rfl, rfl, rfl, rfl, rfl, rfl, rfl, rfl, rfl, rfl, rfl, rfl, trivial⟩)) ?_
             refine GQ.stepG (s := 28) rfl rfl rfl (q_call fn_14 rfl (js := [0, 1, 2, 3, 4, 5, 6, 7, 0, 1, 2, 3, 4, 5, 6, 7]) rfl (by exact wsame_ct m m s s hm)) ?_
             refine GQ.step rfl (q_pure (p_pick_true rfl rfl)) ?_
             refine GQ.step rfl (q_pure (p_move rfl)) ?_
             refine GQ.split (i := 33) rfl (fun h5 => ?_) (fun h5 => ?_)
             ·try simp only [tst_] at h5
              first
              | (exfalso; first | exact h5 rfl | exact h5 trivial | (simp at h5; done))
              |(skip
                refine GQ.stepG (s := 33) rfl rfl rfl (q_call fn_11 rfl (js := []) rfl (by exact awake_ct)) ?_
                refine GQ.step rfl (q_pure (p_pick_true rfl rfl)) ?_
                refine GQ.step rfl (q_pure (p_assign rfl)) ?_
                refine GQ.nil (?_ : GC _ _ _ _)
                refine GC.ret ?_
                refine fun a w h => Fin.back (rs := [.tmp 4]) (vs := [_]) (is := []) (js := []) rfl ⟨rfl, trivial⟩ rfl rfl ?_ h
                clear h
                exact ⟨rfl, rfl, rfl⟩)
             ·try simp only [tst_] at h5
              first
              | (exfalso; first | exact h5 rfl | exact h5 trivial | (simp at h5; done))
              |(skip
                refine GQ.pass (s := 33) rfl rfl rfl ?_
                refine GQ.step rfl (q_pure (p_pick_false rfl rfl)) ?_
                refine GQ.step rfl (q_pure (p_assign rfl)) ?_
                refine GQ.nil (?_ : GC _ _ _ _)
                refine GC.ret ?_
                refine fun a w h => Fin.back (rs := [.tmp 4]) (vs := [_]) (is := []) (js := []) rfl ⟨rfl, trivial⟩ rfl rfl ?_ h
                clear h
                exact ⟨rfl, rfl, rfl⟩))
          ·try simp only [tst_] at h4
           first
           | (exfalso; first | exact h4 rfl | exact h4 trivial | (simp at h4; done))
           |(skip
             refine GQ.pass (s := 28) rfl rfl rfl ?_
             refine GQ.pass (s := 28) rfl rfl rfl ?_
             refine GQ.pass (s := 28) rfl rfl rfl ?_
             refine GQ.step rfl (q_pure (p_pick_false rfl rfl)) ?_
             refine GQ.step rfl (q_pure (p_move rfl)) ?_
             refine GQ.pass (s := 33) rfl rfl rfl ?_
             refine GQ.step rfl (q_pure (p_pick_false rfl rfl)) ?_
             refine GQ.step rfl (q_pure (p_assign rfl)) ?_
             refine GQ.nil (?_ : GC _ _ _ _)
             refine GC.ret ?_
             refine fun a w h => Fin.back (rs := [.tmp 4]) (vs := [_]) (is := []) (js := []) rfl ⟨rfl, trivial⟩ rfl rfl ?_ h
             clear h
             exact ⟨rfl, rfl, rfl⟩))
       ·try simp only [tst_] at h3
        first
        | (exfalso; first | exact h3 rfl | exact h3 trivial | (simp at h3; done))
        |(skip
          refine GQ.pass (s := 19) rfl rfl rfl ?_
          refine GQ.pass (s := 19) rfl rfl rfl ?_
          refine GQ.pass (s := 19) rfl rfl rfl ?_
          refine GQ.pass (s := 19) rfl rfl rfl ?_
          refine GQ.pass (s := 19) rfl rfl rfl ?_
          refine GQ.pass (s := 19) rfl rfl rfl ?_
          refine GQ.pass (s := 19) rfl rfl rfl ?_
          refine GQ.step rfl (q_pure (p_pick_false rfl rfl)) ?_
          refine GQ.step rfl (q_pure (p_move rfl)) ?_
          refine GQ.pass (s := 28) rfl rfl rfl ?_
          refine GQ.pass (s := 28) rfl rfl rfl ?_
          refine GQ.pass (s := 28) rfl rfl rfl ?_
          refine GQ.step rfl (q_pure (p_pick_false rfl rfl)) ?_
          refine GQ.step rfl (q_pure (p_move rfl)) ?_
          refine GQ.pass (s := 33) rfl rfl rfl ?_
          refine GQ.step rfl (q_pure (p_pick_false rfl rfl)) ?_
          refine GQ.step rfl (q_pure (p_assign rfl)) ?_
          refine GQ.nil (?_ : GC _ _ _ _)
          refine GC.ret ?_
          refine fun a w h => Fin.back (rs := [.tmp 4]) (vs := [_]) (is := []) (js := []) rfl ⟨rfl, trivial⟩ rfl rfl ?_ h
          clear h
          exact ⟨rfl, rfl, rfl⟩)))
end Go.Proofs.YtdhdmbmknpjhbaaGreat
