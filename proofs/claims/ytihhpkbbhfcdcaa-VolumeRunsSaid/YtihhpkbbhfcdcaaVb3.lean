/- THE VOLUME: a new volume; requests. -/
import Derived.Test.YtihhpkbbhfcdcaaVb2
set_option linter.unusedVariables false
set_option linter.unusedSimpArgs false
set_option maxRecDepth 100000
namespace Go.Proofs.Ytihhpkbbhfcdcaa
open Go Go.Sx Go.Proofs

theorem new_bad (bl sz : Int) (h : ¬ shapeOk bl sz) : Ct Try.prog 9 [shpV bl sz] [] [] (fun v G Q => v = .tuple #[.pointer none, .int .i64 40] ∧ G = [] ∧ Q = []) := by
  have he : shapeE bl sz = 40 := by simp [shapeE, h]
  refine Ct.intro Try.func9 rfl rfl rfl (fun c hc => ?_)
  refine GC.seq' ?_
  refine GC.region ?_
  refine GL.step rfl (t_box rfl rfl rfl) (GL.ex fun b_t1 => ?_)
  refine GL.pure rfl (p_assign rfl) ?_
  refine GL.pure rfl (p_assign rfl) ?_
  refine GL.nil (?_ : GC _ _ _ _)
  refine GC.seq' ?_
  refine GC.seq' ?_
  refine GC.region ?_
  refine GL.step rfl (t_mem rfl (m_loadN (i := 0) rfl rfl ag_23 (vs := [_, _]) sz_23 ⟨rfl, rfl, trivial⟩)) ?_
  refine GL.step rfl (t_call rfl fn_26 rfl (is := []) (js := []) rfl rfl (by exact shape_eq _ _ _ he)) (GL.ret ?_)
  rintro _ _ _ ⟨rfl, rfl, rfl⟩
  refine GL.pure rfl (p_assign rfl) ?_
  refine GL.nil (?_ : GC _ _ _ _)
  refine GC.seq' ?_
  refine GC.region ?_
  refine GL.pure rfl (p_move rfl) ?_
  refine GL.pure rfl (p_neq rfl rfl) ?_
  refine GL.nil (?_ : GC _ _ _ _)
  refine GC.cond_true rfl ?_
  refine GC.seq' ?_
  refine GC.region ?_
  refine GL.pure rfl (p_move rfl) ?_
  refine GL.pure rfl (p_assign rfl) ?_
  refine GL.pure rfl (p_assign rfl) ?_
  refine GL.nil (?_ : GC _ _ _ _)
  refine GC.ret ?_
  refine fun a w h => Fin.back (rs := [.tmp 2, .tmp 3]) (vs := [_, _]) (is := []) (js := []) rfl ⟨rfl, rfl, trivial⟩ rfl rfl ?_ h
  clear h
  exact ⟨rfl, rfl, rfl⟩
theorem new_ok (bl sz : Int) (h : shapeOk bl sz) : Ct Try.prog 9 [shpV bl sz] [] [] (fun v G Q => ∃ p pb pv, v = .tuple #[.pointer (some ⟨p, 0, none⟩), .int .i64 0] ∧ G = volG p pb pv (newV bl sz) ∧ Q = []) := by
  have he : shapeE bl sz = 0 := by simp [shapeE, h]
  have hm := mulS h
  have hs := h
  simp only [shapeOk] at hs
  refine Ct.intro Try.func9 rfl rfl rfl (fun c hc => ?_)
  refine GC.seq' ?_
  refine GC.region ?_
  refine GL.step rfl (t_box rfl rfl rfl) (GL.ex fun b_t1 => ?_)
  refine GL.pure rfl (p_assign rfl) ?_
  refine GL.pure rfl (p_assign rfl) ?_
  refine GL.nil (?_ : GC _ _ _ _)
  refine GC.seq' ?_
  refine GC.seq' ?_
  refine GC.region ?_
  refine GL.step rfl (t_mem rfl (m_loadN (i := 0) rfl rfl ag_23 (vs := [_, _]) sz_23 ⟨rfl, rfl, trivial⟩)) ?_
  refine GL.step rfl (t_call rfl fn_26 rfl (is := []) (js := []) rfl rfl (by exact shape_eq _ _ _ he)) (GL.ret ?_)
  rintro _ _ _ ⟨rfl, rfl, rfl⟩
  refine GL.pure rfl (p_assign rfl) ?_
  refine GL.nil (?_ : GC _ _ _ _)
  refine GC.seq' ?_
  refine GC.region ?_
  refine GL.pure rfl (p_move rfl) ?_
  refine GL.pure rfl (p_neq rfl rfl) ?_
  refine GL.nil (?_ : GC _ _ _ _)
  refine GC.cond_false rfl ?_
  refine GC.skip (?_ : GC _ _ _ _)
  refine GC.seq' ?_
  refine GC.regionM (m := 14) (M := fun a w => ∃ p : Nat, ∃ pb : Nat, ∃ pv : Nat, St c 22 [(2, .pointer (some ⟨p, 0, none⟩)), (3, .int .i64 0)] [.cells p [.int .i64 bl, .int .i64 sz, .slice (some ⟨pb, 0, none⟩) (bl * sz).toNat (bl * sz).toNat, .slice (some ⟨pv, 0, none⟩) bl.toNat bl.toNat, .int .i64 0] 58, .cells pb ((List.replicate (bl * sz).toNat 0).map u8v) 5, .cells pv ((List.replicate bl.toNat 0).map (Value.int .i64)) 3] [] a w) (is := [0]) (js := []) wide_ rfl rfl rfl ?_ ?_
  · refine GA.take 0 rfl (by kernel_rfl) (by kernel_rfl) (by kernel_rfl) rfl (fun a w h => h.mem (is := [0]) (js := []) rfl rfl) (i_mem (m_loadN (i := 0) rfl rfl ag_23 (vs := [_, _]) sz_23 ⟨rfl, rfl, trivial⟩)) ?_
    refine GA.take 1 rfl (by kernel_rfl) (by kernel_rfl) (by kernel_rfl) rfl (fun a w h => h.mem (is := [0]) (js := []) rfl rfl) (i_pure (p_fieldAddr fo_23_0 rfl)) ?_
    refine GA.take 2 rfl (by kernel_rfl) (by kernel_rfl) (by kernel_rfl) rfl (fun a w h => h.mem (is := [0]) (js := []) rfl rfl) (i_mem (m_load (i := 0) rfl rfl ag_3 rfl)) ?_
    refine GA.take 3 rfl (by kernel_rfl) (by kernel_rfl) (by kernel_rfl) rfl (fun a w h => h.mem (is := [0]) (js := []) rfl rfl) (i_pure (p_fieldAddr fo_23_1 rfl)) ?_
    refine GA.take 4 rfl (by kernel_rfl) (by kernel_rfl) (by kernel_rfl) rfl (fun a w h => h.mem (is := [0]) (js := []) rfl rfl) (i_mem (m_load (i := 0) rfl rfl ag_3 rfl)) ?_
    refine GA.take 5 rfl (by kernel_rfl) (by kernel_rfl) (by kernel_rfl) rfl (fun a w h => h.mem (is := [0]) (js := []) rfl rfl) (i_pure (p_mul rfl rfl (w64 (by omega) (by omega)))) ?_
    refine GA.take 7 rfl (by kernel_rfl) (by kernel_rfl) (by kernel_rfl) rfl (fun a w h => h.mem (is := [0]) (js := []) rfl rfl) (i_pure (p_fieldAddr fo_23_0 rfl)) ?_
    refine GA.take 8 rfl (by kernel_rfl) (by kernel_rfl) (by kernel_rfl) rfl (fun a w h => h.mem (is := [0]) (js := []) rfl rfl) (i_mem (m_load (i := 0) rfl rfl ag_3 rfl)) ?_
    refine GA.all (rs := [6, 9]) (by kernel_rfl) (by simp) ?_
    refine GAs.cons (i := 6) rfl rfl (t_make rfl el_31 rfl rfl (by omega) (by omega)) (by rintro a w ⟨_, h⟩; exact h.mem (is := [1]) (js := []) rfl rfl) (GA.ex fun b_t16 => ?_) ?_
    · rw [reps_u8]
      refine GA.all (rs := [9]) (by kernel_rfl) (by simp) ?_
      refine GAs.cons (i := 9) rfl rfl (t_make rfl el_56 rfl rfl (by omega) (by omega)) (by rintro a w ⟨_, h⟩; exact h.mem (is := [2]) (js := []) rfl rfl) (GA.ex fun b_t19 => ?_) ?_
      · rw [reps_i64]
        refine GA.take 10 rfl (by kernel_rfl) (by kernel_rfl) (by kernel_rfl) rfl (fun a w h => h.mem (is := [2]) (js := []) rfl rfl) (i_pure (p_build ze_58 of_58 rfl rfl)) ?_
        refine GA.all (rs := [11]) (by kernel_rfl) (by simp) ?_
        refine GAs.cons (i := 11) rfl rfl (t_box rfl rfl rfl) (by rintro a w ⟨_, h⟩; exact h.mem (is := [3]) (js := []) rfl rfl) (GA.ex fun b_t21 => ?_) ?_
        · refine GA.take 12 rfl (by kernel_rfl) (by kernel_rfl) (by kernel_rfl) rfl (fun a w h => h.mem (is := [3]) (js := []) rfl rfl) (i_pure (p_assign rfl)) ?_
          refine GA.take 13 rfl (by kernel_rfl) (by kernel_rfl) (by kernel_rfl) rfl (fun a w h => h.mem (is := [3]) (js := []) rfl rfl) (i_pure (p_assign rfl)) ?_
          exact GA.done (by kernel_rfl) (fun a w h => ⟨b_t21, b_t16, b_t19, h.cut (is := [0, 1, 0]) (js := []) ⟨rfl, rfl, trivial⟩ rfl rfl⟩)
        exact GAs.nil
      exact GAs.nil
    refine GAs.cons (i := 9) rfl rfl (t_make rfl el_56 rfl rfl (by omega) (by omega)) (by rintro a w ⟨_, h⟩; exact h.mem (is := [1]) (js := []) rfl rfl) (GA.ex fun b_t19 => ?_) ?_
    · rw [reps_i64]
      refine GA.all (rs := [6]) (by kernel_rfl) (by simp) ?_
      refine GAs.cons (i := 6) rfl rfl (t_make rfl el_31 rfl rfl (by omega) (by omega)) (by rintro a w ⟨_, h⟩; exact h.mem (is := [2]) (js := []) rfl rfl) (GA.ex fun b_t16 => ?_) ?_
      · rw [reps_u8]
        refine GA.take 10 rfl (by kernel_rfl) (by kernel_rfl) (by kernel_rfl) rfl (fun a w h => h.mem (is := [2]) (js := []) rfl rfl) (i_pure (p_build ze_58 of_58 rfl rfl)) ?_
        refine GA.all (rs := [11]) (by kernel_rfl) (by simp) ?_
        refine GAs.cons (i := 11) rfl rfl (t_box rfl rfl rfl) (by rintro a w ⟨_, h⟩; exact h.mem (is := [3]) (js := []) rfl rfl) (GA.ex fun b_t21 => ?_) ?_
        · refine GA.take 12 rfl (by kernel_rfl) (by kernel_rfl) (by kernel_rfl) rfl (fun a w h => h.mem (is := [3]) (js := []) rfl rfl) (i_pure (p_assign rfl)) ?_
          refine GA.take 13 rfl (by kernel_rfl) (by kernel_rfl) (by kernel_rfl) rfl (fun a w h => h.mem (is := [3]) (js := []) rfl rfl) (i_pure (p_assign rfl)) ?_
          exact GA.done (by kernel_rfl) (fun a w h => ⟨b_t21, b_t16, b_t19, h.cut (is := [0, 0, 0]) (js := []) ⟨rfl, rfl, trivial⟩ rfl rfl⟩)
        exact GAs.nil
      exact GAs.nil
    exact GAs.nil
  · refine (?_ : GC _ _ _ _)
    refine GC.ex fun p => GC.ex fun pb => GC.ex fun pv => ?_
    refine GC.ret ?_
    refine fun a w h => Fin.back (rs := [.tmp 2, .tmp 3]) (vs := [_, _]) (is := [0, 0, 0]) (js := []) rfl ⟨rfl, rfl, trivial⟩ rfl rfl ?_ h
    clear h
    exact ⟨p, pb, pv, rfl, rfl, rfl⟩

theorem bytes_ct (p pb pv : Nat) (v : Vol) (hv : VolOk v) : Ct Try.prog 13 [.pointer (some ⟨p, 0, none⟩)] (volG p pb pv v) []
    (fun u G Q => ∃ A' cp', v.b.length ≤ cp' ∧ cp' ≤ 9223372036854775807 ∧ u = .slice A' v.b.length cp' ∧ G = .row (.slice A' v.b.length cp') 5 1 v.b.length (v.b.map u8v) :: volG p pb pv v ∧ Q = []) := by
  have hl := hv.lb
  have hm := mulS hv.shp
  have hs := hv.shp
  simp only [shapeOk] at hs
  refine Ct.intro Try.func13 rfl rfl rfl (fun c hc => ?_)
  refine GC.seq' ?_
  refine GC.region ?_
  refine GL.pure rfl (p_assign rfl) ?_
  refine GL.nil (?_ : GC _ _ _ _)
  refine GC.seq' ?_
  refine GC.seq' ?_
  refine GC.region ?_
  refine GL.pure rfl (p_move rfl) ?_
  refine GL.step rfl (t_call rfl fn_27 rfl (is := [0, 0, 0]) (js := []) rfl rfl (by exact made_ct _ _ _ v)) (GL.ret ?_)
  rintro _ _ _ ⟨rfl, rfl, rfl⟩
  refine GL.pure rfl (p_not rfl) ?_
  refine GL.nil (?_ : GC _ _ _ _)
  refine GC.cond_false rfl ?_
  refine GC.skip (?_ : GC _ _ _ _)
  refine GC.seq' ?_
  refine GC.region ?_
  refine GL.pure rfl (p_move rfl) ?_
  refine GL.pure rfl (p_nilCheck rfl) ?_
  refine GL.pure rfl (p_fieldAddr fo_58_1 rfl) ?_
  refine GL.step rfl (t_mem rfl (m_load (i := 0) rfl rfl ag_31 rfl)) ?_
  rw [show (v.bl * v.sz).toNat = (seg v.b 0 v.b.length).length by rw [seg_all]; exact hl.symm]
  refine GL.step rfl (t_lend rfl fn_28 rfl (is := []) (ls := [1]) (js := []) rfl rfl rfl (lendB) (by exact clone_ct _ (seg v.b 0 v.b.length) _ (by rw [seg_all]; omega)) (by rintro _ _ _ ⟨A10, cp10, l10, k10, rfl, rfl, rfl⟩; rfl)) (GL.retL ?_)
  rintro _ _ ⟨A10, cp10, l10, k10, rfl, rfl, _⟩
  rw [seg_all] at *
  refine GL.pure rfl (p_assign rfl) ?_
  refine GL.nil (?_ : GC _ _ _ _)
  refine GC.ret ?_
  refine fun a w h => Fin.back (rs := [.tmp 2]) (vs := [_]) (is := [0, 1, 0, 0]) (js := []) rfl ⟨rfl, trivial⟩ rfl rfl ?_ h
  clear h
  exact ⟨_, _, l10, k10, rfl, by rw [hl], rfl⟩
end Go.Proofs.Ytihhpkbbhfcdcaa
