/- THE VOLUME: a block, the bytes, the sum, the shape: of both. -/
import Derived.Test.YtihhpkbbhfcdcaaVk4
import Derived.Test.YtihhpkbbhfcdcaaVr2
import Derived.Test.YtihhpkbbhfcdcaaSx15
set_option linter.unusedVariables false
set_option linter.unusedSimpArgs false
set_option maxRecDepth 100000
namespace Go.Proofs.Ytihhpkbbhfcdcaa
open Go Go.Sx Go.Proofs
theorem vshape_ct (p pb pv : Nat) (v : Vol) : Ct Try.prog 24 [.pointer (some ⟨p, 0, none⟩)] (volG p pb pv v) [] (fun u G Q => u = shpV v.bl v.sz ∧ G = volG p pb pv v ∧ Q = []) := by
  refine Ct.intro Try.func24 rfl rfl rfl (fun c hc => ?_)
  refine GC.seq' ?_
  refine GC.region ?_
  refine GL.step rfl (t_alloc rfl ze_23) (GL.ex fun b_t2 => ?_)
  refine GL.nil (?_ : GC _ _ _ _)
  refine GC.seq' ?_
  refine GC.seq' ?_
  refine GC.region ?_
  refine GL.pure rfl (p_move rfl) ?_
  refine GL.step rfl (t_call rfl fn_27 rfl (is := [1, 1, 1]) (js := []) rfl rfl (by exact made_ct _ _ _ v)) (GL.ret ?_)
  rintro _ _ _ ⟨rfl, rfl, rfl⟩
  refine GL.pure rfl (p_not rfl) ?_
  refine GL.nil (?_ : GC _ _ _ _)
  refine GC.cond_false rfl ?_
  refine GC.skip (?_ : GC _ _ _ _)
  refine GC.seq' ?_
  refine GC.region ?_
  refine GL.pure rfl (p_move rfl) ?_
  refine GL.pure rfl (p_nilCheck rfl) ?_
  refine GL.pure rfl (p_fieldAddr fo_58_0 rfl) ?_
  refine GL.step rfl (t_mem rfl (m_loadN (i := 0) rfl rfl ag_23 (vs := [_, _]) sz_23 ⟨rfl, rfl, trivial⟩)) ?_
  refine GL.step rfl (t_storeN (i := 3) rfl rfl rfl sz_23 rfl rfl rfl) ?_
  refine GL.nil (?_ : GC _ _ _ _)
  refine GC.ret ?_
  refine fun a w h => Fin.back (rs := [.cell 2 23]) (vs := [_]) (is := [0, 0, 0]) (js := []) rfl ⟨⟨3, _, _, _, _, rfl, rfl, .inr ⟨[_, _], rfl, ag_23, sz_23, ⟨rfl, rfl, trivial⟩⟩⟩, trivial⟩ rfl rfl ?_ h
  clear h
  exact ⟨rfl, rfl, rfl⟩
theorem vblock_bad (p pb pv : Nat) (v : Vol) (i : Int) (h : i < 0 ∨ v.bl ≤ i) : Ct Try.prog 22 [.pointer (some ⟨p, 0, none⟩), .int .i64 i] (volG p pb pv v) [] (fun u G Q => u = .tuple #[.slice none 0 0, .int .i64 0, .int .i64 5] ∧ G = volG p pb pv v ∧ Q = []) := by
  refine Ct.intro Try.func22 rfl rfl rfl (fun c hc => ?_)
  refine GC.seq' ?_
  refine GC.region ?_
  refine GL.pure rfl (p_assign rfl) ?_
  refine GL.pure rfl (p_assign rfl) ?_
  refine GL.pure rfl (p_assign rfl) ?_
  refine GL.nil (?_ : GC _ _ _ _)
  refine GC.seq' ?_
  refine GC.seq' ?_
  refine GC.region ?_
  refine GL.pure rfl (p_move rfl) ?_
  refine GL.step rfl (t_call rfl fn_27 rfl (is := [0, 0, 0]) (js := []) rfl rfl (by exact made_ct _ _ _ v)) (GL.ret ?_)
  rintro _ _ _ ⟨rfl, rfl, rfl⟩
  refine GL.pure rfl (p_not rfl) ?_
  refine GL.nil (?_ : GC _ _ _ _)
  refine GC.cond_false rfl ?_
  refine GC.skip (?_ : GC _ _ _ _)
  refine GC.seq' ?_
  refine GC.seq' ?_
  refine GC.region ?_
  refine GL.pure rfl (p_move rfl) ?_
  refine GL.pure rfl (p_lss rfl rfl) ?_
  refine GL.pure rfl (p_move rfl) ?_
  refine GL.split (i := 12) rfl (fun h1 => ?_) (fun h1 => ?_)
  · try simp only [decide_eq_true_eq, decide_eq_false_iff_not, Bool.not_eq_true', Bool.not_eq_false', Bool.not_true, Bool.not_false, Bool.not_not, ne_eq, Decidable.not_not, Int.not_lt, Int.not_le, gt_iff_lt, ge_iff_le, bool_true_eq_, bool_false_eq_] at h1
    refine GL.pass (s := 12) rfl rfl rfl ?_
    refine GL.pass (s := 12) rfl rfl rfl ?_
    refine GL.pass (s := 12) rfl rfl rfl ?_
    refine GL.pass (s := 12) rfl rfl rfl ?_
    refine GL.pass (s := 12) rfl rfl rfl ?_
    refine GL.pass (s := 12) rfl rfl rfl ?_
    refine GL.pass (s := 12) rfl rfl rfl ?_
    refine GL.pure rfl (p_pick_true rfl rfl) ?_
    refine GL.nil (?_ : GC _ _ _ _)
    refine GC.cond_true rfl ?_
    refine GC.seq' ?_
    refine GC.region ?_
    refine GL.pure rfl (p_assign rfl) ?_
    refine GL.pure rfl (p_assign rfl) ?_
    refine GL.pure rfl (p_assign rfl) ?_
    refine GL.nil (?_ : GC _ _ _ _)
    refine GC.ret ?_
    refine fun a w h => Fin.back (rs := [.tmp 4, .tmp 5, .tmp 6]) (vs := [_, _, _]) (is := [0, 0, 0]) (js := []) rfl ⟨rfl, rfl, rfl, trivial⟩ rfl rfl ?_ h
    clear h
    exact ⟨rfl, rfl, rfl⟩
  · try simp only [decide_eq_true_eq, decide_eq_false_iff_not, Bool.not_eq_true', Bool.not_eq_false', Bool.not_true, Bool.not_false, Bool.not_not, ne_eq, Decidable.not_not, Int.not_lt, Int.not_le, gt_iff_lt, ge_iff_le, bool_true_eq_, bool_false_eq_] at h1
    refine GL.pureG (s := 12) rfl rfl rfl (p_move rfl) ?_
    refine GL.pureG (s := 12) rfl rfl rfl (p_move rfl) ?_
    refine GL.pureG (s := 12) rfl rfl rfl (p_nilCheck rfl) ?_
    refine GL.pureG (s := 12) rfl rfl rfl (p_fieldAddr fo_58_0 rfl) ?_
    refine GL.pureG (s := 12) rfl rfl rfl (p_fieldAddr fo_23_0 rfl) ?_
    refine GL.stepG rfl (s := 12) rfl rfl (t_mem rfl (m_load (i := 0) rfl rfl ag_3 rfl)) ?_
    refine GL.pureG (s := 12) rfl rfl rfl (p_geq rfl rfl) ?_
    refine GL.pure rfl (p_pick_false rfl rfl) ?_
    refine GL.nil (?_ : GC _ _ _ _)
    refine GC.cond rfl (fun h2 => ?_) (fun h2 => ?_)
    · try simp only [decide_eq_true_eq, decide_eq_false_iff_not, Bool.not_eq_true', Bool.not_eq_false', Bool.not_true, Bool.not_false, Bool.not_not, ne_eq, Decidable.not_not, Int.not_lt, Int.not_le, gt_iff_lt, ge_iff_le, bool_true_eq_, bool_false_eq_] at h2
      refine GC.seq' ?_
      refine GC.region ?_
      refine GL.pure rfl (p_assign rfl) ?_
      refine GL.pure rfl (p_assign rfl) ?_
      refine GL.pure rfl (p_assign rfl) ?_
      refine GL.nil (?_ : GC _ _ _ _)
      refine GC.ret ?_
      refine fun a w h => Fin.back (rs := [.tmp 4, .tmp 5, .tmp 6]) (vs := [_, _, _]) (is := [0, 0, 0]) (js := []) rfl ⟨rfl, rfl, rfl, trivial⟩ rfl rfl ?_ h
      clear h
      exact ⟨rfl, rfl, rfl⟩
    · try simp only [decide_eq_true_eq, decide_eq_false_iff_not, Bool.not_eq_true', Bool.not_eq_false', Bool.not_true, Bool.not_false, Bool.not_not, ne_eq, Decidable.not_not, Int.not_lt, Int.not_le, gt_iff_lt, ge_iff_le, bool_true_eq_, bool_false_eq_] at h2
      exfalso; omega
theorem vblock_ok (p pb pv : Nat) (v : Vol) (i : Int) (hv : VolOk v) (h0 : 0 ≤ i) (h1 : i < v.bl) : Ct Try.prog 22 [.pointer (some ⟨p, 0, none⟩), .int .i64 i] (volG p pb pv v) []
    (fun u G Q => ∃ A cp, (pc v i 1).length ≤ cp ∧ cp ≤ 9223372036854775807 ∧ u = .tuple #[.slice A (pc v i 1).length cp, .int .i64 (gt v.vs i), .int .i64 0] ∧ G = .row (.slice A (pc v i 1).length cp) 5 1 (pc v i 1).length ((pc v i 1).map u8v) :: volG p pb pv v ∧ Q = []) := by
  have hl := hv.lv
  have hs := hv.shp
  simp only [shapeOk] at hs
  refine Ct.intro Try.func22 rfl rfl rfl (fun c hc => ?_)
  refine GC.seq' ?_
  refine GC.region ?_
  refine GL.pure rfl (p_assign rfl) ?_
  refine GL.pure rfl (p_assign rfl) ?_
  refine GL.pure rfl (p_assign rfl) ?_
  refine GL.nil (?_ : GC _ _ _ _)
  refine GC.seq' ?_
  refine GC.seq' ?_
  refine GC.region ?_
  refine GL.pure rfl (p_move rfl) ?_
  refine GL.step rfl (t_call rfl fn_27 rfl (is := [0, 0, 0]) (js := []) rfl rfl (by exact made_ct _ _ _ v)) (GL.ret ?_)
  rintro _ _ _ ⟨rfl, rfl, rfl⟩
  refine GL.pure rfl (p_not rfl) ?_
  refine GL.nil (?_ : GC _ _ _ _)
  refine GC.cond_false rfl ?_
  refine GC.skip (?_ : GC _ _ _ _)
  refine GC.seq' ?_
  refine GC.seq' ?_
  refine GC.region ?_
  refine GL.pure rfl (p_move rfl) ?_
  refine GL.pure rfl (p_lss rfl rfl) ?_
  refine GL.pure rfl (p_move rfl) ?_
  refine GL.split (i := 12) rfl (fun h1 => ?_) (fun h1 => ?_)
  · try simp only [decide_eq_true_eq, decide_eq_false_iff_not, Bool.not_eq_true', Bool.not_eq_false', Bool.not_true, Bool.not_false, Bool.not_not, ne_eq, Decidable.not_not, Int.not_lt, Int.not_le, gt_iff_lt, ge_iff_le, bool_true_eq_, bool_false_eq_] at h1
    first
    | (exfalso; omega)
    | (skip
       refine GL.pass (s := 12) rfl rfl rfl ?_
       refine GL.pass (s := 12) rfl rfl rfl ?_
       refine GL.pass (s := 12) rfl rfl rfl ?_
       refine GL.pass (s := 12) rfl rfl rfl ?_
       refine GL.pass (s := 12) rfl rfl rfl ?_
       refine GL.pass (s := 12) rfl rfl rfl ?_
       refine GL.pass (s := 12) rfl rfl rfl ?_
       refine GL.pure rfl (p_pick_true rfl rfl) ?_
       refine GL.nil (?_ : GC _ _ _ _)
       refine GC.cond_true rfl ?_
       refine GC.seq' ?_
       refine GC.region ?_
       refine GL.pure rfl (p_assign rfl) ?_
       refine GL.pure rfl (p_assign rfl) ?_
       refine GL.pure rfl (p_assign rfl) ?_
       refine GL.nil (?_ : GC _ _ _ _)
       refine GC.ret ?_
       refine fun a w h => Fin.back (rs := [.tmp 4, .tmp 5, .tmp 6]) (vs := [_, _, _]) (is := [0, 0, 0]) (js := []) rfl ⟨rfl, rfl, rfl, trivial⟩ rfl rfl ?_ h
       clear h
       skip)
  · try simp only [decide_eq_true_eq, decide_eq_false_iff_not, Bool.not_eq_true', Bool.not_eq_false', Bool.not_true, Bool.not_false, Bool.not_not, ne_eq, Decidable.not_not, Int.not_lt, Int.not_le, gt_iff_lt, ge_iff_le, bool_true_eq_, bool_false_eq_] at h1
    first
    | (exfalso; omega)
    | (skip
       refine GL.pureG (s := 12) rfl rfl rfl (p_move rfl) ?_
       refine GL.pureG (s := 12) rfl rfl rfl (p_move rfl) ?_
       refine GL.pureG (s := 12) rfl rfl rfl (p_nilCheck rfl) ?_
       refine GL.pureG (s := 12) rfl rfl rfl (p_fieldAddr fo_58_0 rfl) ?_
       refine GL.pureG (s := 12) rfl rfl rfl (p_fieldAddr fo_23_0 rfl) ?_
       refine GL.stepG rfl (s := 12) rfl rfl (t_mem rfl (m_load (i := 0) rfl rfl ag_3 rfl)) ?_
       refine GL.pureG (s := 12) rfl rfl rfl (p_geq rfl rfl) ?_
       refine GL.pure rfl (p_pick_false rfl rfl) ?_
       refine GL.nil (?_ : GC _ _ _ _)
       refine GC.cond rfl (fun h2 => ?_) (fun h2 => ?_)
       · try simp only [decide_eq_true_eq, decide_eq_false_iff_not, Bool.not_eq_true', Bool.not_eq_false', Bool.not_true, Bool.not_false, Bool.not_not, ne_eq, Decidable.not_not, Int.not_lt, Int.not_le, gt_iff_lt, ge_iff_le, bool_true_eq_, bool_false_eq_] at h2
         first
         | (exfalso; omega)
         | (skip
            refine GC.seq' ?_
            refine GC.region ?_
            refine GL.pure rfl (p_assign rfl) ?_
            refine GL.pure rfl (p_assign rfl) ?_
            refine GL.pure rfl (p_assign rfl) ?_
            refine GL.nil (?_ : GC _ _ _ _)
            refine GC.ret ?_
            refine fun a w h => Fin.back (rs := [.tmp 4, .tmp 5, .tmp 6]) (vs := [_, _, _]) (is := [0, 0, 0]) (js := []) rfl ⟨rfl, rfl, rfl, trivial⟩ rfl rfl ?_ h
            clear h
            skip)
       · try simp only [decide_eq_true_eq, decide_eq_false_iff_not, Bool.not_eq_true', Bool.not_eq_false', Bool.not_true, Bool.not_false, Bool.not_not, ne_eq, Decidable.not_not, Int.not_lt, Int.not_le, gt_iff_lt, ge_iff_le, bool_true_eq_, bool_false_eq_] at h2
         first
         | (exfalso; omega)
         | (skip
            refine GC.skip (?_ : GC _ _ _ _)
            refine GC.seq' ?_
            refine GC.regionC (m := 14) (is := [0, 0, 0]) (js := []) wide_ rfl rfl rfl ?_
            refine GA.take 0 rfl (by kernel_rfl) (by kernel_rfl) (by kernel_rfl) rfl (fun a w h => h.mem (is := [0, 0, 0]) (js := []) rfl rfl) (i_pure (p_move rfl)) ?_
            refine GA.take 1 rfl (by kernel_rfl) (by kernel_rfl) (by kernel_rfl) rfl (fun a w h => h.mem (is := [0, 0, 0]) (js := []) rfl rfl) (i_pure (p_move rfl)) ?_
            refine GA.take 4 rfl (by kernel_rfl) (by kernel_rfl) (by kernel_rfl) rfl (fun a w h => h.mem (is := [0, 0, 0]) (js := []) rfl rfl) (i_pure (p_move rfl)) ?_
            refine GA.take 5 rfl (by kernel_rfl) (by kernel_rfl) (by kernel_rfl) rfl (fun a w h => h.mem (is := [0, 0, 0]) (js := []) rfl rfl) (i_pure (p_nilCheck rfl)) ?_
            refine GA.take 6 rfl (by kernel_rfl) (by kernel_rfl) (by kernel_rfl) rfl (fun a w h => h.mem (is := [0, 0, 0]) (js := []) rfl rfl) (i_pure (p_fieldAddr fo_58_2 rfl)) ?_
            refine GA.take 7 rfl (by kernel_rfl) (by kernel_rfl) (by kernel_rfl) rfl (fun a w h => h.mem (is := [0, 0, 0]) (js := []) rfl rfl) (i_mem (m_load (i := 0) rfl rfl ag_56 rfl)) ?_
            refine GA.take 8 rfl (by kernel_rfl) (by kernel_rfl) (by kernel_rfl) rfl (fun a w h => h.mem (is := [0, 0, 0]) (js := []) rfl rfl) (i_pure (p_move rfl)) ?_
            refine GA.take 9 rfl (by kernel_rfl) (by kernel_rfl) (by kernel_rfl) rfl (fun a w h => h.mem (is := [0, 0, 0]) (js := []) rfl rfl) (i_pure (p_indexB rfl rfl Try.underlying56 sz_3 (by omega) (by omega))) ?_
            refine GA.take 10 rfl (by kernel_rfl) (by kernel_rfl) (by kernel_rfl) rfl (fun a w h => h.mem (is := [0, 0, 0]) (js := []) rfl rfl) (i_mem (m_load (i := 2) rfl rfl ag_3 (nth_map _ (by omega) (by omega)))) ?_
            refine GA.all (rs := [2]) (by kernel_rfl) (by simp) ?_
            refine GAs.cons (i := 2) rfl rfl (t_call rfl fn_29 rfl (is := [0, 0, 0]) (js := []) rfl rfl (by exact at_ct _ _ _ v _ _ hv (by omega) (by omega) (by omega))) (by rintro a w ⟨_, _, _, ⟨rfl, rfl, rfl⟩, h⟩; exact h.mem (is := [0, 0, 0]) (js := []) rfl rfl) (GA.ret ?_) ?_
            · rintro _ _ _ ⟨rfl, rfl, rfl⟩
              refine GA.all (rs := [3]) (by kernel_rfl) (by simp) ?_
              refine GAs.cons (i := 3) rfl rfl (t_lend rfl fn_28 rfl (is := []) (ls := [1]) (js := []) rfl rfl rfl (lendB) (by exact clone_ct _ (pc v i 1) _ (by have := pc_length hv (a := i) (n := 1) (by omega) (by omega) (by omega); omega)) (by rintro _ _ _ ⟨A24, cp24, l24, k24, rfl, rfl, rfl⟩; rfl)) (by rintro a w ⟨_, _, ⟨A24, cp24, l24, k24, rfl, rfl, _⟩, h⟩; exact h.mem (is := [2, 1, 1]) (js := []) rfl rfl) (GA.retL ?_) ?_
              · rintro _ _ ⟨A24, cp24, l24, k24, rfl, rfl, _⟩
                refine GA.take 11 rfl (by kernel_rfl) (by kernel_rfl) (by kernel_rfl) rfl (fun a w h => h.mem (is := [2, 1, 1]) (js := []) rfl rfl) (i_pure (p_assign rfl)) ?_
                refine GA.take 12 rfl (by kernel_rfl) (by kernel_rfl) (by kernel_rfl) rfl (fun a w h => h.mem (is := [2, 1, 1]) (js := []) rfl rfl) (i_pure (p_assign rfl)) ?_
                refine GA.take 13 rfl (by kernel_rfl) (by kernel_rfl) (by kernel_rfl) rfl (fun a w h => h.mem (is := [2, 1, 1]) (js := []) rfl rfl) (i_pure (p_assign rfl)) ?_
                refine GA.done (by kernel_rfl) (?_ : GC _ _ _ _)
                refine GC.ret ?_
                refine fun a w h => Fin.back (rs := [.tmp 4, .tmp 5, .tmp 6]) (vs := [_, _, _]) (is := [0, 1, 0, 0]) (js := []) rfl ⟨rfl, rfl, rfl, trivial⟩ rfl rfl ?_ h
                clear h
                exact ⟨_, _, l24, k24, rfl, rfl, rfl⟩
              exact GAs.nil
            exact GAs.nil))
theorem pc_all {v : Vol} (hv : VolOk v) : pc v 0 v.bl = v.b := by
  have hl := hv.lb
  unfold pc
  rw [Int.zero_mul, Int.zero_add, ← hl]
  exact seg_all v.b
theorem rbytes_ct (p pB pV c1 c2 : Nat) (sp spv cs : List Value) (v : Vol) (hv : VolOk v) :
    Ct Try.prog 40 [.pointer (some ⟨p, 0, none⟩)] (rvG p pB pV c1 c2 sp spv cs v) [Pers.reps kBytes (chV v) cs]
      (fun u G Q => ∃ A' cp', v.b.length ≤ cp' ∧ cp' ≤ 9223372036854775807 ∧ u = .slice A' v.b.length cp' ∧ G = .row (.slice A' v.b.length cp') 5 1 v.b.length (v.b.map u8v) :: rvG p pB pV c1 c2 sp spv cs v ∧ Q = []) := by
  have hs := hv.shp
  have hpc := pc_all hv
  simp only [shapeOk] at hs
  refine Ct.intro Try.func40 rfl rfl rfl (fun c hc => ?_)
  refine GC.seq' ?_
  refine GC.region ?_
  refine GL.pure rfl (p_assign rfl) ?_
  refine GL.nil (?_ : GC _ _ _ _)
  refine GC.seq' ?_
  refine GC.region ?_
  refine GL.pure rfl (p_move rfl) ?_
  refine GL.pure rfl (p_move rfl) ?_
  refine GL.pure rfl (p_nilCheck rfl) ?_
  refine GL.pure rfl (p_fieldAddr fo_79_0 rfl) ?_
  refine GL.pure rfl (p_fieldAddr fo_23_0 rfl) ?_
  refine GL.step rfl (t_mem rfl (m_load (i := 0) rfl rfl ag_3 rfl)) ?_
  refine GL.step rfl (t_call rfl fn_46 rfl (is := [0, 0, 0]) (js := [0]) rfl rfl (by exact read_ct _ _ _ _ _ _ _ _ v 0 v.bl hv (by omega) (by omega) (by omega))) (GL.ret ?_)
  rintro _ _ _ ⟨A9, cp9, l9, k9, rfl, rfl, rfl⟩
  refine GL.pure rfl (p_assign rfl) ?_
  refine GL.nil (?_ : GC _ _ _ _)
  refine GC.ret ?_
  refine fun a w h => Fin.back (rs := [.tmp 2]) (vs := [_]) (is := [0, 0, 0, 0]) (js := []) rfl ⟨rfl, trivial⟩ rfl rfl ?_ h
  clear h
  exact ⟨_, _, by rw [← hpc]; exact l9, k9, by rw [← hpc]; rfl, by rw [hpc], rfl⟩
theorem rsum_ct (p pB pV c1 c2 : Nat) (sp spv cs : List Value) (v : Vol) (hv : VolOk v) :
    Ct Try.prog 41 [.pointer (some ⟨p, 0, none⟩)] (rvG p pB pV c1 c2 sp spv cs v) [Pers.reps kBytes (chV v) cs] (fun u G Q => u = w32 (moreB 0#32 v.b) ∧ G = rvG p pB pV c1 c2 sp spv cs v ∧ Q = []) := by
  have hl := hv.lb
  have hm := mulS hv.shp
  refine Ct.intro Try.func41 rfl rfl rfl (fun c hc => ?_)
  refine GC.seq' ?_
  refine GC.region ?_
  refine GL.pure rfl (p_assign rfl) ?_
  refine GL.nil (?_ : GC _ _ _ _)
  refine GC.seq' ?_
  refine GC.region ?_
  refine GL.pure rfl (p_move rfl) ?_
  refine GL.step rfl (t_call rfl fn_40 rfl (is := [0, 0, 0]) (js := [0]) rfl rfl (by exact rbytes_ct _ _ _ _ _ _ _ _ v hv)) (GL.ret ?_)
  rintro _ _ _ ⟨A4, cp4, l4, k4, rfl, rfl, rfl⟩
  refine GL.freezeB (i := 0) rfl ?_
  refine GL.step rfl (t_call rfl fn_52 rfl (is := []) (js := [0]) rfl rfl (by exact of_ct _ _ _ (by first | assumption | omega))) (GL.ret ?_)
  rintro _ _ _ ⟨rfl, rfl, rfl⟩
  refine GL.pure rfl (p_assign rfl) ?_
  refine GL.nil (?_ : GC _ _ _ _)
  refine GC.ret ?_
  refine fun a w h => Fin.back (rs := [.tmp 2]) (vs := [_]) (is := [0, 0, 0]) (js := []) rfl ⟨rfl, trivial⟩ rfl rfl ?_ h
  clear h
  exact ⟨rfl, rfl, rfl⟩
theorem lendOne {bL pb cp e e' : Nat} {b : List UInt8} {Q : List Pers} (h : b.length ≤ cp) (h' : cp ≤ 9223372036854775807) : ∀ (w : World) (S : Blocks), (∀ o ∈ [Own.cells bL [.slice (some ⟨pb, 0, none⟩) b.length cp] e', Own.cells pb (b.map u8v) e], o.holds w) → (∀ k ∈ keysOf [Own.cells bL [.slice (some ⟨pb, 0, none⟩) b.length cp] e', Own.cells pb (b.map u8v) e], S k) → (∀ q ∈ Q, q.h w S) → ∀ q ∈ [Pers.row kBytes (some ⟨bL, 0, none⟩) [b]], q.h w S := fun w S ho hS hQ q hq => by
  rw [List.mem_singleton.1 hq]
  have hL := ho _ (List.mem_cons_self ..)
  have h1 : S bL := hS _ (by simp [keysOf, Own.keys])
  have h2 : S pb := hS _ (by simp [keysOf, Own.keys])
  have hb := lendB (enc := u8v) (h1 := fun _ => rfl) (l := 0) (h := b.length) (Q := []) (b := pb) (e := e) (xs := b) w S (fun o hm => ho o (List.mem_cons_of_mem _ hm)) (fun k hk => by simp only [keysOf, Own.keys, List.flatMap_cons, List.flatMap_nil, List.append_nil, List.mem_singleton] at hk; subst hk; exact h2) (fun _ h => by cases h) _ (List.mem_singleton.2 rfl)
  rw [seg_all] at hb
  refine .inr ⟨⟨bL, 0, none⟩, rfl, h1, (Array.getElem?_eq_some_iff.1 hL).1, fun i x hx => ?_⟩
  cases i with
  | succ i => simp at hx
  | zero =>
    simp only [List.getElem?_cons_zero, Option.some.injEq] at hx
    subst hx
    refine ⟨[.slice (some ⟨pb, 0, none⟩) b.length cp], ⟨(some ⟨pb, 0, none⟩, cp), ⟨h, h'⟩, rfl, fun q hq => ?_⟩, ?_⟩
    · rw [List.mem_singleton.1 hq]; exact hb
    · rw [Nat.zero_mul, add_zero]
      exact cellsAt_blk hL (fun j u hj => by simpa using hj)
theorem vsum_ct (p pb pv : Nat) (v : Vol) (hv : VolOk v) : Ct Try.prog 23 [.pointer (some ⟨p, 0, none⟩)] (volG p pb pv v) [] (fun u G Q => u = w32 (moreB 0#32 v.b) ∧ G = volG p pb pv v ∧ Q = []) := by
  have hl := hv.lb
  have hm := mulS hv.shp
  refine Ct.intro Try.func23 rfl rfl rfl (fun c hc => ?_)
  refine GC.seq' ?_
  refine GC.region ?_
  refine GL.pure rfl (p_assign rfl) ?_
  refine GL.nil (?_ : GC _ _ _ _)
  refine GC.seq' ?_
  refine GC.seq' ?_
  refine GC.region ?_
  refine GL.pure rfl (p_move rfl) ?_
  refine GL.step rfl (t_call rfl fn_27 rfl (is := [0, 0, 0]) (js := []) rfl rfl (by exact made_ct _ _ _ v)) (GL.ret ?_)
  rintro _ _ _ ⟨rfl, rfl, rfl⟩
  refine GL.pure rfl (p_not rfl) ?_
  refine GL.nil (?_ : GC _ _ _ _)
  refine GC.cond_false rfl ?_
  refine GC.skip (?_ : GC _ _ _ _)
  refine GC.seq' ?_
  refine GC.region ?_
  refine GL.pure rfl (p_move rfl) ?_
  refine GL.pure rfl (p_nilCheck rfl) ?_
  refine GL.pure rfl (p_fieldAddr fo_58_1 rfl) ?_
  refine GL.step rfl (t_mem rfl (m_load (i := 0) rfl rfl ag_31 rfl)) ?_
  refine GL.step rfl (t_buildSlice rfl Try.underlying77 sz_31 ze_31 rfl rfl rfl rfl rfl rfl) (GL.ex fun b_t10 => ?_)
  rw [← hl]
  refine GL.step rfl (t_lend rfl fn_39 rfl (is := []) (ls := [0, 1]) (js := []) rfl rfl rfl (lendOne (Nat.le_refl _) (by omega)) (by exact csum_ct _ v.b _ (by omega)) (by rintro _ _ _ ⟨rfl, rfl, rfl⟩; rfl)) (GL.retL ?_)
  rintro _ _ ⟨rfl, rfl, _⟩
  refine GL.pure rfl (p_assign rfl) ?_
  refine GL.nil (?_ : GC _ _ _ _)
  refine GC.ret ?_
  refine fun a w h => Fin.back (rs := [.tmp 2]) (vs := [_]) (is := [2, 1, 1]) (js := []) rfl ⟨rfl, trivial⟩ rfl rfl ?_ h
  clear h
  exact ⟨rfl, rfl, rfl⟩
end Go.Proofs.Ytihhpkbbhfcdcaa
