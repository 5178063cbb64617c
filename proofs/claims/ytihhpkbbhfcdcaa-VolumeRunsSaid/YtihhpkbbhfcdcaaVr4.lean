/- THE VOLUME OF THE REFERENCE: a request. -/
import Derived.Test.YtihhpkbbhfcdcaaVr3
set_option linter.unusedVariables false
set_option linter.unusedSimpArgs false
set_option maxRecDepth 100000
namespace Go.Proofs.Ytihhpkbbhfcdcaa
open Go Go.Sx Go.Proofs
theorem rdo_ct (p pB pV c1 c2 : Nat) (sp spv cs : List Value) (v : Vol) (o : OpD) (A : Option Addr) (cp : Nat) (B : Option Addr) (cq : Nat) (num : Int) (hv : VolOk v) (hcp : o.data.length ≤ cp) (hdl : o.data.length ≤ 140737488355328) (hol : o.old.length ≤ 140737488355328) :
    Ct Try.prog 33 [.pointer (some ⟨p, 0, none⟩), opV o.kind o.at_ o.n A o.data.length cp B o.old.length cq, .int .i64 num] (rvG p pB pV c1 c2 sp spv cs v) [Pers.reps kBytes (chV v) cs, Pers.row Kd.u8 A o.data, Pers.row Kd.u8 B o.old]
      (fun u G Q => ∃ A' cp' cs', (doF v o num).1.1.data.length ≤ cp' ∧ cp' ≤ 9223372036854775807 ∧ u = resV (doF v o num).1.1 A' cp' (doF v o num).1.2 ∧ G = rvG p pB pV c1 c2 sp spv cs' (doF v o num).2 ∧ Q = [Pers.row Kd.u8 A' (doF v o num).1.1.data, Pers.reps kBytes (chV (doF v o num).2) cs']) := by
  have hch : (chV v).length = v.bl.toNat := chunks_length _ _ _
  refine Ct.intro Try.func33 rfl rfl rfl (fun c hc => ?_)
  refine GC.seq' ?_
  refine GC.region ?_
  refine GL.step rfl (t_box rfl rfl rfl) (GL.ex fun b_t4 => ?_)
  refine GL.step rfl (t_alloc rfl ze_49) (GL.ex fun b_t6 => ?_)
  refine GL.pure rfl (p_assign rfl) ?_
  refine GL.nil (?_ : GC _ _ _ _)
  refine GC.seq' ?_
  refine GC.seq' ?_
  refine GC.region ?_
  refine GL.pure rfl (p_move rfl) ?_
  refine GL.pure rfl (p_lss rfl rfl) ?_
  refine GL.pure rfl (p_move rfl) ?_
  refine GL.split (i := 13) rfl (fun h1 => ?_) (fun h1 => ?_)
  · try simp only [decide_eq_true_eq, decide_eq_false_iff_not, Bool.not_eq_true', Bool.not_eq_false', Bool.not_true, Bool.not_false, Bool.not_not, ne_eq, Decidable.not_not, Int.not_lt, Int.not_le, gt_iff_lt, ge_iff_le, bool_true_eq_, bool_false_eq_, str_eq] at h1
    first
    | (exfalso; omega)
    | (skip
       refine GL.pass (s := 13) rfl rfl rfl ?_
       refine GL.pass (s := 13) rfl rfl rfl ?_
       refine GL.pure rfl (p_pick_true rfl rfl) ?_
       refine GL.pure rfl (p_move rfl) ?_
       refine GL.pass (s := 17) rfl rfl rfl ?_
       refine GL.pass (s := 17) rfl rfl rfl ?_
       refine GL.pass (s := 17) rfl rfl rfl ?_
       refine GL.pass (s := 17) rfl rfl rfl ?_
       refine GL.pass (s := 17) rfl rfl rfl ?_
       refine GL.pass (s := 17) rfl rfl rfl ?_
       refine GL.pure rfl (p_pick_true rfl rfl) ?_
       refine GL.nil (?_ : GC _ _ _ _)
       refine GC.cond_true rfl ?_
       refine GC.seq' ?_
       refine GC.region ?_
       refine GL.pure rfl (p_build ze_49 of_49 rfl rfl) ?_
       refine GL.step rfl (t_storeN (i := 0) rfl rfl rfl sz_49 rfl rfl rfl) ?_
       refine GL.pure rfl (p_assign rfl) ?_
       refine GL.nil (?_ : GC _ _ _ _)
       refine GC.know (q := Pers.row Kd.u8 none []) (fun _ _ _ => .inl rfl) ?_
       refine GC.ret ?_
       refine fun a w h => Fin.back (rs := [.cell 6 49, .tmp 7]) (vs := [_, _]) (is := [2, 2, 2]) (js := [0, 1]) rfl ⟨⟨0, _, _, _, _, rfl, rfl, .inr ⟨[_, _], rfl, ag_49, sz_49, ⟨rfl, rfl, trivial⟩⟩⟩, rfl, trivial⟩ rfl rfl ?_ h
       clear h
       rw [doF_range (by omega)]
       exact ⟨none, 0, _, by simp [rz], by simp, rfl, rfl, rfl⟩)
  · try simp only [decide_eq_true_eq, decide_eq_false_iff_not, Bool.not_eq_true', Bool.not_eq_false', Bool.not_true, Bool.not_false, Bool.not_not, ne_eq, Decidable.not_not, Int.not_lt, Int.not_le, gt_iff_lt, ge_iff_le, bool_true_eq_, bool_false_eq_, str_eq] at h1
    first
    | (exfalso; omega)
    | (skip
       refine GL.pureG (s := 13) rfl rfl rfl (p_move rfl) ?_
       refine GL.pureG (s := 13) rfl rfl rfl (p_gtr rfl rfl) ?_
       refine GL.pure rfl (p_pick_false rfl rfl) ?_
       refine GL.pure rfl (p_move rfl) ?_
       refine GL.split (i := 17) rfl (fun h2 => ?_) (fun h2 => ?_)
       · try simp only [decide_eq_true_eq, decide_eq_false_iff_not, Bool.not_eq_true', Bool.not_eq_false', Bool.not_true, Bool.not_false, Bool.not_not, ne_eq, Decidable.not_not, Int.not_lt, Int.not_le, gt_iff_lt, ge_iff_le, bool_true_eq_, bool_false_eq_, str_eq] at h2
         first
         | (exfalso; omega)
         | (skip
            refine GL.pass (s := 17) rfl rfl rfl ?_
            refine GL.pass (s := 17) rfl rfl rfl ?_
            refine GL.pass (s := 17) rfl rfl rfl ?_
            refine GL.pass (s := 17) rfl rfl rfl ?_
            refine GL.pass (s := 17) rfl rfl rfl ?_
            refine GL.pass (s := 17) rfl rfl rfl ?_
            refine GL.pure rfl (p_pick_true rfl rfl) ?_
            refine GL.nil (?_ : GC _ _ _ _)
            refine GC.cond_true rfl ?_
            refine GC.seq' ?_
            refine GC.region ?_
            refine GL.pure rfl (p_build ze_49 of_49 rfl rfl) ?_
            refine GL.step rfl (t_storeN (i := 0) rfl rfl rfl sz_49 rfl rfl rfl) ?_
            refine GL.pure rfl (p_assign rfl) ?_
            refine GL.nil (?_ : GC _ _ _ _)
            refine GC.know (q := Pers.row Kd.u8 none []) (fun _ _ _ => .inl rfl) ?_
            refine GC.ret ?_
            refine fun a w h => Fin.back (rs := [.cell 6 49, .tmp 7]) (vs := [_, _]) (is := [2, 2, 2]) (js := [0, 1]) rfl ⟨⟨0, _, _, _, _, rfl, rfl, .inr ⟨[_, _], rfl, ag_49, sz_49, ⟨rfl, rfl, trivial⟩⟩⟩, rfl, trivial⟩ rfl rfl ?_ h
            clear h
            rw [doF_range (by omega)]
            exact ⟨none, 0, _, by simp [rz], by simp, rfl, rfl, rfl⟩)
       · try simp only [decide_eq_true_eq, decide_eq_false_iff_not, Bool.not_eq_true', Bool.not_eq_false', Bool.not_true, Bool.not_false, Bool.not_not, ne_eq, Decidable.not_not, Int.not_lt, Int.not_le, gt_iff_lt, ge_iff_le, bool_true_eq_, bool_false_eq_, str_eq] at h2
         first
         | (exfalso; omega)
         | (skip
            refine GL.pureG (s := 17) rfl rfl rfl (p_move rfl) ?_
            refine GL.pureG (s := 17) rfl rfl rfl (p_move rfl) ?_
            refine GL.pureG (s := 17) rfl rfl rfl (p_nilCheck rfl) ?_
            refine GL.pureG (s := 17) rfl rfl rfl (p_fieldAddr fo_79_3 rfl) ?_
            refine GL.stepG rfl (s := 17) rfl rfl (t_mem rfl (m_load (i := 2) rfl rfl ag_3 rfl)) ?_
            refine GL.pureG (s := 17) rfl rfl rfl (p_lss rfl rfl) ?_
            refine GL.pure rfl (p_pick_false rfl rfl) ?_
            refine GL.nil (?_ : GC _ _ _ _)
            refine GC.cond rfl (fun h3 => ?_) (fun h3 => ?_)
            · try simp only [decide_eq_true_eq, decide_eq_false_iff_not, Bool.not_eq_true', Bool.not_eq_false', Bool.not_true, Bool.not_false, Bool.not_not, ne_eq, Decidable.not_not, Int.not_lt, Int.not_le, gt_iff_lt, ge_iff_le, bool_true_eq_, bool_false_eq_, str_eq] at h3
              first
              | (exfalso; omega)
              | (skip
                 refine GC.seq' ?_
                 refine GC.region ?_
                 refine GL.pure rfl (p_build ze_49 of_49 rfl rfl) ?_
                 refine GL.step rfl (t_storeN (i := 0) rfl rfl rfl sz_49 rfl rfl rfl) ?_
                 refine GL.pure rfl (p_assign rfl) ?_
                 refine GL.nil (?_ : GC _ _ _ _)
                 refine GC.know (q := Pers.row Kd.u8 none []) (fun _ _ _ => .inl rfl) ?_
                 refine GC.ret ?_
                 refine fun a w h => Fin.back (rs := [.cell 6 49, .tmp 7]) (vs := [_, _]) (is := [2, 2, 2]) (js := [0, 1]) rfl ⟨⟨0, _, _, _, _, rfl, rfl, .inr ⟨[_, _], rfl, ag_49, sz_49, ⟨rfl, rfl, trivial⟩⟩⟩, rfl, trivial⟩ rfl rfl ?_ h
                 clear h
                 rw [doF_range (by omega)]
                 exact ⟨none, 0, _, by simp [rz], by simp, rfl, rfl, rfl⟩)
            · try simp only [decide_eq_true_eq, decide_eq_false_iff_not, Bool.not_eq_true', Bool.not_eq_false', Bool.not_true, Bool.not_false, Bool.not_not, ne_eq, Decidable.not_not, Int.not_lt, Int.not_le, gt_iff_lt, ge_iff_le, bool_true_eq_, bool_false_eq_, str_eq] at h3
              first
              | (exfalso; omega)
              | (skip
                 refine GC.skip (?_ : GC _ _ _ _)
                 refine GC.seq' ?_
                 refine GC.regionQ wide_ (by kernel_rfl) ?_
                 refine GQ.step rfl (q_pure (p_move rfl)) ?_
                 refine GQ.step rfl (q_pure (p_nilCheck rfl)) ?_
                 refine GQ.step rfl (q_pure (p_fieldAddr fo_79_0 rfl)) ?_
                 refine GQ.step rfl (q_mem (m_loadN (i := 2) rfl rfl ag_23 (vs := [_, _]) sz_23 ⟨rfl, rfl, trivial⟩)) ?_
                 refine GQ.step rfl (q_mem (m_loadN (i := 1) rfl rfl ag_42 (vs := [_, _, _, _, _]) sz_42 ⟨rfl, rfl, rfl, rfl, rfl, trivial⟩)) ?_
                 refine GQ.step rfl (q_call fn_45 rfl (js := []) rfl (by exact fitR_ct _ _ _ _ _ _ _ _ _ _ _ (by first | assumption | omega) (by first | assumption | omega))) ?_
                 refine GQ.step rfl (q_pure (p_move rfl)) ?_
                 refine GQ.step rfl (q_pure (p_extract rfl rfl)) ?_
                 refine GQ.step rfl (q_pure (p_extract rfl rfl)) ?_
                 refine GQ.step rfl (q_pure (p_assign rfl)) ?_
                 refine GQ.step rfl (q_pure (p_assign rfl)) ?_
                 refine GQ.nil (?_ : GC _ _ _ _)
                 refine GC.seq' ?_
                 refine GC.seq' ?_
                 refine GC.region ?_
                 refine GL.pure rfl (p_move rfl) ?_
                 refine GL.pure rfl (p_neq rfl rfl) ?_
                 refine GL.nil (?_ : GC _ _ _ _)
                 refine GC.cond rfl (fun h4 => ?_) (fun h4 => ?_)
                 · try simp only [decide_eq_true_eq, decide_eq_false_iff_not, Bool.not_eq_true', Bool.not_eq_false', Bool.not_true, Bool.not_false, Bool.not_not, ne_eq, Decidable.not_not, Int.not_lt, Int.not_le, gt_iff_lt, ge_iff_le, bool_true_eq_, bool_false_eq_, str_eq] at h4
                   first
                   | (exfalso; omega)
                   | (skip
                      refine GC.seq' ?_
                      refine GC.region ?_
                      refine GL.pure rfl (p_build ze_49 of_49 rfl rfl) ?_
                      refine GL.pure rfl (p_move rfl) ?_
                      refine GL.step rfl (t_storeN (i := 0) rfl rfl rfl sz_49 rfl rfl rfl) ?_
                      refine GL.pure rfl (p_assign rfl) ?_
                      refine GL.nil (?_ : GC _ _ _ _)
                      refine GC.know (q := Pers.row Kd.u8 none []) (fun _ _ _ => .inl rfl) ?_
                      refine GC.ret ?_
                      refine fun a w h => Fin.back (rs := [.cell 6 49, .tmp 7]) (vs := [_, _]) (is := [2, 2, 2]) (js := [0, 1]) rfl ⟨⟨0, _, _, _, _, rfl, rfl, .inr ⟨[_, _], rfl, ag_49, sz_49, ⟨rfl, rfl, trivial⟩⟩⟩, rfl, trivial⟩ rfl rfl ?_ h
                      clear h
                      rw [doF_fit (by omega) h4]
                      exact ⟨none, 0, _, by simp [rz], by simp, rfl, rfl, rfl⟩)
                 · try simp only [decide_eq_true_eq, decide_eq_false_iff_not, Bool.not_eq_true', Bool.not_eq_false', Bool.not_true, Bool.not_false, Bool.not_not, ne_eq, Decidable.not_not, Int.not_lt, Int.not_le, gt_iff_lt, ge_iff_le, bool_true_eq_, bool_false_eq_, str_eq] at h4
                   first
                   | (exfalso; omega)
                   | (skip
                      refine GC.skip (?_ : GC _ _ _ _)
                      refine GC.seq' ?_
                      refine GC.region ?_
                      refine GL.pure rfl (p_move rfl) ?_
                      refine GL.pure rfl (p_move rfl) ?_
                      refine GL.pure rfl (p_nilCheck rfl) ?_
                      refine GL.pure rfl (p_fieldAddr fo_79_3 rfl) ?_
                      refine GL.step rfl (t_store (i := 2) rfl rfl rfl rfl sz_3 rfl rfl rfl) ?_
                      refine GL.nil (?_ : GC _ _ _ _)
                      refine GC.seq' ?_
                      refine GC.region ?_
                      refine GL.pure rfl (p_move rfl) ?_
                      refine GL.pure rfl (p_build ze_49 of_49 rfl rfl) ?_
                      refine GL.step rfl (t_alloc rfl ze_49) (GL.ex fun b_t10 => ?_)
                      refine GL.step rfl (t_storeN (i := 0) rfl rfl rfl sz_49 rfl rfl rfl) ?_
                      refine GL.nil (?_ : GC _ _ _ _)
                      refine GC.seq' ?_
                      refine GC.seq' ?_
                      refine GC.region ?_
                      refine GL.pure rfl (p_move rfl) ?_
                      refine GL.pure rfl (p_neq rfl rfl) ?_
                      refine GL.nil (?_ : GC _ _ _ _)
                      refine GC.cond rfl (fun h5 => ?_) (fun h5 => ?_)
                      · try simp only [decide_eq_true_eq, decide_eq_false_iff_not, Bool.not_eq_true', Bool.not_eq_false', Bool.not_true, Bool.not_false, Bool.not_not, ne_eq, Decidable.not_not, Int.not_lt, Int.not_le, gt_iff_lt, ge_iff_le, bool_true_eq_, bool_false_eq_, str_eq] at h5
                        first
                        | (exfalso; omega)
                        | (skip
                           refine GC.seq' ?_
                           refine GC.region ?_
                           refine GL.step rfl (t_mem rfl (m_loadN (i := 0) rfl rfl ag_49 (vs := [_, _]) sz_49 ⟨rfl, rfl, trivial⟩)) ?_
                           refine GL.step rfl (t_storeN (i := 1) rfl rfl rfl sz_49 rfl rfl rfl) ?_
                           refine GL.pure rfl (p_assign rfl) ?_
                           refine GL.nil (?_ : GC _ _ _ _)
                           refine GC.know (q := Pers.row Kd.u8 none []) (fun _ _ _ => .inl rfl) ?_
                           refine GC.ret ?_
                           refine fun a w h => Fin.back (rs := [.cell 6 49, .tmp 7]) (vs := [_, _]) (is := [3, 3, 3]) (js := [0, 1]) rfl ⟨⟨1, _, _, _, _, rfl, rfl, .inr ⟨[_, _], rfl, ag_49, sz_49, ⟨rfl, rfl, trivial⟩⟩⟩, rfl, trivial⟩ rfl rfl ?_ h
                           clear h
                           rw [doF_code (by omega) h4 h5]
                           exact ⟨none, 0, _, by simp [rz], by simp, rfl, rfl, rfl⟩)
                      · try simp only [decide_eq_true_eq, decide_eq_false_iff_not, Bool.not_eq_true', Bool.not_eq_false', Bool.not_true, Bool.not_false, Bool.not_not, ne_eq, Decidable.not_not, Int.not_lt, Int.not_le, gt_iff_lt, ge_iff_le, bool_true_eq_, bool_false_eq_, str_eq] at h5
                        first
                        | (exfalso; omega)
                        | (skip
                           refine GC.skip (?_ : GC _ _ _ _)
                           refine GC.seq' ?_
                           refine GC.seq' ?_
                           refine GC.region ?_
                           rw [h5]
                           obtain ⟨hs, hf, hk⟩ := fit_one (by assumption) (by assumption)
                           simp only [formP, bareP] at hf
                           simp only [shapeOk] at hs
                           have hv1 : VolOk { v with last := num } := hv.last' (by omega) (by omega)
                           have hpc := fun g => pc_length hv (a := o.at_) (n := o.n) (by omega) g
                           refine GL.pure rfl (p_fieldAddr fo_42_0 rfl) ?_
                           refine GL.step rfl (t_mem rfl (m_load (i := 2) rfl rfl ag_40 rfl)) ?_
                           refine GL.nil (?_ : GC _ _ _ _)
                           refine GC.block ?_
                           refine GC.seq' ?_
                           refine GC.region ?_
                           refine GL.pure rfl (p_eql rfl rfl) ?_
                           refine GL.pure rfl (p_assign rfl) ?_
                           refine GL.nil (?_ : GC _ _ _ _)
                           refine GC.cond rfl (fun h6 => ?_) (fun h6 => ?_)
                           · try simp only [decide_eq_true_eq, decide_eq_false_iff_not, Bool.not_eq_true', Bool.not_eq_false', Bool.not_true, Bool.not_false, Bool.not_not, ne_eq, Decidable.not_not, Int.not_lt, Int.not_le, gt_iff_lt, ge_iff_le, bool_true_eq_, bool_false_eq_, str_eq] at h6
                             first
                             | (exfalso; omega)
                             | (skip
                                refine GC.region ?_
                                refine GL.pure rfl (p_move rfl) ?_
                                refine GL.pure rfl (p_fieldAddr fo_42_1 rfl) ?_
                                refine GL.step rfl (t_mem rfl (m_load (i := 2) rfl rfl ag_3 rfl)) ?_
                                refine GL.pure rfl (p_fieldAddr fo_42_2 rfl) ?_
                                refine GL.step rfl (t_mem rfl (m_load (i := 2) rfl rfl ag_3 rfl)) ?_
                                refine GL.step rfl (t_call rfl fn_46 rfl (is := [3, 3, 3]) (js := [0]) rfl rfl (by exact read_ct _ _ _ _ _ _ _ _ { v with last := num } _ _ hv1 (by omega) (by omega) (by show _ ≤ v.bl; omega))) (GL.ret ?_)
                                rintro _ _ _ ⟨A58, cp58, l58, k58, rfl, rfl, rfl⟩
                                refine GL.pure rfl (p_fieldAddr fo_49_1 rfl) ?_
                                refine GL.freezeB (i := 0) rfl ?_
                                refine GL.step rfl (t_store (i := 3) rfl rfl rfl rfl sz_31 rfl rfl rfl) ?_
                                refine GL.nil (?_ : GC _ _ _ _)
                                refine GC.seq' ?_
                                refine GC.region ?_
                                refine GL.step rfl (t_mem rfl (m_loadN (i := 3) rfl rfl ag_49 (vs := [_, _]) sz_49 ⟨rfl, rfl, trivial⟩)) ?_
                                refine GL.step rfl (t_storeN (i := 4) rfl rfl rfl sz_49 rfl rfl rfl) ?_
                                refine GL.pure rfl (p_assign rfl) ?_
                                refine GL.nil (?_ : GC _ _ _ _)
                                refine GC.ret ?_
                                refine fun a w h => Fin.back (rs := [.cell 6 49, .tmp 7]) (vs := [_, _]) (is := [0, 0, 0]) (js := [0, 1]) rfl ⟨⟨4, _, _, _, _, rfl, rfl, .inr ⟨[_, _], rfl, ag_49, sz_49, ⟨rfl, rfl, trivial⟩⟩⟩, rfl, trivial⟩ rfl rfl ?_ h
                                clear h
                                rw [doF_do (by omega) h4 h5, if_neg (by omega), if_pos h6]
                                exact ⟨_, _, _, l58, k58, rfl, rfl, rfl⟩)
                           · try simp only [decide_eq_true_eq, decide_eq_false_iff_not, Bool.not_eq_true', Bool.not_eq_false', Bool.not_true, Bool.not_false, Bool.not_not, ne_eq, Decidable.not_not, Int.not_lt, Int.not_le, gt_iff_lt, ge_iff_le, bool_true_eq_, bool_false_eq_, str_eq] at h6
                             first
                             | (exfalso; omega)
                             | (skip
                                refine GC.seq' ?_
                                refine GC.region ?_
                                refine GL.pure rfl (p_eql rfl rfl) ?_
                                refine GL.pure rfl (p_assign rfl) ?_
                                refine GL.nil (?_ : GC _ _ _ _)
                                refine GC.cond rfl (fun h7 => ?_) (fun h7 => ?_)
                                · try simp only [decide_eq_true_eq, decide_eq_false_iff_not, Bool.not_eq_true', Bool.not_eq_false', Bool.not_true, Bool.not_false, Bool.not_not, ne_eq, Decidable.not_not, Int.not_lt, Int.not_le, gt_iff_lt, ge_iff_le, bool_true_eq_, bool_false_eq_, str_eq] at h7
                                  first
                                  | (exfalso; omega)
                                  | (skip
                                     refine GC.region ?_
                                     refine GL.pure rfl (p_move rfl) ?_
                                     refine GL.pure rfl (p_fieldAddr fo_42_1 rfl) ?_
                                     refine GL.step rfl (t_mem rfl (m_load (i := 2) rfl rfl ag_3 rfl)) ?_
                                     refine GL.pure rfl (p_fieldAddr fo_42_3 rfl) ?_
                                     refine GL.step rfl (t_mem rfl (m_load (i := 2) rfl rfl ag_31 rfl)) ?_
                                     refine GL.pure rfl (p_move rfl) ?_
                                     refine GL.step rfl (t_call rfl fn_44 rfl (is := [3, 3, 3]) (js := [0, 1]) rfl rfl (by exact write_ct _ _ _ _ _ _ _ _ { v with last := num } _ _ _ _ _ o.n.toNat hv1 (by omega) (by show _ ≤ v.bl; omega) (by show _ = _ * v.sz.toNat; rw [← nat_mul (by omega) (by omega)]; omega) hcp (by omega))) (GL.ret ?_)
                                     rintro _ _ _ ⟨cs68, rfl, rfl, rfl⟩
                                     refine GL.nil (?_ : GC _ _ _ _)
                                     refine GC.seq' ?_
                                     refine GC.region ?_
                                     refine GL.step rfl (t_mem rfl (m_loadN (i := 3) rfl rfl ag_49 (vs := [_, _]) sz_49 ⟨rfl, rfl, trivial⟩)) ?_
                                     refine GL.step rfl (t_storeN (i := 4) rfl rfl rfl sz_49 rfl rfl rfl) ?_
                                     refine GL.pure rfl (p_assign rfl) ?_
                                     refine GL.nil (?_ : GC _ _ _ _)
                                     refine GC.know (q := Pers.row Kd.u8 none []) (fun _ _ _ => .inl rfl) ?_
                                     refine GC.ret ?_
                                     refine fun a w h => Fin.back (rs := [.cell 6 49, .tmp 7]) (vs := [_, _]) (is := [0, 0, 0]) (js := [0, 1]) rfl ⟨⟨4, _, _, _, _, rfl, rfl, .inr ⟨[_, _], rfl, ag_49, sz_49, ⟨rfl, rfl, trivial⟩⟩⟩, rfl, trivial⟩ rfl rfl ?_ h
                                     clear h
                                     rw [doF_do (by omega) h4 h5, if_neg (by omega), if_neg (by omega), if_neg (by omega), if_neg (by omega)]
                                     exact ⟨none, 0, _, by simp [rz], by simp, rfl, rfl, rfl⟩)
                                · try simp only [decide_eq_true_eq, decide_eq_false_iff_not, Bool.not_eq_true', Bool.not_eq_false', Bool.not_true, Bool.not_false, Bool.not_not, ne_eq, Decidable.not_not, Int.not_lt, Int.not_le, gt_iff_lt, ge_iff_le, bool_true_eq_, bool_false_eq_, str_eq] at h7
                                  first
                                  | (exfalso; omega)
                                  | (skip
                                     refine GC.seq' ?_
                                     refine GC.region ?_
                                     refine GL.pure rfl (p_eql rfl rfl) ?_
                                     refine GL.pure rfl (p_assign rfl) ?_
                                     refine GL.nil (?_ : GC _ _ _ _)
                                     refine GC.cond rfl (fun h8 => ?_) (fun h8 => ?_)
                                     · try simp only [decide_eq_true_eq, decide_eq_false_iff_not, Bool.not_eq_true', Bool.not_eq_false', Bool.not_true, Bool.not_false, Bool.not_not, ne_eq, Decidable.not_not, Int.not_lt, Int.not_le, gt_iff_lt, ge_iff_le, bool_true_eq_, bool_false_eq_, str_eq] at h8
                                       first
                                       | (exfalso; omega)
                                       | (skip
                                          have hm := mulB (x := o.n) (a := 64) (y := v.sz) (b := 4096) (by omega) (by omega) (by omega) (by omega)
                                          have hq := hpc (by omega) (by omega)
                                          refine GC.regionM (m := 14) (M := fun a w => ∃ cs84 : List Value, St c 113 [(2, .int .i64 num), (6, .pointer (some ⟨b_t6, 0, none⟩)), (10, .pointer (some ⟨b_t10, 0, none⟩))] [.cells p [.int .i64 v.bl, .int .i64 v.sz, .slice (some ⟨pB, 0, none⟩) v.bl.toNat c1, .slice (some ⟨pV, 0, none⟩) v.bl.toNat c2, .int .i64 num] 79, .cells pB (cs84 ++ sp) 31, .cells pV ((laid v.vs o.at_.toNat (List.replicate o.n.toNat num)).map (Value.int .i64) ++ spv) 3, .cells b_t6 [.int .u8 0, .slice none 0 0] 49, .cells b_t10 [.int .u8 1, .slice none 0 0] 49] [Pers.reps kBytes (chunks (laid v.b (o.at_ * v.sz).toNat (List.replicate (o.n * v.sz).toNat 0)) v.sz.toNat v.bl.toNat) cs84] a w) (is := [0, 0, 0]) (js := [0, 1, 2]) wide_ rfl rfl rfl ?_ ?_
                                          · refine GA.take 0 rfl (by kernel_rfl) (by kernel_rfl) (by kernel_rfl) rfl (fun a w h => h.mem (is := [0, 0, 0]) (js := [0, 1, 2]) rfl rfl) (i_pure (p_move rfl)) ?_
                                            refine GA.take 1 rfl (by kernel_rfl) (by kernel_rfl) (by kernel_rfl) rfl (fun a w h => h.mem (is := [0, 0, 0]) (js := [0, 1, 2]) rfl rfl) (i_pure (p_fieldAddr fo_42_1 rfl)) ?_
                                            refine GA.take 2 rfl (by kernel_rfl) (by kernel_rfl) (by kernel_rfl) rfl (fun a w h => h.mem (is := [0, 0, 0]) (js := [0, 1, 2]) rfl rfl) (i_mem (m_load (i := 2) rfl rfl ag_3 rfl)) ?_
                                            refine GA.take 3 rfl (by kernel_rfl) (by kernel_rfl) (by kernel_rfl) rfl (fun a w h => h.mem (is := [0, 0, 0]) (js := [0, 1, 2]) rfl rfl) (i_pure (p_fieldAddr fo_42_2 rfl)) ?_
                                            refine GA.take 4 rfl (by kernel_rfl) (by kernel_rfl) (by kernel_rfl) rfl (fun a w h => h.mem (is := [0, 0, 0]) (js := [0, 1, 2]) rfl rfl) (i_mem (m_load (i := 2) rfl rfl ag_3 rfl)) ?_
                                            refine GA.take 5 rfl (by kernel_rfl) (by kernel_rfl) (by kernel_rfl) rfl (fun a w h => h.mem (is := [0, 0, 0]) (js := [0, 1, 2]) rfl rfl) (i_pure (p_move rfl)) ?_
                                            refine GA.take 6 rfl (by kernel_rfl) (by kernel_rfl) (by kernel_rfl) rfl (fun a w h => h.mem (is := [0, 0, 0]) (js := [0, 1, 2]) rfl rfl) (i_pure (p_nilCheck rfl)) ?_
                                            refine GA.take 7 rfl (by kernel_rfl) (by kernel_rfl) (by kernel_rfl) rfl (fun a w h => h.mem (is := [0, 0, 0]) (js := [0, 1, 2]) rfl rfl) (i_pure (p_fieldAddr fo_79_0 rfl)) ?_
                                            refine GA.take 8 rfl (by kernel_rfl) (by kernel_rfl) (by kernel_rfl) rfl (fun a w h => h.mem (is := [0, 0, 0]) (js := [0, 1, 2]) rfl rfl) (i_pure (p_fieldAddr fo_23_1 rfl)) ?_
                                            refine GA.take 12 rfl (by kernel_rfl) (by kernel_rfl) (by kernel_rfl) rfl (fun a w h => h.mem (is := [0, 0, 0]) (js := [0, 1, 2]) rfl rfl) (i_pure (p_move rfl)) ?_
                                            refine GA.all (rs := [9]) (by kernel_rfl) (by simp) ?_
                                            refine GAs.cons (i := 9) rfl rfl (t_mem rfl (m_load (i := 3) rfl rfl ag_3 rfl)) (by rintro a w h; exact h.mem (is := [0, 0, 0]) (js := [0, 1, 2]) rfl rfl) ?_ ?_
                                            · refine GA.take 10 rfl (by kernel_rfl) (by kernel_rfl) (by kernel_rfl) rfl (fun a w h => h.mem (is := [0, 0, 0]) (js := [0, 1, 2]) rfl rfl) (i_pure (p_mul rfl rfl (w64 (by omega) (by omega)))) ?_
                                              refine GA.all (rs := [11]) (by kernel_rfl) (by simp) ?_
                                              refine GAs.cons (i := 11) rfl rfl (t_make rfl el_31 rfl rfl (by omega) (by omega)) (by rintro a w ⟨_, h⟩; exact h.mem (is := [1, 1, 1]) (js := [0, 1, 2]) rfl rfl) (GA.ex fun b_t82 => ?_) ?_
                                              · rw [reps_u8]
                                                refine GA.freezeC (h1 := fun _ => rfl) (i := 0) rfl ?_
                                                refine GA.all (rs := [13]) (by kernel_rfl) (by simp) ?_
                                                refine GAs.cons (i := 13) rfl rfl (t_call rfl fn_44 rfl (is := [3, 3, 3]) (js := [1, 0]) rfl rfl (by exact write_len _ _ _ _ _ _ _ _ { v with last := num } _ _ _ (List.replicate (o.n * v.sz).toNat 0) _ _ o.n.toNat (by rw [List.length_replicate]) hv1 (by omega) (by show _ ≤ v.bl; omega) (by show _ = _ * v.sz.toNat; rw [List.length_replicate, nat_mul (by omega) (by omega)]) (by rw [List.length_replicate]; exact Nat.le_refl _) (by omega))) (by rintro a w ⟨_, _, _, ⟨cs84, rfl, rfl, rfl⟩, h⟩; exact h.mem (is := [3, 3, 3]) (js := [2, 3, 4]) rfl rfl) (GA.ret ?_) ?_
                                                · rintro _ _ _ ⟨cs84, rfl, rfl, rfl⟩
                                                  exact GA.done (by kernel_rfl) (fun a w h => ⟨cs84, h.cut (is := [0, 0, 0, 1, 0]) (js := [0]) ⟨rfl, rfl, rfl, trivial⟩ rfl rfl⟩)
                                                exact GAs.nil
                                              exact GAs.nil
                                            exact GAs.nil
                                          · refine (?_ : GC _ _ _ _)
                                            refine GC.ex fun cs84 => ?_
                                            refine GC.seq' ?_
                                            refine GC.region ?_
                                            refine GL.step rfl (t_mem rfl (m_loadN (i := 4) rfl rfl ag_49 (vs := [_, _]) sz_49 ⟨rfl, rfl, trivial⟩)) ?_
                                            refine GL.step rfl (t_storeN (i := 3) rfl rfl rfl sz_49 rfl rfl rfl) ?_
                                            refine GL.pure rfl (p_assign rfl) ?_
                                            refine GL.nil (?_ : GC _ _ _ _)
                                            refine GC.know (q := Pers.row Kd.u8 none []) (fun _ _ _ => .inl rfl) ?_
                                            refine GC.ret ?_
                                            refine fun a w h => Fin.back (rs := [.cell 6 49, .tmp 7]) (vs := [_, _]) (is := [0, 0, 0]) (js := [0, 1]) rfl ⟨⟨3, _, _, _, _, rfl, rfl, .inr ⟨[_, _], rfl, ag_49, sz_49, ⟨rfl, rfl, trivial⟩⟩⟩, rfl, trivial⟩ rfl rfl ?_ h
                                            clear h
                                            rw [doF_do (by omega) h4 h5, if_neg (by omega), if_neg (by omega), if_pos h8]
                                            have e : (pc v o.at_ o.n).length = (o.n * v.sz).toNat := by omega
                                            rw [e]
                                            exact ⟨none, 0, _, by simp [rz], by simp, rfl, rfl, rfl⟩)
                                     · try simp only [decide_eq_true_eq, decide_eq_false_iff_not, Bool.not_eq_true', Bool.not_eq_false', Bool.not_true, Bool.not_false, Bool.not_not, ne_eq, Decidable.not_not, Int.not_lt, Int.not_le, gt_iff_lt, ge_iff_le, bool_true_eq_, bool_false_eq_, str_eq] at h8
                                       first
                                       | (exfalso; omega)
                                       | (skip
                                          refine GC.seq' ?_
                                          refine GC.region ?_
                                          refine GL.pure rfl (p_eql rfl rfl) ?_
                                          refine GL.pure rfl (p_assign rfl) ?_
                                          refine GL.nil (?_ : GC _ _ _ _)
                                          refine GC.cond rfl (fun h9 => ?_) (fun h9 => ?_)
                                          · try simp only [decide_eq_true_eq, decide_eq_false_iff_not, Bool.not_eq_true', Bool.not_eq_false', Bool.not_true, Bool.not_false, Bool.not_not, ne_eq, Decidable.not_not, Int.not_lt, Int.not_le, gt_iff_lt, ge_iff_le, bool_true_eq_, bool_false_eq_, str_eq] at h9
                                            first
                                            | (exfalso; omega)
                                            | (skip
                                               refine GC.seq' ?_
                                               refine GC.seq' ?_
                                               refine GC.layE (j := 0) (m := o.at_) (sp) rfl (by omega) (gt_ok (by omega) (by omega)) (fun r_e ok_e hc_e => ?_)
                                               rcases r_e with ⟨A_e, c_e⟩
                                               have hg := chV_gt hv (show 0 ≤ o.at_ by omega) (by omega)
                                               rw [hg] at ok_e hc_e ⊢
                                               refine GC.regionQ wide_ (by kernel_rfl) ?_
                                               refine GQ.step rfl (q_pure (p_move rfl)) ?_
                                               refine GQ.step rfl (q_pure (p_nilCheck rfl)) ?_
                                               refine GQ.step rfl (q_pure (p_fieldAddr fo_79_1 rfl)) ?_
                                               refine GQ.step rfl (q_mem (m_load (i := 3) rfl rfl ag_77 rfl)) ?_
                                               refine GQ.step rfl (q_pure (p_fieldAddr fo_42_1 rfl)) ?_
                                               refine GQ.step rfl (q_mem (m_load (i := 2) rfl rfl ag_3 rfl)) ?_
                                               refine GQ.step rfl (q_pure (p_indexB rfl rfl Try.underlying77 sz_31 (by omega) (by omega))) ?_
                                               refine GQ.step rfl (q_mem (m_load (i := 4) rfl rfl ag_31 (hc_e 0 _ rfl))) ?_
                                               refine GQ.step rfl (q_mem (m_str (i := 0) rfl rfl Try.underlying31 Try.underlying5 Try.underlying9)) ?_
                                               refine GQ.step rfl (q_pure (p_fieldAddr fo_42_4 rfl)) ?_
                                               refine GQ.step rfl (q_mem (m_load (i := 2) rfl rfl ag_31 rfl)) ?_
                                               refine GQ.step rfl (q_mem (m_str (i := 3) rfl rfl Try.underlying31 Try.underlying5 Try.underlying9)) ?_
                                               refine GQ.step rfl (q_pure (p_sneq rfl rfl)) ?_
                                               refine GQ.nil (?_ : GC _ _ _ _)
                                               refine GC.cond rfl (fun h10 => ?_) (fun h10 => ?_)
                                               · try simp only [decide_eq_true_eq, decide_eq_false_iff_not, Bool.not_eq_true', Bool.not_eq_false', Bool.not_true, Bool.not_false, Bool.not_not, ne_eq, Decidable.not_not, Int.not_lt, Int.not_le, gt_iff_lt, ge_iff_le, bool_true_eq_, bool_false_eq_, str_eq] at h10
                                                 first
                                                 | (exfalso; omega)
                                                 | (skip
                                                    refine GC.seq' ?_
                                                    refine GC.region ?_
                                                    refine GL.pure rfl (p_move rfl) ?_
                                                    refine GL.pure rfl (p_fieldAddr fo_42_1 rfl) ?_
                                                    refine GL.step rfl (t_mem rfl (m_load (i := 2) rfl rfl ag_3 rfl)) ?_
                                                    refine GL.step rfl (t_call rfl fn_46 rfl (is := [3, 3, 3]) (js := [1]) rfl rfl (by exact read_ct _ _ _ _ _ _ _ _ { v with last := num } _ _ hv1 (by omega) (by omega) (by show _ ≤ v.bl; omega))) (GL.ret ?_)
                                                    rintro _ _ _ ⟨A103, cp103, l103, k103, rfl, rfl, rfl⟩
                                                    refine GL.pure rfl (p_build ze_49 of_49 rfl rfl) ?_
                                                    refine GL.freezeB (i := 0) rfl ?_
                                                    refine GL.step rfl (t_storeN (i := 4) rfl rfl rfl sz_49 rfl rfl rfl) ?_
                                                    refine GL.pure rfl (p_assign rfl) ?_
                                                    refine GL.nil (?_ : GC _ _ _ _)
                                                    refine GC.ret ?_
                                                    refine fun a w h => Fin.back (rs := [.cell 6 49, .tmp 7]) (vs := [_, _]) (is := [0, 0, 0]) (js := [0, 2]) rfl ⟨⟨4, _, _, _, _, rfl, rfl, .inr ⟨[_, _], rfl, ag_49, sz_49, ⟨rfl, rfl, trivial⟩⟩⟩, rfl, trivial⟩ rfl rfl ?_ h
                                                    clear h
                                                    rw [doF_do (by omega) h4 h5, if_neg (by omega), if_neg h6, if_neg h8, if_pos h9, if_neg h10]
                                                    exact ⟨_, _, _, l103, k103, rfl, rfl, rfl⟩)
                                               · try simp only [decide_eq_true_eq, decide_eq_false_iff_not, Bool.not_eq_true', Bool.not_eq_false', Bool.not_true, Bool.not_false, Bool.not_not, ne_eq, Decidable.not_not, Int.not_lt, Int.not_le, gt_iff_lt, ge_iff_le, bool_true_eq_, bool_false_eq_, str_eq] at h10
                                                 first
                                                 | (exfalso; omega)
                                                 | (skip
                                                    refine GC.skip (?_ : GC _ _ _ _)
                                                    refine GC.region ?_
                                                    refine GL.pure rfl (p_move rfl) ?_
                                                    refine GL.pure rfl (p_fieldAddr fo_42_1 rfl) ?_
                                                    refine GL.step rfl (t_mem rfl (m_load (i := 2) rfl rfl ag_3 rfl)) ?_
                                                    refine GL.pure rfl (p_fieldAddr fo_42_3 rfl) ?_
                                                    refine GL.step rfl (t_mem rfl (m_load (i := 2) rfl rfl ag_31 rfl)) ?_
                                                    refine GL.pure rfl (p_move rfl) ?_
                                                    refine GL.step rfl (t_call rfl fn_44 rfl (is := [3, 3, 3]) (js := [1, 2]) rfl rfl (by exact write_ct _ _ _ _ _ _ _ _ { v with last := num } _ _ _ _ _ 1 hv1 (by omega) (by show _ ≤ v.bl; omega) (by show _ = _ * v.sz.toNat; omega) hcp (by omega))) (GL.ret ?_)
                                                    rintro _ _ _ ⟨cs111, rfl, rfl, rfl⟩
                                                    refine GL.nil (?_ : GC _ _ _ _)
                                                    refine GC.seq' ?_
                                                    refine GC.region ?_
                                                    refine GL.step rfl (t_mem rfl (m_loadN (i := 3) rfl rfl ag_49 (vs := [_, _]) sz_49 ⟨rfl, rfl, trivial⟩)) ?_
                                                    refine GL.step rfl (t_storeN (i := 4) rfl rfl rfl sz_49 rfl rfl rfl) ?_
                                                    refine GL.pure rfl (p_assign rfl) ?_
                                                    refine GL.nil (?_ : GC _ _ _ _)
                                                    refine GC.know (q := Pers.row Kd.u8 none []) (fun _ _ _ => .inl rfl) ?_
                                                    refine GC.ret ?_
                                                    refine fun a w h => Fin.back (rs := [.cell 6 49, .tmp 7]) (vs := [_, _]) (is := [0, 0, 0]) (js := [0, 1]) rfl ⟨⟨4, _, _, _, _, rfl, rfl, .inr ⟨[_, _], rfl, ag_49, sz_49, ⟨rfl, rfl, trivial⟩⟩⟩, rfl, trivial⟩ rfl rfl ?_ h
                                                    clear h
                                                    rw [doF_do (by omega) h4 h5, if_neg (by omega), if_neg h6, if_neg h8, if_pos h9, if_pos h10]
                                                    exact ⟨none, 0, _, by simp [rz], by simp, rfl, rfl, rfl⟩))
                                          · try simp only [decide_eq_true_eq, decide_eq_false_iff_not, Bool.not_eq_true', Bool.not_eq_false', Bool.not_true, Bool.not_false, Bool.not_not, ne_eq, Decidable.not_not, Int.not_lt, Int.not_le, gt_iff_lt, ge_iff_le, bool_true_eq_, bool_false_eq_, str_eq] at h9
                                            first
                                            | (exfalso; omega)
                                            | (skip
                                               refine GC.region ?_
                                               refine GL.pure rfl (p_fieldAddr fo_49_1 rfl) ?_
                                               refine GL.step rfl (t_store (i := 0) rfl rfl rfl rfl sz_31 rfl rfl rfl) ?_
                                               refine GL.nil (?_ : GC _ _ _ _)
                                               refine GC.seq' ?_
                                               refine GC.region ?_
                                               refine GL.step rfl (t_mem rfl (m_loadN (i := 0) rfl rfl ag_49 (vs := [_, _]) sz_49 ⟨rfl, rfl, trivial⟩)) ?_
                                               refine GL.step rfl (t_storeN (i := 1) rfl rfl rfl sz_49 rfl rfl rfl) ?_
                                               refine GL.pure rfl (p_assign rfl) ?_
                                               refine GL.nil (?_ : GC _ _ _ _)
                                               refine GC.know (q := Pers.row Kd.u8 none []) (fun _ _ _ => .inl rfl) ?_
                                               refine GC.ret ?_
                                               refine fun a w h => Fin.back (rs := [.cell 6 49, .tmp 7]) (vs := [_, _]) (is := [3, 3, 3]) (js := [0, 1]) rfl ⟨⟨1, _, _, _, _, rfl, rfl, .inr ⟨[_, _], rfl, ag_49, sz_49, ⟨rfl, rfl, trivial⟩⟩⟩, rfl, trivial⟩ rfl rfl ?_ h
                                               clear h
                                               rw [doF_do (by omega) h4 h5, if_pos (by omega)]
                                               exact ⟨none, 0, _, by simp [rz], by simp, rfl, rfl, rfl⟩)))))))))
end Go.Proofs.Ytihhpkbbhfcdcaa
