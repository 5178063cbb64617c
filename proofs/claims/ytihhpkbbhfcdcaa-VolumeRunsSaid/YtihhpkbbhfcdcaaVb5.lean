/- THE VOLUME: the contract of a request. -/
import Derived.Test.YtihhpkbbhfcdcaaVb4
set_option linter.unusedVariables false
set_option linter.unusedSimpArgs false
set_option maxRecDepth 100000
namespace Go.Proofs.Ytihhpkbbhfcdcaa
open Go Go.Sx Go.Proofs

abbrev resV (r : Res) (A : Option Addr) (cp : Nat) (e : Int) : Value := .tuple #[.agg #[.int .u8 r.code, .slice A r.data.length cp], .int .i64 e]
theorem do_ct (p pb pv : Nat) (v : Vol) (o : OpD) (A : Option Addr) (cp : Nat) (B : Option Addr) (cq : Nat) (num : Int) (hv : VolOk v) :
    Ct Try.prog 19 [.pointer (some ⟨p, 0, none⟩), opV o.kind o.at_ o.n A o.data.length cp B o.old.length cq, .int .i64 num] (volG p pb pv v) [Pers.row Kd.u8 A o.data, Pers.row Kd.u8 B o.old]
      (fun u G Q => ∃ A' cp', (doF v o num).1.1.data.length ≤ cp' ∧ cp' ≤ 9223372036854775807 ∧ u = resV (doF v o num).1.1 A' cp' (doF v o num).1.2 ∧ G = volG p pb pv (doF v o num).2 ∧ Q = [Pers.row Kd.u8 A' (doF v o num).1.1.data]) := by
  refine Ct.intro Try.func19 rfl rfl rfl (fun c hc => ?_)
  refine GC.seq' ?_
  refine GC.region ?_
  refine GL.step rfl (t_box rfl rfl rfl) (GL.ex fun b_t4 => ?_)
  refine GL.step rfl (t_alloc rfl ze_49) (GL.ex fun b_t6 => ?_)
  refine GL.pure rfl (p_assign rfl) ?_
  refine GL.nil (?_ : GC _ _ _ _)
  refine GC.seq' ?_
  refine GC.seq' ?_
  refine GC.region ?_
  refine GL.pure rfl (p_move rfl) ?_
  refine GL.step rfl (t_call rfl fn_27 rfl (is := [2, 2, 2]) (js := []) rfl rfl (by exact made_ct _ _ _ v)) (GL.ret ?_)
  rintro _ _ _ ⟨rfl, rfl, rfl⟩
  refine GL.pure rfl (p_not rfl) ?_
  refine GL.nil (?_ : GC _ _ _ _)
  refine GC.cond_false rfl ?_
  refine GC.skip (?_ : GC _ _ _ _)
  refine GC.seq' ?_
  refine GC.seq' ?_
  refine GC.region ?_
  refine GL.pure rfl (p_move rfl) ?_
  refine GL.pure rfl (p_move rfl) ?_
  refine GL.pure rfl (p_nilCheck rfl) ?_
  refine GL.pure rfl (p_fieldAddr fo_58_3 rfl) ?_
  refine GL.step rfl (t_mem rfl (m_load (i := 0) rfl rfl ag_3 rfl)) ?_
  refine GL.pure rfl (p_max2 rfl rfl) ?_
  refine GL.pure rfl (p_lss rfl rfl) ?_
  refine GL.pure rfl (p_move rfl) ?_
  refine GL.split (i := 23) rfl (fun h1 => ?_) (fun h1 => ?_)
  · try simp only [decide_eq_true_eq, decide_eq_false_iff_not, Bool.not_eq_true', Bool.not_eq_false', Bool.not_true, Bool.not_false, Bool.not_not, ne_eq, Decidable.not_not, Int.not_lt, Int.not_le, gt_iff_lt, ge_iff_le, bool_true_eq_, bool_false_eq_] at h1
    first
    | (exfalso; omega)
    | (skip
       refine GL.pass (s := 23) rfl rfl rfl ?_
       refine GL.pass (s := 23) rfl rfl rfl ?_
       refine GL.pure rfl (p_pick_true rfl rfl) ?_
       refine GL.nil (?_ : GC _ _ _ _)
       refine GC.cond_true rfl ?_
       refine GC.seq' ?_
       refine GC.region ?_
       refine GL.pure rfl (p_build ze_49 of_49 rfl rfl) ?_
       refine GL.step rfl (t_storeN (i := 3) rfl rfl rfl sz_49 rfl rfl rfl) ?_
       refine GL.pure rfl (p_assign rfl) ?_
       refine GL.nil (?_ : GC _ _ _ _)
       refine GC.know (q := Pers.row Kd.u8 none []) (fun _ _ _ => .inl rfl) ?_
       refine GC.ret ?_
       refine fun a w h => Fin.back (rs := [.cell 6 49, .tmp 7]) (vs := [_, _]) (is := [0, 0, 0]) (js := [0]) rfl ⟨⟨3, _, _, _, _, rfl, rfl, .inr ⟨[_, _], rfl, ag_49, sz_49, ⟨rfl, rfl, trivial⟩⟩⟩, rfl, trivial⟩ rfl rfl ?_ h
       clear h
       rw [doF_range (.inl h1)]
       exact ⟨none, 0, by simp [rz], by simp, rfl, rfl, rfl⟩)
  · try simp only [decide_eq_true_eq, decide_eq_false_iff_not, Bool.not_eq_true', Bool.not_eq_false', Bool.not_true, Bool.not_false, Bool.not_not, ne_eq, Decidable.not_not, Int.not_lt, Int.not_le, gt_iff_lt, ge_iff_le, bool_true_eq_, bool_false_eq_] at h1
    first
    | (exfalso; omega)
    | (skip
       refine GL.pureG (s := 23) rfl rfl rfl (p_move rfl) ?_
       refine GL.pureG (s := 23) rfl rfl rfl (p_gtr rfl rfl) ?_
       refine GL.pure rfl (p_pick_false rfl rfl) ?_
       refine GL.nil (?_ : GC _ _ _ _)
       refine GC.cond rfl (fun h2 => ?_) (fun h2 => ?_)
       · try simp only [decide_eq_true_eq, decide_eq_false_iff_not, Bool.not_eq_true', Bool.not_eq_false', Bool.not_true, Bool.not_false, Bool.not_not, ne_eq, Decidable.not_not, Int.not_lt, Int.not_le, gt_iff_lt, ge_iff_le, bool_true_eq_, bool_false_eq_] at h2
         first
         | (exfalso; omega)
         | (skip
            refine GC.seq' ?_
            refine GC.region ?_
            refine GL.pure rfl (p_build ze_49 of_49 rfl rfl) ?_
            refine GL.step rfl (t_storeN (i := 3) rfl rfl rfl sz_49 rfl rfl rfl) ?_
            refine GL.pure rfl (p_assign rfl) ?_
            refine GL.nil (?_ : GC _ _ _ _)
            refine GC.know (q := Pers.row Kd.u8 none []) (fun _ _ _ => .inl rfl) ?_
            refine GC.ret ?_
            refine fun a w h => Fin.back (rs := [.cell 6 49, .tmp 7]) (vs := [_, _]) (is := [0, 0, 0]) (js := [0]) rfl ⟨⟨3, _, _, _, _, rfl, rfl, .inr ⟨[_, _], rfl, ag_49, sz_49, ⟨rfl, rfl, trivial⟩⟩⟩, rfl, trivial⟩ rfl rfl ?_ h
            clear h
            rw [doF_range (.inr h2)]
            exact ⟨none, 0, by simp [rz], by simp, rfl, rfl, rfl⟩)
       · try simp only [decide_eq_true_eq, decide_eq_false_iff_not, Bool.not_eq_true', Bool.not_eq_false', Bool.not_true, Bool.not_false, Bool.not_not, ne_eq, Decidable.not_not, Int.not_lt, Int.not_le, gt_iff_lt, ge_iff_le, bool_true_eq_, bool_false_eq_] at h2
         first
         | (exfalso; omega)
         | (skip
            refine GC.skip (?_ : GC _ _ _ _)
            refine GC.seq' ?_
            refine GC.regionQ wide_ (by kernel_rfl) ?_
            refine GQ.step rfl (q_pure (p_move rfl)) ?_
            refine GQ.step rfl (q_pure (p_nilCheck rfl)) ?_
            refine GQ.step rfl (q_pure (p_fieldAddr fo_58_0 rfl)) ?_
            refine GQ.step rfl (q_mem (m_loadN (i := 0) rfl rfl ag_23 (vs := [_, _]) sz_23 ⟨rfl, rfl, trivial⟩)) ?_
            refine GQ.step rfl (q_mem (m_loadN (i := 4) rfl rfl ag_42 (vs := [_, _, _, _, _]) sz_42 ⟨rfl, rfl, rfl, rfl, rfl, trivial⟩)) ?_
            refine GQ.step rfl (q_call fn_35 rfl (js := []) rfl (by exact fit_ct _ _ _ _ _ _ _ _ _ _ _)) ?_
            refine GQ.step rfl (q_pure (p_move rfl)) ?_
            refine GQ.step rfl (q_pure (p_extract rfl rfl)) ?_
            refine GQ.step rfl (q_pure (p_extract rfl rfl)) ?_
            refine GQ.step rfl (q_pure (p_assign rfl)) ?_
            refine GQ.step rfl (q_pure (p_assign rfl)) ?_
            refine GQ.nil (?_ : GC _ _ _ _)
            refine GC.seq' ?_
            refine GC.seq' ?_
            refine GC.region ?_
            refine GL.pure rfl (p_move rfl) ?_
            refine GL.pure rfl (p_neq rfl rfl) ?_
            refine GL.nil (?_ : GC _ _ _ _)
            refine GC.cond rfl (fun h3 => ?_) (fun h3 => ?_)
            · try simp only [decide_eq_true_eq, decide_eq_false_iff_not, Bool.not_eq_true', Bool.not_eq_false', Bool.not_true, Bool.not_false, Bool.not_not, ne_eq, Decidable.not_not, Int.not_lt, Int.not_le, gt_iff_lt, ge_iff_le, bool_true_eq_, bool_false_eq_] at h3
              first
              | (exfalso; omega)
              | (skip
                 refine GC.seq' ?_
                 refine GC.region ?_
                 refine GL.pure rfl (p_build ze_49 of_49 rfl rfl) ?_
                 refine GL.pure rfl (p_move rfl) ?_
                 refine GL.step rfl (t_storeN (i := 3) rfl rfl rfl sz_49 rfl rfl rfl) ?_
                 refine GL.pure rfl (p_assign rfl) ?_
                 refine GL.nil (?_ : GC _ _ _ _)
                 refine GC.know (q := Pers.row Kd.u8 none []) (fun _ _ _ => .inl rfl) ?_
                 refine GC.ret ?_
                 refine fun a w h => Fin.back (rs := [.cell 6 49, .tmp 7]) (vs := [_, _]) (is := [0, 0, 0]) (js := [0]) rfl ⟨⟨3, _, _, _, _, rfl, rfl, .inr ⟨[_, _], rfl, ag_49, sz_49, ⟨rfl, rfl, trivial⟩⟩⟩, rfl, trivial⟩ rfl rfl ?_ h
                 clear h
                 rw [doF_fit (by omega) h3]
                 exact ⟨none, 0, by simp [rz], by simp, rfl, rfl, rfl⟩)
            · try simp only [decide_eq_true_eq, decide_eq_false_iff_not, Bool.not_eq_true', Bool.not_eq_false', Bool.not_true, Bool.not_false, Bool.not_not, ne_eq, Decidable.not_not, Int.not_lt, Int.not_le, gt_iff_lt, ge_iff_le, bool_true_eq_, bool_false_eq_] at h3
              first
              | (exfalso; omega)
              | (skip
                 refine GC.skip (?_ : GC _ _ _ _)
                 refine GC.seq' ?_
                 refine GC.region ?_
                 refine GL.pure rfl (p_move rfl) ?_
                 refine GL.pure rfl (p_move rfl) ?_
                 refine GL.pure rfl (p_nilCheck rfl) ?_
                 refine GL.pure rfl (p_fieldAddr fo_58_3 rfl) ?_
                 refine GL.step rfl (t_store (i := 0) rfl rfl rfl rfl sz_3 rfl rfl rfl) ?_
                 refine GL.nil (?_ : GC _ _ _ _)
                 refine GC.seq' ?_
                 refine GC.seq' ?_
                 refine GC.region ?_
                 refine GL.pure rfl (p_move rfl) ?_
                 refine GL.pure rfl (p_neq rfl rfl) ?_
                 refine GL.nil (?_ : GC _ _ _ _)
                 refine GC.cond rfl (fun h4 => ?_) (fun h4 => ?_)
                 · try simp only [decide_eq_true_eq, decide_eq_false_iff_not, Bool.not_eq_true', Bool.not_eq_false', Bool.not_true, Bool.not_false, Bool.not_not, ne_eq, Decidable.not_not, Int.not_lt, Int.not_le, gt_iff_lt, ge_iff_le, bool_true_eq_, bool_false_eq_] at h4
                   first
                   | (exfalso; omega)
                   | (skip
                      refine GC.seq' ?_
                      refine GC.region ?_
                      refine GL.pure rfl (p_move rfl) ?_
                      refine GL.pure rfl (p_build ze_49 of_49 rfl rfl) ?_
                      refine GL.step rfl (t_storeN (i := 3) rfl rfl rfl sz_49 rfl rfl rfl) ?_
                      refine GL.pure rfl (p_assign rfl) ?_
                      refine GL.nil (?_ : GC _ _ _ _)
                      refine GC.know (q := Pers.row Kd.u8 none []) (fun _ _ _ => .inl rfl) ?_
                      refine GC.ret ?_
                      refine fun a w h => Fin.back (rs := [.cell 6 49, .tmp 7]) (vs := [_, _]) (is := [0, 0, 0]) (js := [0]) rfl ⟨⟨3, _, _, _, _, rfl, rfl, .inr ⟨[_, _], rfl, ag_49, sz_49, ⟨rfl, rfl, trivial⟩⟩⟩, rfl, trivial⟩ rfl rfl ?_ h
                      clear h
                      rw [doF_code (by omega) h3 h4]
                      exact ⟨none, 0, by simp [rz], by simp, rfl, rfl, rfl⟩)
                 · try simp only [decide_eq_true_eq, decide_eq_false_iff_not, Bool.not_eq_true', Bool.not_eq_false', Bool.not_true, Bool.not_false, Bool.not_not, ne_eq, Decidable.not_not, Int.not_lt, Int.not_le, gt_iff_lt, ge_iff_le, bool_true_eq_, bool_false_eq_] at h4
                   first
                   | (exfalso; omega)
                   | (skip
                      refine GC.skip (?_ : GC _ _ _ _)
                      refine GC.seq' ?_
                      refine GC.region ?_
                      obtain ⟨hs, hf, hk⟩ := fit_one (by assumption) (by assumption)
                      simp only [formP, bareP] at hf
                      simp only [shapeOk] at hs
                      have hv1 : VolOk { v with last := num } := hv.last' (by omega) (by omega)
                      have hpc := fun g => pc_length hv (a := o.at_) (n := o.n) (by omega) g
                      refine GL.pure rfl (p_fieldAddr fo_42_2 rfl) ?_
                      refine GL.step rfl (t_mem rfl (m_load (i := 4) rfl rfl ag_3 rfl)) ?_
                      refine GL.pure rfl (p_assign rfl) ?_
                      refine GL.nil (?_ : GC _ _ _ _)
                      refine GC.seq' ?_
                      refine GC.seq' ?_
                      refine GC.region ?_
                      refine GL.pure rfl (p_fieldAddr fo_42_0 rfl) ?_
                      refine GL.step rfl (t_mem rfl (m_load (i := 4) rfl rfl ag_40 rfl)) ?_
                      refine GL.nil (?_ : GC _ _ _ _)
                      refine GC.block ?_
                      refine GC.seq' ?_
                      refine GC.block ?_
                      refine GC.seq' ?_
                      refine GC.block ?_
                      refine GC.seq' ?_
                      refine GC.block ?_
                      refine GC.seq' ?_
                      refine GC.block ?_
                      refine GC.seq' ?_
                      refine GC.block ?_
                      refine GC.seq' ?_
                      refine GC.seq' ?_
                      refine GC.seq' ?_
                      refine GC.region ?_
                      refine GL.pure rfl (p_eql rfl rfl) ?_
                      refine GL.pure rfl (p_assign rfl) ?_
                      refine GL.nil (?_ : GC _ _ _ _)
                      refine GC.cond rfl (fun h5 => ?_) (fun h5 => ?_)
                      · try simp only [decide_eq_true_eq, decide_eq_false_iff_not, Bool.not_eq_true', Bool.not_eq_false', Bool.not_true, Bool.not_false, Bool.not_not, ne_eq, Decidable.not_not, Int.not_lt, Int.not_le, gt_iff_lt, ge_iff_le, bool_true_eq_, bool_false_eq_] at h5
                        first
                        | (exfalso; omega)
                        | (skip
                           refine GC.exit (?_ : GC _ _ _ _)
                           refine GC.seq' ?_
                           refine GC.seq' ?_
                           refine GC.region ?_
                           refine GL.pure rfl (p_build ze_49 of_49 rfl rfl) ?_
                           refine GL.step rfl (t_storeN (i := 3) rfl rfl rfl sz_49 rfl rfl rfl) ?_
                           refine GL.pure rfl (p_assign rfl) ?_
                           refine GL.nil (?_ : GC _ _ _ _)
                           refine GC.know (q := Pers.row Kd.u8 none []) (fun _ _ _ => .inl rfl) ?_
                           refine GC.ret ?_
                           refine fun a w h => Fin.back (rs := [.cell 6 49, .tmp 7]) (vs := [_, _]) (is := [0, 0, 0]) (js := [0]) rfl ⟨⟨3, _, _, _, _, rfl, rfl, .inr ⟨[_, _], rfl, ag_49, sz_49, ⟨rfl, rfl, trivial⟩⟩⟩, rfl, trivial⟩ rfl rfl ?_ h
                           clear h
                           rw [doF_do (by omega) h3 h4, if_pos h5]
                           exact ⟨none, 0, by simp [rz], by simp, rfl, rfl, rfl⟩)
                      · try simp only [decide_eq_true_eq, decide_eq_false_iff_not, Bool.not_eq_true', Bool.not_eq_false', Bool.not_true, Bool.not_false, Bool.not_not, ne_eq, Decidable.not_not, Int.not_lt, Int.not_le, gt_iff_lt, ge_iff_le, bool_true_eq_, bool_false_eq_] at h5
                        first
                        | (exfalso; omega)
                        | (skip
                           refine GC.skip (?_ : GC _ _ _ _)
                           refine GC.seq' ?_
                           refine GC.seq' ?_
                           refine GC.region ?_
                           refine GL.pure rfl (p_eql rfl rfl) ?_
                           refine GL.pure rfl (p_assign rfl) ?_
                           refine GL.nil (?_ : GC _ _ _ _)
                           refine GC.cond rfl (fun h6 => ?_) (fun h6 => ?_)
                           · try simp only [decide_eq_true_eq, decide_eq_false_iff_not, Bool.not_eq_true', Bool.not_eq_false', Bool.not_true, Bool.not_false, Bool.not_not, ne_eq, Decidable.not_not, Int.not_lt, Int.not_le, gt_iff_lt, ge_iff_le, bool_true_eq_, bool_false_eq_] at h6
                             first
                             | (exfalso; omega)
                             | (skip
                                refine GC.exit (?_ : GC _ _ _ _)
                                refine GC.seq' ?_
                                refine GC.seq' ?_
                                refine GC.region ?_
                                have hm := (mulB (x := o.n) (a := 64) (y := v.sz) (b := 4096) (by omega) (by omega) (by omega) (by omega)).2
                                have hq := hpc (by omega) (by omega)
                                refine GL.pure rfl (p_move rfl) ?_
                                refine GL.pure rfl (p_fieldAddr fo_42_1 rfl) ?_
                                refine GL.step rfl (t_mem rfl (m_load (i := 4) rfl rfl ag_3 rfl)) ?_
                                refine GL.pure rfl (p_move rfl) ?_
                                refine GL.step rfl (t_call rfl fn_29 rfl (is := [0, 0, 0]) (js := []) rfl rfl (by exact at_ct _ _ _ { v with last := num } _ _ hv1 (by omega) (by omega) (by show _ ≤ v.bl; omega))) (GL.ret ?_)
                                rintro _ _ _ ⟨rfl, rfl, rfl⟩
                                refine GL.step rfl (t_lend rfl fn_28 rfl (is := []) (ls := [1]) (js := []) rfl rfl rfl (lendB) (by exact clone_ct _ (pc v o.at_ o.n) _ (by omega)) (by rintro _ _ _ ⟨A67, cp67, l67, k67, rfl, rfl, rfl⟩; rfl)) (GL.retL ?_)
                                rintro _ _ ⟨A67, cp67, l67, k67, rfl, rfl, _⟩
                                refine GL.pure rfl (p_build ze_49 of_49 rfl rfl) ?_
                                refine GL.freezeB (i := 0) rfl ?_
                                refine GL.step rfl (t_storeN (i := 3) rfl rfl rfl sz_49 rfl rfl rfl) ?_
                                refine GL.pure rfl (p_assign rfl) ?_
                                refine GL.nil (?_ : GC _ _ _ _)
                                refine GC.ret ?_
                                refine fun a w h => Fin.back (rs := [.cell 6 49, .tmp 7]) (vs := [_, _]) (is := [1, 0, 0]) (js := [0]) rfl ⟨⟨3, _, _, _, _, rfl, rfl, .inr ⟨[_, _], rfl, ag_49, sz_49, ⟨rfl, rfl, trivial⟩⟩⟩, rfl, trivial⟩ rfl rfl ?_ h
                                clear h
                                rw [doF_do (by omega) h3 h4, if_neg h5, if_pos h6]
                                exact ⟨_, _, l67, k67, rfl, rfl, rfl⟩)
                           · try simp only [decide_eq_true_eq, decide_eq_false_iff_not, Bool.not_eq_true', Bool.not_eq_false', Bool.not_true, Bool.not_false, Bool.not_not, ne_eq, Decidable.not_not, Int.not_lt, Int.not_le, gt_iff_lt, ge_iff_le, bool_true_eq_, bool_false_eq_] at h6
                             first
                             | (exfalso; omega)
                             | (skip
                                refine GC.skip (?_ : GC _ _ _ _)
                                refine GC.seq' ?_
                                refine GC.seq' ?_
                                refine GC.region ?_
                                refine GL.pure rfl (p_eql rfl rfl) ?_
                                refine GL.pure rfl (p_assign rfl) ?_
                                refine GL.nil (?_ : GC _ _ _ _)
                                refine GC.cond rfl (fun h7 => ?_) (fun h7 => ?_)
                                · try simp only [decide_eq_true_eq, decide_eq_false_iff_not, Bool.not_eq_true', Bool.not_eq_false', Bool.not_true, Bool.not_false, Bool.not_not, ne_eq, Decidable.not_not, Int.not_lt, Int.not_le, gt_iff_lt, ge_iff_le, bool_true_eq_, bool_false_eq_] at h7
                                  first
                                  | (exfalso; omega)
                                  | (skip
                                     refine GC.exit (?_ : GC _ _ _ _)
                                     refine GC.seq' ?_
                                     refine GC.region ?_
                                     have hBn := atB (i := o.at_) (n := o.n) hv.shp (by omega) (by omega) (by omega)
                                     have hl := hv.lb
                                     have en : (o.at_ + o.n) * v.sz = o.at_ * v.sz + o.n * v.sz := Int.add_mul _ _ _
                                     refine GL.pure rfl (p_move rfl) ?_
                                     refine GL.pure rfl (p_fieldAddr fo_42_1 rfl) ?_
                                     refine GL.step rfl (t_mem rfl (m_load (i := 4) rfl rfl ag_3 rfl)) ?_
                                     refine GL.pure rfl (p_move rfl) ?_
                                     refine GL.step rfl (t_call rfl fn_29 rfl (is := [0, 0, 0]) (js := []) rfl rfl (by exact at_ct _ _ _ { v with last := num } _ _ hv1 (by omega) (by omega) (by show _ ≤ v.bl; omega))) (GL.ret ?_)
                                     rintro _ _ _ ⟨rfl, rfl, rfl⟩
                                     refine GL.step rfl (t_clearB (i := 1) rfl rfl Try.underlying31 ze_5 rfl (by simp; (first | omega | (rw [seg_length (by omega)]; omega) | (rw [seg_length (by dsimp only; omega)]; dsimp only; omega))) (laid_rep _ _ _) rfl) ?_
                                     refine GL.nil (?_ : GC _ _ _ _)
                                     refine GC.exit (?_ : GC _ _ _ _)
                                     refine GC.seq' ?_
                                     refine GC.region ?_
                                     have hv2 := hv1.setb (o := (o.at_ * v.sz).toNat) (ys := List.replicate (pc v o.at_ o.n).length (0 : UInt8)) (by have := atB hv.shp (i := o.at_) (n := o.n) (by omega) (by omega) (by omega); have := hpc (by omega) (by omega); have := hv.lb; have e : (o.at_ + o.n) * v.sz = o.at_ * v.sz + o.n * v.sz := Int.add_mul _ _ _; rw [List.length_replicate]; show _ ≤ v.b.length; omega)
                                     refine GL.pure rfl (p_move rfl) ?_
                                     refine GL.pure rfl (p_fieldAddr fo_42_1 rfl) ?_
                                     refine GL.step rfl (t_mem rfl (m_load (i := 4) rfl rfl ag_3 rfl)) ?_
                                     refine GL.pure rfl (p_move rfl) ?_
                                     refine GL.pure rfl (p_move rfl) ?_
                                     refine GL.step rfl (t_call rfl fn_37 rfl (is := [0, 0, 0]) (js := []) rfl rfl (by exact stamp_ct _ _ _ _ _ _ _ hv2 (by omega) (by omega) (by show _ ≤ v.bl; omega))) (GL.ret ?_)
                                     rintro _ _ _ ⟨rfl, rfl, rfl⟩
                                     refine GL.nil (?_ : GC _ _ _ _)
                                     refine GC.seq' ?_
                                     refine GC.region ?_
                                     refine GL.pure rfl (p_build ze_49 of_49 rfl rfl) ?_
                                     refine GL.step rfl (t_storeN (i := 3) rfl rfl rfl sz_49 rfl rfl rfl) ?_
                                     refine GL.pure rfl (p_assign rfl) ?_
                                     refine GL.nil (?_ : GC _ _ _ _)
                                     refine GC.know (q := Pers.row Kd.u8 none []) (fun _ _ _ => .inl rfl) ?_
                                     refine GC.ret ?_
                                     refine fun a w h => Fin.back (rs := [.cell 6 49, .tmp 7]) (vs := [_, _]) (is := [0, 0, 0]) (js := [0]) rfl ⟨⟨3, _, _, _, _, rfl, rfl, .inr ⟨[_, _], rfl, ag_49, sz_49, ⟨rfl, rfl, trivial⟩⟩⟩, rfl, trivial⟩ rfl rfl ?_ h
                                     clear h
                                     rw [doF_do (by omega) h3 h4, if_neg h5, if_neg h6, if_pos h7]
                                     exact ⟨none, 0, by simp [rz], by simp, rfl, rfl, rfl⟩)
                                · try simp only [decide_eq_true_eq, decide_eq_false_iff_not, Bool.not_eq_true', Bool.not_eq_false', Bool.not_true, Bool.not_false, Bool.not_not, ne_eq, Decidable.not_not, Int.not_lt, Int.not_le, gt_iff_lt, ge_iff_le, bool_true_eq_, bool_false_eq_] at h7
                                  first
                                  | (exfalso; omega)
                                  | (skip
                                     refine GC.skip (?_ : GC _ _ _ _)
                                     refine GC.seq' ?_
                                     refine GC.region ?_
                                     refine GL.pure rfl (p_eql rfl rfl) ?_
                                     refine GL.pure rfl (p_assign rfl) ?_
                                     refine GL.nil (?_ : GC _ _ _ _)
                                     refine GC.cond rfl (fun h8 => ?_) (fun h8 => ?_)
                                     · try simp only [decide_eq_true_eq, decide_eq_false_iff_not, Bool.not_eq_true', Bool.not_eq_false', Bool.not_true, Bool.not_false, Bool.not_not, ne_eq, Decidable.not_not, Int.not_lt, Int.not_le, gt_iff_lt, ge_iff_le, bool_true_eq_, bool_false_eq_] at h8
                                       first
                                       | (exfalso; omega)
                                       | (skip
                                          refine GC.exit (?_ : GC _ _ _ _)
                                          refine GC.seq' ?_
                                          refine GC.seq' ?_
                                          refine GC.region ?_
                                          refine GL.pure rfl (p_move rfl) ?_
                                          refine GL.pure rfl (p_fieldAddr fo_42_1 rfl) ?_
                                          refine GL.step rfl (t_mem rfl (m_load (i := 4) rfl rfl ag_3 rfl)) ?_
                                          refine GL.step rfl (t_call rfl fn_29 rfl (is := [0, 0, 0]) (js := []) rfl rfl (by exact at_ct _ _ _ { v with last := num } _ _ hv1 (by omega) (by omega) (by show _ ≤ v.bl; omega))) (GL.ret ?_)
                                          rintro _ _ _ ⟨rfl, rfl, rfl⟩
                                          refine GL.pure rfl (p_assign rfl) ?_
                                          refine GL.nil (?_ : GC _ _ _ _)
                                          refine GC.seq' ?_
                                          refine GC.region ?_
                                          refine GL.pure rfl (p_move rfl) ?_
                                          refine GL.pure rfl (p_fieldAddr fo_42_4 rfl) ?_
                                          refine GL.step rfl (t_mem rfl (m_load (i := 4) rfl rfl ag_31 rfl)) ?_
                                          refine GL.step rfl (t_lend rfl fn_36 rfl (is := []) (ls := [1]) (js := [1]) rfl rfl rfl (lendB) (by exact equal_ct _ (pc v o.at_ 1) _ _ _ _) (by rintro _ _ _ ⟨rfl, rfl, rfl⟩; rfl)) (GL.retL ?_)
                                          rintro _ _ ⟨rfl, rfl, _⟩
                                          refine GL.pure rfl (p_not rfl) ?_
                                          refine GL.nil (?_ : GC _ _ _ _)
                                          refine GC.cond rfl (fun h9 => ?_) (fun h9 => ?_)
                                          · try simp only [decide_eq_true_eq, decide_eq_false_iff_not, Bool.not_eq_true', Bool.not_eq_false', Bool.not_true, Bool.not_false, Bool.not_not, ne_eq, Decidable.not_not, Int.not_lt, Int.not_le, gt_iff_lt, ge_iff_le, bool_true_eq_, bool_false_eq_] at h9
                                            first
                                            | (exfalso; omega)
                                            | (skip
                                               refine GC.seq' ?_
                                               refine GC.region ?_
                                               refine GL.pure rfl (p_move rfl) ?_
                                               refine GL.step rfl (t_lend rfl fn_28 rfl (is := []) (ls := [0]) (js := []) rfl rfl rfl (lendB) (by exact clone_ct _ (pc v o.at_ 1) _ (by have := pc_length hv (a := o.at_) (n := 1) (by omega) (by omega) (by omega); omega)) (by rintro _ _ _ ⟨A84, cp84, l84, k84, rfl, rfl, rfl⟩; rfl)) (GL.retL ?_)
                                               rintro _ _ ⟨A84, cp84, l84, k84, rfl, rfl, _⟩
                                               refine GL.pure rfl (p_build ze_49 of_49 rfl rfl) ?_
                                               refine GL.freezeB (i := 0) rfl ?_
                                               refine GL.step rfl (t_storeN (i := 3) rfl rfl rfl sz_49 rfl rfl rfl) ?_
                                               refine GL.pure rfl (p_assign rfl) ?_
                                               refine GL.nil (?_ : GC _ _ _ _)
                                               refine GC.ret ?_
                                               refine fun a w h => Fin.back (rs := [.cell 6 49, .tmp 7]) (vs := [_, _]) (is := [1, 0, 0]) (js := [0]) rfl ⟨⟨3, _, _, _, _, rfl, rfl, .inr ⟨[_, _], rfl, ag_49, sz_49, ⟨rfl, rfl, trivial⟩⟩⟩, rfl, trivial⟩ rfl rfl ?_ h
                                               clear h
                                               rw [doF_do (by omega) h3 h4, if_neg h5, if_neg h6, if_neg h7, if_pos h8, if_neg h9]
                                               exact ⟨_, _, l84, k84, rfl, rfl, rfl⟩)
                                          · try simp only [decide_eq_true_eq, decide_eq_false_iff_not, Bool.not_eq_true', Bool.not_eq_false', Bool.not_true, Bool.not_false, Bool.not_not, ne_eq, Decidable.not_not, Int.not_lt, Int.not_le, gt_iff_lt, ge_iff_le, bool_true_eq_, bool_false_eq_] at h9
                                            first
                                            | (exfalso; omega)
                                            | (skip
                                               refine GC.skip (?_ : GC _ _ _ _)
                                               refine GC.region ?_
                                               refine GL.pure rfl (p_assign rfl) ?_
                                               refine GL.nil (?_ : GC _ _ _ _)
                                               refine GC.seq' ?_
                                               have hB1 := atB (i := o.at_) (n := 1) hv.shp (by omega) (by omega) (by omega)
                                               have hl := hv.lb
                                               have e1 : (o.at_ + 1) * v.sz = o.at_ * v.sz + v.sz := by rw [Int.add_mul, Int.one_mul]
                                               refine GC.regionM (m := 8) (M := fun a w => St c 101 [(0, .pointer (some ⟨p, 0, none⟩)), (2, .int .i64 num), (4, .pointer (some ⟨b_t4, 0, none⟩)), (6, .pointer (some ⟨b_t6, 0, none⟩)), (10, .int .i64 1)] [.cells p [.int .i64 v.bl, .int .i64 v.sz, .slice (some ⟨pb, 0, none⟩) (v.bl * v.sz).toNat (v.bl * v.sz).toNat, .slice (some ⟨pv, 0, none⟩) v.bl.toNat v.bl.toNat, .int .i64 num] 58, .cells pb ((laid v.b (o.at_ * v.sz).toNat o.data).map u8v) 5, .cells pv (v.vs.map (Value.int .i64)) 3, .cells b_t4 [.int .u8 o.kind, .int .i64 o.at_, .int .i64 o.n, .slice A o.data.length cp, .slice B o.old.length cq] 42, .cells b_t6 [.int .u8 0, .slice none 0 0] 49] [Pers.row Kd.u8 A o.data, Pers.row Kd.u8 B o.old] a w) (is := [1, 1, 1, 1]) (js := [0, 1]) wide_ rfl rfl rfl ?_ ?_
                                               · refine GA.take 0 rfl (by kernel_rfl) (by kernel_rfl) (by kernel_rfl) rfl (fun a w h => h.mem (is := [1, 1, 1, 1]) (js := [0, 1]) rfl rfl) (i_pure (p_move rfl)) ?_
                                                 refine GA.take 1 rfl (by kernel_rfl) (by kernel_rfl) (by kernel_rfl) rfl (fun a w h => h.mem (is := [1, 1, 1, 1]) (js := [0, 1]) rfl rfl) (i_pure (p_fieldAddr fo_42_1 rfl)) ?_
                                                 refine GA.take 2 rfl (by kernel_rfl) (by kernel_rfl) (by kernel_rfl) rfl (fun a w h => h.mem (is := [1, 1, 1, 1]) (js := [0, 1]) rfl rfl) (i_mem (m_load (i := 3) rfl rfl ag_3 rfl)) ?_
                                                 refine GA.take 3 rfl (by kernel_rfl) (by kernel_rfl) (by kernel_rfl) rfl (fun a w h => h.mem (is := [1, 1, 1, 1]) (js := [0, 1]) rfl rfl) (i_pure (p_move rfl)) ?_
                                                 refine GA.take 5 rfl (by kernel_rfl) (by kernel_rfl) (by kernel_rfl) rfl (fun a w h => h.mem (is := [1, 1, 1, 1]) (js := [0, 1]) rfl rfl) (i_pure (p_fieldAddr fo_42_3 rfl)) ?_
                                                 refine GA.take 6 rfl (by kernel_rfl) (by kernel_rfl) (by kernel_rfl) rfl (fun a w h => h.mem (is := [1, 1, 1, 1]) (js := [0, 1]) rfl rfl) (i_mem (m_load (i := 3) rfl rfl ag_31 rfl)) ?_
                                                 refine GA.all (rs := [4]) (by kernel_rfl) (by simp) ?_
                                                 refine GAs.cons (i := 4) rfl rfl (t_call rfl fn_29 rfl (is := [1, 0, 0]) (js := []) rfl rfl (by exact at_ct _ _ _ { v with last := num } _ _ hv1 (by omega) (by omega) (by show _ ≤ v.bl; omega))) (by rintro a w ⟨_, _, _, ⟨rfl, rfl, rfl⟩, h⟩; exact h.mem (is := [0, 1, 1, 1]) (js := [0, 1]) rfl rfl) (GA.ret ?_) ?_
                                                 · rintro _ _ _ ⟨rfl, rfl, rfl⟩
                                                   refine GA.all (rs := [7]) (by kernel_rfl) (by simp) ?_
                                                   refine GAs.cons (i := 7) rfl rfl (t_copyB (i := 1) (k := 0) rfl rfl rfl rfl rfl Try.underlying31 sz_5 (by (first | omega | (rw [seg_length (by omega)]; omega) | (rw [seg_length (by dsimp only; omega)]; dsimp only; omega))) (by simp; (first | omega | (rw [seg_length (by omega)]; omega) | (rw [seg_length (by dsimp only; omega)]; dsimp only; omega))) (laid_map _ _ _ _).symm rfl) (by rintro a w h; exact h.mem (is := [0, 1, 1, 1]) (js := [0, 1]) rfl rfl) ?_ ?_
                                                   · exact GA.done (by kernel_rfl) (fun a w h => h.cut (is := [0, 0, 0, 1, 0]) (js := [0, 1]) ⟨rfl, rfl, rfl, rfl, rfl, trivial⟩ rfl rfl)
                                                   exact GAs.nil
                                                 exact GAs.nil
                                               · refine (?_ : GC _ _ _ _)
                                                 refine GC.exit (?_ : GC _ _ _ _)
                                                 refine GC.seq' ?_
                                                 refine GC.region ?_
                                                 have hv2 := hv1.setb (o := (o.at_ * v.sz).toNat) (ys := o.data) (by have := atB hv.shp (i := o.at_) (n := 1) (by omega) (by omega) (by omega); have := hv.lb; have e : (o.at_ + 1) * v.sz = o.at_ * v.sz + 1 * v.sz := Int.add_mul _ _ _; show _ ≤ v.b.length; omega)
                                                 refine GL.pure rfl (p_move rfl) ?_
                                                 refine GL.pure rfl (p_fieldAddr fo_42_1 rfl) ?_
                                                 refine GL.step rfl (t_mem rfl (m_load (i := 3) rfl rfl ag_3 rfl)) ?_
                                                 refine GL.pure rfl (p_move rfl) ?_
                                                 refine GL.pure rfl (p_move rfl) ?_
                                                 refine GL.step rfl (t_call rfl fn_37 rfl (is := [0, 0, 0]) (js := []) rfl rfl (by exact stamp_ct _ _ _ _ _ _ _ hv2 (by omega) (by omega) (by show _ ≤ v.bl; omega))) (GL.ret ?_)
                                                 rintro _ _ _ ⟨rfl, rfl, rfl⟩
                                                 refine GL.nil (?_ : GC _ _ _ _)
                                                 refine GC.seq' ?_
                                                 refine GC.region ?_
                                                 refine GL.pure rfl (p_build ze_49 of_49 rfl rfl) ?_
                                                 refine GL.step rfl (t_storeN (i := 4) rfl rfl rfl sz_49 rfl rfl rfl) ?_
                                                 refine GL.pure rfl (p_assign rfl) ?_
                                                 refine GL.nil (?_ : GC _ _ _ _)
                                                 refine GC.know (q := Pers.row Kd.u8 none []) (fun _ _ _ => .inl rfl) ?_
                                                 refine GC.ret ?_
                                                 refine fun a w h => Fin.back (rs := [.cell 6 49, .tmp 7]) (vs := [_, _]) (is := [0, 0, 0]) (js := [0]) rfl ⟨⟨4, _, _, _, _, rfl, rfl, .inr ⟨[_, _], rfl, ag_49, sz_49, ⟨rfl, rfl, trivial⟩⟩⟩, rfl, trivial⟩ rfl rfl ?_ h
                                                 clear h
                                                 rw [doF_do (by omega) h3 h4, if_neg h5, if_neg h6, if_neg h7, if_pos h8, if_pos h9]
                                                 exact ⟨none, 0, by simp [rz], by simp, rfl, rfl, rfl⟩))
                                     · try simp only [decide_eq_true_eq, decide_eq_false_iff_not, Bool.not_eq_true', Bool.not_eq_false', Bool.not_true, Bool.not_false, Bool.not_not, ne_eq, Decidable.not_not, Int.not_lt, Int.not_le, gt_iff_lt, ge_iff_le, bool_true_eq_, bool_false_eq_] at h8
                                       first
                                       | (exfalso; omega)
                                       | (skip
                                          refine GC.skip (?_ : GC _ _ _ _)
                                          refine GC.exit (?_ : GC _ _ _ _)
                                          refine GC.seq' ?_
                                          have hBn := atB (i := o.at_) (n := o.n) hv.shp (by omega) (by omega) (by omega)
                                          have hl := hv.lb
                                          have en : (o.at_ + o.n) * v.sz = o.at_ * v.sz + o.n * v.sz := Int.add_mul _ _ _
                                          refine GC.regionM (m := 8) (M := fun a w => St c 101 [(0, .pointer (some ⟨p, 0, none⟩)), (2, .int .i64 num), (4, .pointer (some ⟨b_t4, 0, none⟩)), (6, .pointer (some ⟨b_t6, 0, none⟩)), (10, .int .i64 o.n)] [.cells p [.int .i64 v.bl, .int .i64 v.sz, .slice (some ⟨pb, 0, none⟩) (v.bl * v.sz).toNat (v.bl * v.sz).toNat, .slice (some ⟨pv, 0, none⟩) v.bl.toNat v.bl.toNat, .int .i64 num] 58, .cells pb ((laid v.b (o.at_ * v.sz).toNat o.data).map u8v) 5, .cells pv (v.vs.map (Value.int .i64)) 3, .cells b_t4 [.int .u8 o.kind, .int .i64 o.at_, .int .i64 o.n, .slice A o.data.length cp, .slice B o.old.length cq] 42, .cells b_t6 [.int .u8 0, .slice none 0 0] 49] [Pers.row Kd.u8 A o.data, Pers.row Kd.u8 B o.old] a w) (is := [0, 1, 1, 1]) (js := [0, 1]) wide_ rfl rfl rfl ?_ ?_
                                          · refine GA.take 0 rfl (by kernel_rfl) (by kernel_rfl) (by kernel_rfl) rfl (fun a w h => h.mem (is := [0, 1, 1, 1]) (js := [0, 1]) rfl rfl) (i_pure (p_move rfl)) ?_
                                            refine GA.take 1 rfl (by kernel_rfl) (by kernel_rfl) (by kernel_rfl) rfl (fun a w h => h.mem (is := [0, 1, 1, 1]) (js := [0, 1]) rfl rfl) (i_pure (p_fieldAddr fo_42_1 rfl)) ?_
                                            refine GA.take 2 rfl (by kernel_rfl) (by kernel_rfl) (by kernel_rfl) rfl (fun a w h => h.mem (is := [0, 1, 1, 1]) (js := [0, 1]) rfl rfl) (i_mem (m_load (i := 3) rfl rfl ag_3 rfl)) ?_
                                            refine GA.take 3 rfl (by kernel_rfl) (by kernel_rfl) (by kernel_rfl) rfl (fun a w h => h.mem (is := [0, 1, 1, 1]) (js := [0, 1]) rfl rfl) (i_pure (p_move rfl)) ?_
                                            refine GA.take 5 rfl (by kernel_rfl) (by kernel_rfl) (by kernel_rfl) rfl (fun a w h => h.mem (is := [0, 1, 1, 1]) (js := [0, 1]) rfl rfl) (i_pure (p_fieldAddr fo_42_3 rfl)) ?_
                                            refine GA.take 6 rfl (by kernel_rfl) (by kernel_rfl) (by kernel_rfl) rfl (fun a w h => h.mem (is := [0, 1, 1, 1]) (js := [0, 1]) rfl rfl) (i_mem (m_load (i := 3) rfl rfl ag_31 rfl)) ?_
                                            refine GA.all (rs := [4]) (by kernel_rfl) (by simp) ?_
                                            refine GAs.cons (i := 4) rfl rfl (t_call rfl fn_29 rfl (is := [0, 0, 0]) (js := []) rfl rfl (by exact at_ct _ _ _ { v with last := num } _ _ hv1 (by omega) (by omega) (by show _ ≤ v.bl; omega))) (by rintro a w ⟨_, _, _, ⟨rfl, rfl, rfl⟩, h⟩; exact h.mem (is := [0, 1, 1, 1]) (js := [0, 1]) rfl rfl) (GA.ret ?_) ?_
                                            · rintro _ _ _ ⟨rfl, rfl, rfl⟩
                                              refine GA.all (rs := [7]) (by kernel_rfl) (by simp) ?_
                                              refine GAs.cons (i := 7) rfl rfl (t_copyB (i := 1) (k := 0) rfl rfl rfl rfl rfl Try.underlying31 sz_5 (by (first | omega | (rw [seg_length (by omega)]; omega) | (rw [seg_length (by dsimp only; omega)]; dsimp only; omega))) (by simp; (first | omega | (rw [seg_length (by omega)]; omega) | (rw [seg_length (by dsimp only; omega)]; dsimp only; omega))) (laid_map _ _ _ _).symm rfl) (by rintro a w h; exact h.mem (is := [0, 1, 1, 1]) (js := [0, 1]) rfl rfl) ?_ ?_
                                              · exact GA.done (by kernel_rfl) (fun a w h => h.cut (is := [0, 0, 0, 1, 0]) (js := [0, 1]) ⟨rfl, rfl, rfl, rfl, rfl, trivial⟩ rfl rfl)
                                              exact GAs.nil
                                            exact GAs.nil
                                          · refine (?_ : GC _ _ _ _)
                                            refine GC.exit (?_ : GC _ _ _ _)
                                            refine GC.seq' ?_
                                            refine GC.region ?_
                                            have hv2 := hv1.setb (o := (o.at_ * v.sz).toNat) (ys := o.data) (by have := atB hv.shp (i := o.at_) (n := o.n) (by omega) (by omega) (by omega); have := hv.lb; have e : (o.at_ + o.n) * v.sz = o.at_ * v.sz + o.n * v.sz := Int.add_mul _ _ _; show _ ≤ v.b.length; omega)
                                            refine GL.pure rfl (p_move rfl) ?_
                                            refine GL.pure rfl (p_fieldAddr fo_42_1 rfl) ?_
                                            refine GL.step rfl (t_mem rfl (m_load (i := 3) rfl rfl ag_3 rfl)) ?_
                                            refine GL.pure rfl (p_move rfl) ?_
                                            refine GL.pure rfl (p_move rfl) ?_
                                            refine GL.step rfl (t_call rfl fn_37 rfl (is := [0, 0, 0]) (js := []) rfl rfl (by exact stamp_ct _ _ _ _ _ _ _ hv2 (by omega) (by omega) (by show _ ≤ v.bl; omega))) (GL.ret ?_)
                                            rintro _ _ _ ⟨rfl, rfl, rfl⟩
                                            refine GL.nil (?_ : GC _ _ _ _)
                                            refine GC.seq' ?_
                                            refine GC.region ?_
                                            refine GL.pure rfl (p_build ze_49 of_49 rfl rfl) ?_
                                            refine GL.step rfl (t_storeN (i := 4) rfl rfl rfl sz_49 rfl rfl rfl) ?_
                                            refine GL.pure rfl (p_assign rfl) ?_
                                            refine GL.nil (?_ : GC _ _ _ _)
                                            refine GC.know (q := Pers.row Kd.u8 none []) (fun _ _ _ => .inl rfl) ?_
                                            refine GC.ret ?_
                                            refine fun a w h => Fin.back (rs := [.cell 6 49, .tmp 7]) (vs := [_, _]) (is := [0, 0, 0]) (js := [0]) rfl ⟨⟨4, _, _, _, _, rfl, rfl, .inr ⟨[_, _], rfl, ag_49, sz_49, ⟨rfl, rfl, trivial⟩⟩⟩, rfl, trivial⟩ rfl rfl ?_ h
                                            clear h
                                            rw [doF_do (by omega) h3 h4, if_neg h5, if_neg h6, if_neg h7, if_neg h8]
                                            exact ⟨none, 0, by simp [rz], by simp, rfl, rfl, rfl⟩))))))))
end Go.Proofs.Ytihhpkbbhfcdcaa
