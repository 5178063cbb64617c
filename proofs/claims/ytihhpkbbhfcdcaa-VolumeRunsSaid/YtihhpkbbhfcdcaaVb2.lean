/- THE VOLUME: contracts of its functions: bytes, the blocks in place, the versions, a new volume. -/
import Derived.Test.YtihhpkbbhfcdcaaVb1
set_option linter.unusedVariables false
set_option linter.unusedSimpArgs false
set_option maxRecDepth 100000
namespace Go.Proofs.Ytihhpkbbhfcdcaa
open Go Go.Sx Go.Proofs

theorem fitR_ct (bl sz kind a_ n : Int) (A : Option Addr) (dl cp : Nat) (B : Option Addr) (ol cq : Nat) (hdl : dl ≤ 140737488355328) (hol : ol ≤ 140737488355328) : Ct Try.prog 45 [shpV bl sz, opV kind a_ n A dl cp B ol cq] [] [] (fun v G Q => v = .tuple #[.int .u8 (fitF bl sz kind a_ n dl ol).1, .int .i64 (fitF bl sz kind a_ n dl ol).2] ∧ G = [] ∧ Q = []) := by
  refine Ct.intro Try.func45 rfl rfl rfl (fun c hc => ?_)
  refine GC.seq' ?_
  refine GC.region ?_
  refine GL.step rfl (t_box rfl rfl rfl) (GL.ex fun b_t2 => ?_)
  refine GL.step rfl (t_box rfl rfl rfl) (GL.ex fun b_t3 => ?_)
  refine GL.pure rfl (p_assign rfl) ?_
  refine GL.pure rfl (p_assign rfl) ?_
  refine GL.nil (?_ : GC _ _ _ _)
  refine GC.seq' ?_
  refine GC.region ?_
  refine GL.step rfl (t_mem rfl (m_loadN (i := 1) rfl rfl ag_23 (vs := [_, _]) sz_23 ⟨rfl, rfl, trivial⟩)) ?_
  refine GL.step rfl (t_call rfl fn_10 rfl (is := []) (js := []) rfl rfl (by exact shapeR_ct _ _)) (GL.ret ?_)
  rintro _ _ _ ⟨rfl, rfl, rfl⟩
  refine GL.pure rfl (p_assign rfl) ?_
  refine GL.nil (?_ : GC _ _ _ _)
  refine GC.seq' ?_
  refine GC.seq' ?_
  refine GC.region ?_
  refine GL.pure rfl (p_move rfl) ?_
  refine GL.pure rfl (p_eql rfl rfl) ?_
  refine GL.nil (?_ : GC _ _ _ _)
  refine GC.cond rfl (fun h1 => ?_) (fun h1 => ?_)
  · try simp only [decide_eq_true_eq, decide_eq_false_iff_not, Bool.not_eq_true', Bool.not_eq_false', Bool.not_true, Bool.not_false, Bool.not_not, ne_eq, Decidable.not_not, Int.not_lt, Int.not_le, gt_iff_lt, ge_iff_le, bool_true_eq_, bool_false_eq_] at h1
    first
    | (exfalso; first | omega | (simp only [chgP, decide_eq_true_eq, decide_eq_false_iff_not] at h1; omega))
    | (skip
       refine GC.region ?_
       refine GL.step rfl (t_mem rfl (m_loadN (i := 0) rfl rfl ag_42 (vs := [_, _, _, _, _]) sz_42 ⟨rfl, rfl, rfl, rfl, rfl, trivial⟩)) ?_
       refine GL.step rfl (t_call rfl fn_53 rfl (is := []) (js := []) rfl rfl (by exact formR_ct _ _ _ _ _ _ _ _ _ (by first | assumption | omega) (by first | assumption | omega))) (GL.ret ?_)
       rintro _ _ _ ⟨rfl, rfl, rfl⟩
       refine GL.pure rfl (p_assign rfl) ?_
       refine GL.nil (?_ : GC _ _ _ _)
       refine GC.seq' ?_
       refine GC.seq' ?_
       refine GC.region ?_
       refine GL.pure rfl (p_move rfl) ?_
       refine GL.pure rfl (p_neq rfl rfl) ?_
       refine GL.nil (?_ : GC _ _ _ _)
       refine GC.cond rfl (fun h2 => ?_) (fun h2 => ?_)
       · try simp only [decide_eq_true_eq, decide_eq_false_iff_not, Bool.not_eq_true', Bool.not_eq_false', Bool.not_true, Bool.not_false, Bool.not_not, ne_eq, Decidable.not_not, Int.not_lt, Int.not_le, gt_iff_lt, ge_iff_le, bool_true_eq_, bool_false_eq_] at h2
         first
         | (exfalso; first | omega | (simp only [chgP, decide_eq_true_eq, decide_eq_false_iff_not] at h2; omega))
         | (skip
            refine GC.seq' ?_
            refine GC.region ?_
            refine GL.pure rfl (p_move rfl) ?_
            refine GL.pure rfl (p_assign rfl) ?_
            refine GL.pure rfl (p_assign rfl) ?_
            refine GL.nil (?_ : GC _ _ _ _)
            refine GC.ret ?_
            refine fun a w h => Fin.back (rs := [.tmp 4, .tmp 5]) (vs := [_, _]) (is := []) (js := []) rfl ⟨rfl, rfl, trivial⟩ rfl rfl ?_ h
            clear h
            refine ⟨tup2 ?_, rfl, rfl⟩
            have g1 := (shapeE_iff bl sz).1 h1
            have g2 : ¬ formP kind a_ n dl ol := fun g => h2 ((formE_iff kind a_ n dl ol).2 g)
            simp [fitF, formE, g1, g2])
       · try simp only [decide_eq_true_eq, decide_eq_false_iff_not, Bool.not_eq_true', Bool.not_eq_false', Bool.not_true, Bool.not_false, Bool.not_not, ne_eq, Decidable.not_not, Int.not_lt, Int.not_le, gt_iff_lt, ge_iff_le, bool_true_eq_, bool_false_eq_] at h2
         first
         | (exfalso; first | omega | (simp only [chgP, decide_eq_true_eq, decide_eq_false_iff_not] at h2; omega))
         | (skip
            refine GC.skip (?_ : GC _ _ _ _)
            refine GC.seq' ?_
            refine GC.seq' ?_
            refine GC.region ?_
            have g1 := (shapeE_iff _ _).1 h1
            have g2 := (formE_iff _ _ _ _ _).1 (by assumption)
            have k1 := g1
            have k2 := g2
            simp only [shapeOk] at k1
            simp only [formP, bareP] at k2
            refine GL.pure rfl (p_fieldAddr fo_42_0 rfl) ?_
            refine GL.step rfl (t_mem rfl (m_load (i := 0) rfl rfl ag_40 rfl)) ?_
            refine GL.nil (?_ : GC _ _ _ _)
            refine GC.block ?_
            refine GC.seq' ?_
            refine GC.region ?_
            refine GL.pure rfl (p_eql rfl rfl) ?_
            refine GL.pure rfl (p_assign rfl) ?_
            refine GL.nil (?_ : GC _ _ _ _)
            refine GC.cond rfl (fun h3 => ?_) (fun h3 => ?_)
            · try simp only [decide_eq_true_eq, decide_eq_false_iff_not, Bool.not_eq_true', Bool.not_eq_false', Bool.not_true, Bool.not_false, Bool.not_not, ne_eq, Decidable.not_not, Int.not_lt, Int.not_le, gt_iff_lt, ge_iff_le, bool_true_eq_, bool_false_eq_] at h3
              first
              | (exfalso; first | omega | (simp only [chgP, decide_eq_true_eq, decide_eq_false_iff_not] at h3; omega))
              | (skip
                 refine GC.seq' ?_
                 refine GC.region ?_
                 refine GL.pure rfl (p_assign rfl) ?_
                 refine GL.pure rfl (p_assign rfl) ?_
                 refine GL.nil (?_ : GC _ _ _ _)
                 refine GC.ret ?_
                 refine fun a w h => Fin.back (rs := [.tmp 4, .tmp 5]) (vs := [_, _]) (is := []) (js := []) rfl ⟨rfl, rfl, trivial⟩ rfl rfl ?_ h
                 clear h
                 refine ⟨tup2 ?_, rfl, rfl⟩
                 first
                 | (have g1 : ¬ shapeOk bl sz := fun g => h1 ((shapeE_iff bl sz).2 g)
                    simp [fitF, shapeE, g1]
                    done)
                 | (unfold fitF
                    rw [if_neg (fun g => g g1), if_neg (fun g => g g2)]
                    try simp only [chgP, decide_eq_true_eq, decide_eq_false_iff_not] at *
                    (iterate 8 all_goals try split) <;> first | rfl | (exfalso; omega)))
            · try simp only [decide_eq_true_eq, decide_eq_false_iff_not, Bool.not_eq_true', Bool.not_eq_false', Bool.not_true, Bool.not_false, Bool.not_not, ne_eq, Decidable.not_not, Int.not_lt, Int.not_le, gt_iff_lt, ge_iff_le, bool_true_eq_, bool_false_eq_] at h3
              first
              | (exfalso; first | omega | (simp only [chgP, decide_eq_true_eq, decide_eq_false_iff_not] at h3; omega))
              | (skip
                 refine GC.seq' ?_
                 refine GC.region ?_
                 refine GL.pure rfl (p_eql rfl rfl) ?_
                 refine GL.pure rfl (p_assign rfl) ?_
                 refine GL.nil (?_ : GC _ _ _ _)
                 refine GC.cond rfl (fun h4 => ?_) (fun h4 => ?_)
                 · try simp only [decide_eq_true_eq, decide_eq_false_iff_not, Bool.not_eq_true', Bool.not_eq_false', Bool.not_true, Bool.not_false, Bool.not_not, ne_eq, Decidable.not_not, Int.not_lt, Int.not_le, gt_iff_lt, ge_iff_le, bool_true_eq_, bool_false_eq_] at h4
                   first
                   | (exfalso; first | omega | (simp only [chgP, decide_eq_true_eq, decide_eq_false_iff_not] at h4; omega))
                   | (skip
                      refine GC.seq' ?_
                      refine GC.seq' ?_
                      refine GC.region ?_
                      refine GL.pure rfl (p_fieldAddr fo_42_1 rfl) ?_
                      refine GL.step rfl (t_mem rfl (m_load (i := 0) rfl rfl ag_3 rfl)) ?_
                      refine GL.pure rfl (p_fieldAddr fo_23_0 rfl) ?_
                      refine GL.step rfl (t_mem rfl (m_load (i := 1) rfl rfl ag_3 rfl)) ?_
                      refine GL.pure rfl (p_geq rfl rfl) ?_
                      refine GL.nil (?_ : GC _ _ _ _)
                      refine GC.cond rfl (fun h5 => ?_) (fun h5 => ?_)
                      · try simp only [decide_eq_true_eq, decide_eq_false_iff_not, Bool.not_eq_true', Bool.not_eq_false', Bool.not_true, Bool.not_false, Bool.not_not, ne_eq, Decidable.not_not, Int.not_lt, Int.not_le, gt_iff_lt, ge_iff_le, bool_true_eq_, bool_false_eq_] at h5
                        first
                        | (exfalso; first | omega | (simp only [chgP, decide_eq_true_eq, decide_eq_false_iff_not] at h5; omega))
                        | (skip
                           refine GC.seq' ?_
                           refine GC.region ?_
                           refine GL.pure rfl (p_assign rfl) ?_
                           refine GL.pure rfl (p_assign rfl) ?_
                           refine GL.nil (?_ : GC _ _ _ _)
                           refine GC.ret ?_
                           refine fun a w h => Fin.back (rs := [.tmp 4, .tmp 5]) (vs := [_, _]) (is := []) (js := []) rfl ⟨rfl, rfl, trivial⟩ rfl rfl ?_ h
                           clear h
                           refine ⟨tup2 ?_, rfl, rfl⟩
                           first
                           | (have g1 : ¬ shapeOk bl sz := fun g => h1 ((shapeE_iff bl sz).2 g)
                              simp [fitF, shapeE, g1]
                              done)
                           | (unfold fitF
                              rw [if_neg (fun g => g g1), if_neg (fun g => g g2)]
                              try simp only [chgP, decide_eq_true_eq, decide_eq_false_iff_not] at *
                              (iterate 8 all_goals try split) <;> first | rfl | (exfalso; omega)))
                      · try simp only [decide_eq_true_eq, decide_eq_false_iff_not, Bool.not_eq_true', Bool.not_eq_false', Bool.not_true, Bool.not_false, Bool.not_not, ne_eq, Decidable.not_not, Int.not_lt, Int.not_le, gt_iff_lt, ge_iff_le, bool_true_eq_, bool_false_eq_] at h5
                        first
                        | (exfalso; first | omega | (simp only [chgP, decide_eq_true_eq, decide_eq_false_iff_not] at h5; omega))
                        | (skip
                           refine GC.skip (?_ : GC _ _ _ _)
                           refine GC.seq' ?_
                           refine GC.seq' ?_
                           refine GC.region ?_
                           refine GL.pure rfl (p_fieldAddr fo_42_3 rfl) ?_
                           refine GL.step rfl (t_mem rfl (m_load (i := 0) rfl rfl ag_31 rfl)) ?_
                           refine GL.pure rfl (p_len Try.underlying31 rfl) ?_
                           refine GL.pure rfl (p_fieldAddr fo_23_1 rfl) ?_
                           refine GL.step rfl (t_mem rfl (m_load (i := 1) rfl rfl ag_3 rfl)) ?_
                           refine GL.pure rfl (p_neq rfl rfl) ?_
                           refine GL.pure rfl (p_move rfl) ?_
                           refine GL.split (i := 33) rfl (fun h6 => ?_) (fun h6 => ?_)
                           · try simp only [decide_eq_true_eq, decide_eq_false_iff_not, Bool.not_eq_true', Bool.not_eq_false', Bool.not_true, Bool.not_false, Bool.not_not, ne_eq, Decidable.not_not, Int.not_lt, Int.not_le, gt_iff_lt, ge_iff_le, bool_true_eq_, bool_false_eq_] at h6
                             first
                             | (exfalso; first | omega | (simp only [chgP, decide_eq_true_eq, decide_eq_false_iff_not] at h6; omega))
                             | (skip
                                refine GL.pass (s := 33) rfl rfl rfl ?_
                                refine GL.pass (s := 33) rfl rfl rfl ?_
                                refine GL.pass (s := 33) rfl rfl rfl ?_
                                refine GL.pass (s := 33) rfl rfl rfl ?_
                                refine GL.pass (s := 33) rfl rfl rfl ?_
                                refine GL.pass (s := 33) rfl rfl rfl ?_
                                refine GL.pure rfl (p_pick_true rfl rfl) ?_
                                refine GL.nil (?_ : GC _ _ _ _)
                                refine GC.cond_true rfl ?_
                                refine GC.seq' ?_
                                refine GC.region ?_
                                refine GL.pure rfl (p_assign rfl) ?_
                                refine GL.pure rfl (p_assign rfl) ?_
                                refine GL.nil (?_ : GC _ _ _ _)
                                refine GC.ret ?_
                                refine fun a w h => Fin.back (rs := [.tmp 4, .tmp 5]) (vs := [_, _]) (is := []) (js := []) rfl ⟨rfl, rfl, trivial⟩ rfl rfl ?_ h
                                clear h
                                refine ⟨tup2 ?_, rfl, rfl⟩
                                first
                                | (have g1 : ¬ shapeOk bl sz := fun g => h1 ((shapeE_iff bl sz).2 g)
                                   simp [fitF, shapeE, g1]
                                   done)
                                | (unfold fitF
                                   rw [if_neg (fun g => g g1), if_neg (fun g => g g2)]
                                   try simp only [chgP, decide_eq_true_eq, decide_eq_false_iff_not] at *
                                   (iterate 8 all_goals try split) <;> first | rfl | (exfalso; omega)))
                           · try simp only [decide_eq_true_eq, decide_eq_false_iff_not, Bool.not_eq_true', Bool.not_eq_false', Bool.not_true, Bool.not_false, Bool.not_not, ne_eq, Decidable.not_not, Int.not_lt, Int.not_le, gt_iff_lt, ge_iff_le, bool_true_eq_, bool_false_eq_] at h6
                             first
                             | (exfalso; first | omega | (simp only [chgP, decide_eq_true_eq, decide_eq_false_iff_not] at h6; omega))
                             | (skip
                                refine GL.pureG (s := 33) rfl rfl rfl (p_fieldAddr fo_42_4 rfl) ?_
                                refine GL.stepG rfl (s := 33) rfl rfl (t_mem rfl (m_load (i := 0) rfl rfl ag_31 rfl)) ?_
                                refine GL.pureG (s := 33) rfl rfl rfl (p_len Try.underlying31 rfl) ?_
                                refine GL.pureG (s := 33) rfl rfl rfl (p_fieldAddr fo_23_1 rfl) ?_
                                refine GL.stepG rfl (s := 33) rfl rfl (t_mem rfl (m_load (i := 1) rfl rfl ag_3 rfl)) ?_
                                refine GL.pureG (s := 33) rfl rfl rfl (p_neq rfl rfl) ?_
                                refine GL.pure rfl (p_pick_false rfl rfl) ?_
                                refine GL.nil (?_ : GC _ _ _ _)
                                refine GC.cond rfl (fun h7 => ?_) (fun h7 => ?_)
                                · try simp only [decide_eq_true_eq, decide_eq_false_iff_not, Bool.not_eq_true', Bool.not_eq_false', Bool.not_true, Bool.not_false, Bool.not_not, ne_eq, Decidable.not_not, Int.not_lt, Int.not_le, gt_iff_lt, ge_iff_le, bool_true_eq_, bool_false_eq_] at h7
                                  first
                                  | (exfalso; first | omega | (simp only [chgP, decide_eq_true_eq, decide_eq_false_iff_not] at h7; omega))
                                  | (skip
                                     refine GC.seq' ?_
                                     refine GC.region ?_
                                     refine GL.pure rfl (p_assign rfl) ?_
                                     refine GL.pure rfl (p_assign rfl) ?_
                                     refine GL.nil (?_ : GC _ _ _ _)
                                     refine GC.ret ?_
                                     refine fun a w h => Fin.back (rs := [.tmp 4, .tmp 5]) (vs := [_, _]) (is := []) (js := []) rfl ⟨rfl, rfl, trivial⟩ rfl rfl ?_ h
                                     clear h
                                     refine ⟨tup2 ?_, rfl, rfl⟩
                                     first
                                     | (have g1 : ¬ shapeOk bl sz := fun g => h1 ((shapeE_iff bl sz).2 g)
                                        simp [fitF, shapeE, g1]
                                        done)
                                     | (unfold fitF
                                        rw [if_neg (fun g => g g1), if_neg (fun g => g g2)]
                                        try simp only [chgP, decide_eq_true_eq, decide_eq_false_iff_not] at *
                                        (iterate 8 all_goals try split) <;> first | rfl | (exfalso; omega)))
                                · try simp only [decide_eq_true_eq, decide_eq_false_iff_not, Bool.not_eq_true', Bool.not_eq_false', Bool.not_true, Bool.not_false, Bool.not_not, ne_eq, Decidable.not_not, Int.not_lt, Int.not_le, gt_iff_lt, ge_iff_le, bool_true_eq_, bool_false_eq_] at h7
                                  first
                                  | (exfalso; first | omega | (simp only [chgP, decide_eq_true_eq, decide_eq_false_iff_not] at h7; omega))
                                  | (skip
                                     refine GC.skip (?_ : GC _ _ _ _)
                                     refine GC.seq' ?_
                                     refine GC.region ?_
                                     refine GL.pure rfl (p_assign rfl) ?_
                                     refine GL.pure rfl (p_assign rfl) ?_
                                     refine GL.nil (?_ : GC _ _ _ _)
                                     refine GC.ret ?_
                                     refine fun a w h => Fin.back (rs := [.tmp 4, .tmp 5]) (vs := [_, _]) (is := []) (js := []) rfl ⟨rfl, rfl, trivial⟩ rfl rfl ?_ h
                                     clear h
                                     refine ⟨tup2 ?_, rfl, rfl⟩
                                     first
                                     | (have g1 : ¬ shapeOk bl sz := fun g => h1 ((shapeE_iff bl sz).2 g)
                                        simp [fitF, shapeE, g1]
                                        done)
                                     | (unfold fitF
                                        rw [if_neg (fun g => g g1), if_neg (fun g => g g2)]
                                        try simp only [chgP, decide_eq_true_eq, decide_eq_false_iff_not] at *
                                        (iterate 8 all_goals try split) <;> first | rfl | (exfalso; omega))))))
                 · try simp only [decide_eq_true_eq, decide_eq_false_iff_not, Bool.not_eq_true', Bool.not_eq_false', Bool.not_true, Bool.not_false, Bool.not_not, ne_eq, Decidable.not_not, Int.not_lt, Int.not_le, gt_iff_lt, ge_iff_le, bool_true_eq_, bool_false_eq_] at h4
                   first
                   | (exfalso; first | omega | (simp only [chgP, decide_eq_true_eq, decide_eq_false_iff_not] at h4; omega))
                   | (skip
                      refine GC.skip (?_ : GC _ _ _ _)
                      refine GC.seq' ?_
                      refine GC.seq' ?_
                      refine GC.region ?_
                      refine GL.pure rfl (p_fieldAddr fo_42_2 rfl) ?_
                      refine GL.step rfl (t_mem rfl (m_load (i := 0) rfl rfl ag_3 rfl)) ?_
                      refine GL.pure rfl (p_lss rfl rfl) ?_
                      refine GL.pure rfl (p_move rfl) ?_
                      refine GL.split (i := 44) rfl (fun h8 => ?_) (fun h8 => ?_)
                      · try simp only [decide_eq_true_eq, decide_eq_false_iff_not, Bool.not_eq_true', Bool.not_eq_false', Bool.not_true, Bool.not_false, Bool.not_not, ne_eq, Decidable.not_not, Int.not_lt, Int.not_le, gt_iff_lt, ge_iff_le, bool_true_eq_, bool_false_eq_] at h8
                        first
                        | (exfalso; first | omega | (simp only [chgP, decide_eq_true_eq, decide_eq_false_iff_not] at h8; omega))
                        | (skip
                           refine GL.pass (s := 44) rfl rfl rfl ?_
                           refine GL.pass (s := 44) rfl rfl rfl ?_
                           refine GL.pass (s := 44) rfl rfl rfl ?_
                           refine GL.pure rfl (p_pick_true rfl rfl) ?_
                           refine GL.pure rfl (p_move rfl) ?_
                           refine GL.pass (s := 49) rfl rfl rfl ?_
                           refine GL.pass (s := 49) rfl rfl rfl ?_
                           refine GL.pass (s := 49) rfl rfl rfl ?_
                           refine GL.pass (s := 49) rfl rfl rfl ?_
                           refine GL.pass (s := 49) rfl rfl rfl ?_
                           refine GL.pass (s := 49) rfl rfl rfl ?_
                           refine GL.pass (s := 49) rfl rfl rfl ?_
                           refine GL.pass (s := 49) rfl rfl rfl ?_
                           refine GL.pure rfl (p_pick_true rfl rfl) ?_
                           refine GL.nil (?_ : GC _ _ _ _)
                           refine GC.cond_true rfl ?_
                           refine GC.seq' ?_
                           refine GC.region ?_
                           refine GL.pure rfl (p_assign rfl) ?_
                           refine GL.pure rfl (p_assign rfl) ?_
                           refine GL.nil (?_ : GC _ _ _ _)
                           refine GC.ret ?_
                           refine fun a w h => Fin.back (rs := [.tmp 4, .tmp 5]) (vs := [_, _]) (is := []) (js := []) rfl ⟨rfl, rfl, trivial⟩ rfl rfl ?_ h
                           clear h
                           refine ⟨tup2 ?_, rfl, rfl⟩
                           first
                           | (have g1 : ¬ shapeOk bl sz := fun g => h1 ((shapeE_iff bl sz).2 g)
                              simp [fitF, shapeE, g1]
                              done)
                           | (unfold fitF
                              rw [if_neg (fun g => g g1), if_neg (fun g => g g2)]
                              try simp only [chgP, decide_eq_true_eq, decide_eq_false_iff_not] at *
                              (iterate 8 all_goals try split) <;> first | rfl | (exfalso; omega)))
                      · try simp only [decide_eq_true_eq, decide_eq_false_iff_not, Bool.not_eq_true', Bool.not_eq_false', Bool.not_true, Bool.not_false, Bool.not_not, ne_eq, Decidable.not_not, Int.not_lt, Int.not_le, gt_iff_lt, ge_iff_le, bool_true_eq_, bool_false_eq_] at h8
                        first
                        | (exfalso; first | omega | (simp only [chgP, decide_eq_true_eq, decide_eq_false_iff_not] at h8; omega))
                        | (skip
                           refine GL.pureG (s := 44) rfl rfl rfl (p_fieldAddr fo_42_2 rfl) ?_
                           refine GL.stepG rfl (s := 44) rfl rfl (t_mem rfl (m_load (i := 0) rfl rfl ag_3 rfl)) ?_
                           refine GL.pureG (s := 44) rfl rfl rfl (p_gtr rfl rfl) ?_
                           refine GL.pure rfl (p_pick_false rfl rfl) ?_
                           refine GL.pure rfl (p_move rfl) ?_
                           refine GL.split (i := 49) rfl (fun h9 => ?_) (fun h9 => ?_)
                           · try simp only [decide_eq_true_eq, decide_eq_false_iff_not, Bool.not_eq_true', Bool.not_eq_false', Bool.not_true, Bool.not_false, Bool.not_not, ne_eq, Decidable.not_not, Int.not_lt, Int.not_le, gt_iff_lt, ge_iff_le, bool_true_eq_, bool_false_eq_] at h9
                             first
                             | (exfalso; first | omega | (simp only [chgP, decide_eq_true_eq, decide_eq_false_iff_not] at h9; omega))
                             | (skip
                                refine GL.pass (s := 49) rfl rfl rfl ?_
                                refine GL.pass (s := 49) rfl rfl rfl ?_
                                refine GL.pass (s := 49) rfl rfl rfl ?_
                                refine GL.pass (s := 49) rfl rfl rfl ?_
                                refine GL.pass (s := 49) rfl rfl rfl ?_
                                refine GL.pass (s := 49) rfl rfl rfl ?_
                                refine GL.pass (s := 49) rfl rfl rfl ?_
                                refine GL.pass (s := 49) rfl rfl rfl ?_
                                refine GL.pure rfl (p_pick_true rfl rfl) ?_
                                refine GL.nil (?_ : GC _ _ _ _)
                                refine GC.cond_true rfl ?_
                                refine GC.seq' ?_
                                refine GC.region ?_
                                refine GL.pure rfl (p_assign rfl) ?_
                                refine GL.pure rfl (p_assign rfl) ?_
                                refine GL.nil (?_ : GC _ _ _ _)
                                refine GC.ret ?_
                                refine fun a w h => Fin.back (rs := [.tmp 4, .tmp 5]) (vs := [_, _]) (is := []) (js := []) rfl ⟨rfl, rfl, trivial⟩ rfl rfl ?_ h
                                clear h
                                refine ⟨tup2 ?_, rfl, rfl⟩
                                first
                                | (have g1 : ¬ shapeOk bl sz := fun g => h1 ((shapeE_iff bl sz).2 g)
                                   simp [fitF, shapeE, g1]
                                   done)
                                | (unfold fitF
                                   rw [if_neg (fun g => g g1), if_neg (fun g => g g2)]
                                   try simp only [chgP, decide_eq_true_eq, decide_eq_false_iff_not] at *
                                   (iterate 8 all_goals try split) <;> first | rfl | (exfalso; omega)))
                           · try simp only [decide_eq_true_eq, decide_eq_false_iff_not, Bool.not_eq_true', Bool.not_eq_false', Bool.not_true, Bool.not_false, Bool.not_not, ne_eq, Decidable.not_not, Int.not_lt, Int.not_le, gt_iff_lt, ge_iff_le, bool_true_eq_, bool_false_eq_] at h9
                             first
                             | (exfalso; first | omega | (simp only [chgP, decide_eq_true_eq, decide_eq_false_iff_not] at h9; omega))
                             | (skip
                                refine GL.pureG (s := 49) rfl rfl rfl (p_fieldAddr fo_42_1 rfl) ?_
                                refine GL.stepG rfl (s := 49) rfl rfl (t_mem rfl (m_load (i := 0) rfl rfl ag_3 rfl)) ?_
                                refine GL.pureG (s := 49) rfl rfl rfl (p_fieldAddr fo_23_0 rfl) ?_
                                refine GL.stepG rfl (s := 49) rfl rfl (t_mem rfl (m_load (i := 1) rfl rfl ag_3 rfl)) ?_
                                refine GL.pureG (s := 49) rfl rfl rfl (p_fieldAddr fo_42_2 rfl) ?_
                                refine GL.stepG rfl (s := 49) rfl rfl (t_mem rfl (m_load (i := 0) rfl rfl ag_3 rfl)) ?_
                                refine GL.pureG (s := 49) rfl rfl rfl (p_sub rfl rfl (w64 (by omega) (by omega))) ?_
                                refine GL.pureG (s := 49) rfl rfl rfl (p_gtr rfl rfl) ?_
                                refine GL.pure rfl (p_pick_false rfl rfl) ?_
                                refine GL.nil (?_ : GC _ _ _ _)
                                refine GC.cond rfl (fun h10 => ?_) (fun h10 => ?_)
                                · try simp only [decide_eq_true_eq, decide_eq_false_iff_not, Bool.not_eq_true', Bool.not_eq_false', Bool.not_true, Bool.not_false, Bool.not_not, ne_eq, Decidable.not_not, Int.not_lt, Int.not_le, gt_iff_lt, ge_iff_le, bool_true_eq_, bool_false_eq_] at h10
                                  first
                                  | (exfalso; first | omega | (simp only [chgP, decide_eq_true_eq, decide_eq_false_iff_not] at h10; omega))
                                  | (skip
                                     refine GC.seq' ?_
                                     refine GC.region ?_
                                     refine GL.pure rfl (p_assign rfl) ?_
                                     refine GL.pure rfl (p_assign rfl) ?_
                                     refine GL.nil (?_ : GC _ _ _ _)
                                     refine GC.ret ?_
                                     refine fun a w h => Fin.back (rs := [.tmp 4, .tmp 5]) (vs := [_, _]) (is := []) (js := []) rfl ⟨rfl, rfl, trivial⟩ rfl rfl ?_ h
                                     clear h
                                     refine ⟨tup2 ?_, rfl, rfl⟩
                                     first
                                     | (have g1 : ¬ shapeOk bl sz := fun g => h1 ((shapeE_iff bl sz).2 g)
                                        simp [fitF, shapeE, g1]
                                        done)
                                     | (unfold fitF
                                        rw [if_neg (fun g => g g1), if_neg (fun g => g g2)]
                                        try simp only [chgP, decide_eq_true_eq, decide_eq_false_iff_not] at *
                                        (iterate 8 all_goals try split) <;> first | rfl | (exfalso; omega)))
                                · try simp only [decide_eq_true_eq, decide_eq_false_iff_not, Bool.not_eq_true', Bool.not_eq_false', Bool.not_true, Bool.not_false, Bool.not_not, ne_eq, Decidable.not_not, Int.not_lt, Int.not_le, gt_iff_lt, ge_iff_le, bool_true_eq_, bool_false_eq_] at h10
                                  first
                                  | (exfalso; first | omega | (simp only [chgP, decide_eq_true_eq, decide_eq_false_iff_not] at h10; omega))
                                  | (skip
                                     refine GC.skip (?_ : GC _ _ _ _)
                                     refine GC.seq' ?_
                                     refine GC.seq' ?_
                                     refine GC.region ?_
                                     refine GL.pure rfl (p_fieldAddr fo_42_0 rfl) ?_
                                     refine GL.step rfl (t_mem rfl (m_load (i := 0) rfl rfl ag_40 rfl)) ?_
                                     refine GL.pure rfl (p_eql rfl rfl) ?_
                                     refine GL.pure rfl (p_move rfl) ?_
                                     refine GL.split (i := 62) rfl (fun h11 => ?_) (fun h11 => ?_)
                                     · try simp only [decide_eq_true_eq, decide_eq_false_iff_not, Bool.not_eq_true', Bool.not_eq_false', Bool.not_true, Bool.not_false, Bool.not_not, ne_eq, Decidable.not_not, Int.not_lt, Int.not_le, gt_iff_lt, ge_iff_le, bool_true_eq_, bool_false_eq_] at h11
                                       first
                                       | (exfalso; first | omega | (simp only [chgP, decide_eq_true_eq, decide_eq_false_iff_not] at h11; omega))
                                       | (skip
                                          refine GL.pureG (s := 62) rfl rfl rfl (p_fieldAddr fo_42_3 rfl) ?_
                                          refine GL.stepG rfl (s := 62) rfl rfl (t_mem rfl (m_load (i := 0) rfl rfl ag_31 rfl)) ?_
                                          refine GL.pureG (s := 62) rfl rfl rfl (p_len Try.underlying31 rfl) ?_
                                          refine GL.pureG (s := 62) rfl rfl rfl (p_fieldAddr fo_42_2 rfl) ?_
                                          refine GL.stepG rfl (s := 62) rfl rfl (t_mem rfl (m_load (i := 0) rfl rfl ag_3 rfl)) ?_
                                          refine GL.pureG (s := 62) rfl rfl rfl (p_fieldAddr fo_23_1 rfl) ?_
                                          refine GL.stepG rfl (s := 62) rfl rfl (t_mem rfl (m_load (i := 1) rfl rfl ag_3 rfl)) ?_
                                          have hm : (n < 1 ∨ 64 < n) ∨ (0 ≤ n * sz ∧ n * sz ≤ 262144) := by
                                            by_cases g : n < 1 ∨ 64 < n
                                            · exact .inl g
                                            · exact .inr (mulB (a := 64) (b := 4096) (by omega) (by omega) (by omega) (by omega))
                                          refine GL.pureG (s := 62) rfl rfl rfl (p_mul rfl rfl (w64 (by omega) (by omega))) ?_
                                          refine GL.pureG (s := 62) rfl rfl rfl (p_neq rfl rfl) ?_
                                          refine GL.pure rfl (p_pick_true rfl rfl) ?_
                                          refine GL.nil (?_ : GC _ _ _ _)
                                          refine GC.cond rfl (fun h12 => ?_) (fun h12 => ?_)
                                          · try simp only [decide_eq_true_eq, decide_eq_false_iff_not, Bool.not_eq_true', Bool.not_eq_false', Bool.not_true, Bool.not_false, Bool.not_not, ne_eq, Decidable.not_not, Int.not_lt, Int.not_le, gt_iff_lt, ge_iff_le, bool_true_eq_, bool_false_eq_] at h12
                                            first
                                            | (exfalso; first | omega | (simp only [chgP, decide_eq_true_eq, decide_eq_false_iff_not] at h12; omega))
                                            | (skip
                                               refine GC.seq' ?_
                                               refine GC.region ?_
                                               refine GL.pure rfl (p_assign rfl) ?_
                                               refine GL.pure rfl (p_assign rfl) ?_
                                               refine GL.nil (?_ : GC _ _ _ _)
                                               refine GC.ret ?_
                                               refine fun a w h => Fin.back (rs := [.tmp 4, .tmp 5]) (vs := [_, _]) (is := []) (js := []) rfl ⟨rfl, rfl, trivial⟩ rfl rfl ?_ h
                                               clear h
                                               refine ⟨tup2 ?_, rfl, rfl⟩
                                               first
                                               | (have g1 : ¬ shapeOk bl sz := fun g => h1 ((shapeE_iff bl sz).2 g)
                                                  simp [fitF, shapeE, g1]
                                                  done)
                                               | (unfold fitF
                                                  rw [if_neg (fun g => g g1), if_neg (fun g => g g2)]
                                                  try simp only [chgP, decide_eq_true_eq, decide_eq_false_iff_not] at *
                                                  (iterate 8 all_goals try split) <;> first | rfl | (exfalso; omega)))
                                          · try simp only [decide_eq_true_eq, decide_eq_false_iff_not, Bool.not_eq_true', Bool.not_eq_false', Bool.not_true, Bool.not_false, Bool.not_not, ne_eq, Decidable.not_not, Int.not_lt, Int.not_le, gt_iff_lt, ge_iff_le, bool_true_eq_, bool_false_eq_] at h12
                                            first
                                            | (exfalso; first | omega | (simp only [chgP, decide_eq_true_eq, decide_eq_false_iff_not] at h12; omega))
                                            | (skip
                                               refine GC.skip (?_ : GC _ _ _ _)
                                               refine GC.seq' ?_
                                               refine GC.region ?_
                                               refine GL.pure rfl (p_assign rfl) ?_
                                               refine GL.pure rfl (p_assign rfl) ?_
                                               refine GL.nil (?_ : GC _ _ _ _)
                                               refine GC.ret ?_
                                               refine fun a w h => Fin.back (rs := [.tmp 4, .tmp 5]) (vs := [_, _]) (is := []) (js := []) rfl ⟨rfl, rfl, trivial⟩ rfl rfl ?_ h
                                               clear h
                                               refine ⟨tup2 ?_, rfl, rfl⟩
                                               first
                                               | (have g1 : ¬ shapeOk bl sz := fun g => h1 ((shapeE_iff bl sz).2 g)
                                                  simp [fitF, shapeE, g1]
                                                  done)
                                               | (unfold fitF
                                                  rw [if_neg (fun g => g g1), if_neg (fun g => g g2)]
                                                  try simp only [chgP, decide_eq_true_eq, decide_eq_false_iff_not] at *
                                                  (iterate 8 all_goals try split) <;> first | rfl | (exfalso; omega))))
                                     · try simp only [decide_eq_true_eq, decide_eq_false_iff_not, Bool.not_eq_true', Bool.not_eq_false', Bool.not_true, Bool.not_false, Bool.not_not, ne_eq, Decidable.not_not, Int.not_lt, Int.not_le, gt_iff_lt, ge_iff_le, bool_true_eq_, bool_false_eq_] at h11
                                       first
                                       | (exfalso; first | omega | (simp only [chgP, decide_eq_true_eq, decide_eq_false_iff_not] at h11; omega))
                                       | (skip
                                          refine GL.pass (s := 62) rfl rfl rfl ?_
                                          refine GL.pass (s := 62) rfl rfl rfl ?_
                                          refine GL.pass (s := 62) rfl rfl rfl ?_
                                          refine GL.pass (s := 62) rfl rfl rfl ?_
                                          refine GL.pass (s := 62) rfl rfl rfl ?_
                                          refine GL.pass (s := 62) rfl rfl rfl ?_
                                          refine GL.pass (s := 62) rfl rfl rfl ?_
                                          have hm : (n < 1 ∨ 64 < n) ∨ (0 ≤ n * sz ∧ n * sz ≤ 262144) := by
                                            by_cases g : n < 1 ∨ 64 < n
                                            · exact .inl g
                                            · exact .inr (mulB (a := 64) (b := 4096) (by omega) (by omega) (by omega) (by omega))
                                          refine GL.pass (s := 62) rfl rfl rfl ?_
                                          refine GL.pass (s := 62) rfl rfl rfl ?_
                                          refine GL.pure rfl (p_pick_false rfl rfl) ?_
                                          refine GL.nil (?_ : GC _ _ _ _)
                                          refine GC.cond_false rfl ?_
                                          refine GC.skip (?_ : GC _ _ _ _)
                                          refine GC.seq' ?_
                                          refine GC.region ?_
                                          refine GL.pure rfl (p_assign rfl) ?_
                                          refine GL.pure rfl (p_assign rfl) ?_
                                          refine GL.nil (?_ : GC _ _ _ _)
                                          refine GC.ret ?_
                                          refine fun a w h => Fin.back (rs := [.tmp 4, .tmp 5]) (vs := [_, _]) (is := []) (js := []) rfl ⟨rfl, rfl, trivial⟩ rfl rfl ?_ h
                                          clear h
                                          refine ⟨tup2 ?_, rfl, rfl⟩
                                          first
                                          | (have g1 : ¬ shapeOk bl sz := fun g => h1 ((shapeE_iff bl sz).2 g)
                                             simp [fitF, shapeE, g1]
                                             done)
                                          | (unfold fitF
                                             rw [if_neg (fun g => g g1), if_neg (fun g => g g2)]
                                             try simp only [chgP, decide_eq_true_eq, decide_eq_false_iff_not] at *
                                             (iterate 8 all_goals try split) <;> first | rfl | (exfalso; omega))))))))))
  · try simp only [decide_eq_true_eq, decide_eq_false_iff_not, Bool.not_eq_true', Bool.not_eq_false', Bool.not_true, Bool.not_false, Bool.not_not, ne_eq, Decidable.not_not, Int.not_lt, Int.not_le, gt_iff_lt, ge_iff_le, bool_true_eq_, bool_false_eq_] at h1
    first
    | (exfalso; first | omega | (simp only [chgP, decide_eq_true_eq, decide_eq_false_iff_not] at h1; omega))
    | (skip
       refine GC.skip (?_ : GC _ _ _ _)
       refine GC.seq' ?_
       refine GC.seq' ?_
       refine GC.region ?_
       refine GL.pure rfl (p_move rfl) ?_
       refine GL.pure rfl (p_neq rfl rfl) ?_
       refine GL.nil (?_ : GC _ _ _ _)
       refine GC.cond rfl (fun h13 => ?_) (fun h13 => ?_)
       · try simp only [decide_eq_true_eq, decide_eq_false_iff_not, Bool.not_eq_true', Bool.not_eq_false', Bool.not_true, Bool.not_false, Bool.not_not, ne_eq, Decidable.not_not, Int.not_lt, Int.not_le, gt_iff_lt, ge_iff_le, bool_true_eq_, bool_false_eq_] at h13
         first
         | (exfalso; first | omega | (simp only [chgP, decide_eq_true_eq, decide_eq_false_iff_not] at h13; omega))
         | (skip
            refine GC.seq' ?_
            refine GC.region ?_
            refine GL.pure rfl (p_move rfl) ?_
            refine GL.pure rfl (p_assign rfl) ?_
            refine GL.pure rfl (p_assign rfl) ?_
            refine GL.nil (?_ : GC _ _ _ _)
            refine GC.ret ?_
            refine fun a w h => Fin.back (rs := [.tmp 4, .tmp 5]) (vs := [_, _]) (is := []) (js := []) rfl ⟨rfl, rfl, trivial⟩ rfl rfl ?_ h
            clear h
            refine ⟨tup2 ?_, rfl, rfl⟩
            first
            | (have g1 : ¬ shapeOk bl sz := fun g => h1 ((shapeE_iff bl sz).2 g)
               simp [fitF, shapeE, g1]
               done)
            | (unfold fitF
               rw [if_neg (fun g => g g1), if_neg (fun g => g g2)]
               try simp only [chgP, decide_eq_true_eq, decide_eq_false_iff_not] at *
               (iterate 8 all_goals try split) <;> first | rfl | (exfalso; omega)))
       · try simp only [decide_eq_true_eq, decide_eq_false_iff_not, Bool.not_eq_true', Bool.not_eq_false', Bool.not_true, Bool.not_false, Bool.not_not, ne_eq, Decidable.not_not, Int.not_lt, Int.not_le, gt_iff_lt, ge_iff_le, bool_true_eq_, bool_false_eq_] at h13
         first
         | (exfalso; first | omega | (simp only [chgP, decide_eq_true_eq, decide_eq_false_iff_not] at h13; omega))
         | (skip
            refine GC.skip (?_ : GC _ _ _ _)
            refine GC.seq' ?_
            refine GC.seq' ?_
            refine GC.region ?_
            have g1 := (shapeE_iff _ _).1 h1
            have g2 := (formE_iff _ _ _ _ _).1 (by assumption)
            have k1 := g1
            have k2 := g2
            simp only [shapeOk] at k1
            simp only [formP, bareP] at k2
            refine GL.pure rfl (p_fieldAddr fo_42_0 rfl) ?_
            refine GL.step rfl (t_mem rfl (m_load (i := 0) rfl rfl ag_40 rfl)) ?_
            refine GL.nil (?_ : GC _ _ _ _)
            refine GC.block ?_
            refine GC.seq' ?_
            refine GC.region ?_
            refine GL.pure rfl (p_eql rfl rfl) ?_
            refine GL.pure rfl (p_assign rfl) ?_
            refine GL.nil (?_ : GC _ _ _ _)
            refine GC.cond rfl (fun h14 => ?_) (fun h14 => ?_)
            · try simp only [decide_eq_true_eq, decide_eq_false_iff_not, Bool.not_eq_true', Bool.not_eq_false', Bool.not_true, Bool.not_false, Bool.not_not, ne_eq, Decidable.not_not, Int.not_lt, Int.not_le, gt_iff_lt, ge_iff_le, bool_true_eq_, bool_false_eq_] at h14
              first
              | (exfalso; first | omega | (simp only [chgP, decide_eq_true_eq, decide_eq_false_iff_not] at h14; omega))
              | (skip
                 refine GC.seq' ?_
                 refine GC.region ?_
                 refine GL.pure rfl (p_assign rfl) ?_
                 refine GL.pure rfl (p_assign rfl) ?_
                 refine GL.nil (?_ : GC _ _ _ _)
                 refine GC.ret ?_
                 refine fun a w h => Fin.back (rs := [.tmp 4, .tmp 5]) (vs := [_, _]) (is := []) (js := []) rfl ⟨rfl, rfl, trivial⟩ rfl rfl ?_ h
                 clear h
                 refine ⟨tup2 ?_, rfl, rfl⟩
                 first
                 | (have g1 : ¬ shapeOk bl sz := fun g => h1 ((shapeE_iff bl sz).2 g)
                    simp [fitF, shapeE, g1]
                    done)
                 | (unfold fitF
                    rw [if_neg (fun g => g g1), if_neg (fun g => g g2)]
                    try simp only [chgP, decide_eq_true_eq, decide_eq_false_iff_not] at *
                    (iterate 8 all_goals try split) <;> first | rfl | (exfalso; omega)))
            · try simp only [decide_eq_true_eq, decide_eq_false_iff_not, Bool.not_eq_true', Bool.not_eq_false', Bool.not_true, Bool.not_false, Bool.not_not, ne_eq, Decidable.not_not, Int.not_lt, Int.not_le, gt_iff_lt, ge_iff_le, bool_true_eq_, bool_false_eq_] at h14
              first
              | (exfalso; first | omega | (simp only [chgP, decide_eq_true_eq, decide_eq_false_iff_not] at h14; omega))
              | (skip
                 refine GC.seq' ?_
                 refine GC.region ?_
                 refine GL.pure rfl (p_eql rfl rfl) ?_
                 refine GL.pure rfl (p_assign rfl) ?_
                 refine GL.nil (?_ : GC _ _ _ _)
                 refine GC.cond rfl (fun h15 => ?_) (fun h15 => ?_)
                 · try simp only [decide_eq_true_eq, decide_eq_false_iff_not, Bool.not_eq_true', Bool.not_eq_false', Bool.not_true, Bool.not_false, Bool.not_not, ne_eq, Decidable.not_not, Int.not_lt, Int.not_le, gt_iff_lt, ge_iff_le, bool_true_eq_, bool_false_eq_] at h15
                   first
                   | (exfalso; first | omega | (simp only [chgP, decide_eq_true_eq, decide_eq_false_iff_not] at h15; omega))
                   | (skip
                      refine GC.seq' ?_
                      refine GC.seq' ?_
                      refine GC.region ?_
                      refine GL.pure rfl (p_fieldAddr fo_42_1 rfl) ?_
                      refine GL.step rfl (t_mem rfl (m_load (i := 0) rfl rfl ag_3 rfl)) ?_
                      refine GL.pure rfl (p_fieldAddr fo_23_0 rfl) ?_
                      refine GL.step rfl (t_mem rfl (m_load (i := 1) rfl rfl ag_3 rfl)) ?_
                      refine GL.pure rfl (p_geq rfl rfl) ?_
                      refine GL.nil (?_ : GC _ _ _ _)
                      refine GC.cond rfl (fun h16 => ?_) (fun h16 => ?_)
                      · try simp only [decide_eq_true_eq, decide_eq_false_iff_not, Bool.not_eq_true', Bool.not_eq_false', Bool.not_true, Bool.not_false, Bool.not_not, ne_eq, Decidable.not_not, Int.not_lt, Int.not_le, gt_iff_lt, ge_iff_le, bool_true_eq_, bool_false_eq_] at h16
                        first
                        | (exfalso; first | omega | (simp only [chgP, decide_eq_true_eq, decide_eq_false_iff_not] at h16; omega))
                        | (skip
                           refine GC.seq' ?_
                           refine GC.region ?_
                           refine GL.pure rfl (p_assign rfl) ?_
                           refine GL.pure rfl (p_assign rfl) ?_
                           refine GL.nil (?_ : GC _ _ _ _)
                           refine GC.ret ?_
                           refine fun a w h => Fin.back (rs := [.tmp 4, .tmp 5]) (vs := [_, _]) (is := []) (js := []) rfl ⟨rfl, rfl, trivial⟩ rfl rfl ?_ h
                           clear h
                           refine ⟨tup2 ?_, rfl, rfl⟩
                           first
                           | (have g1 : ¬ shapeOk bl sz := fun g => h1 ((shapeE_iff bl sz).2 g)
                              simp [fitF, shapeE, g1]
                              done)
                           | (unfold fitF
                              rw [if_neg (fun g => g g1), if_neg (fun g => g g2)]
                              try simp only [chgP, decide_eq_true_eq, decide_eq_false_iff_not] at *
                              (iterate 8 all_goals try split) <;> first | rfl | (exfalso; omega)))
                      · try simp only [decide_eq_true_eq, decide_eq_false_iff_not, Bool.not_eq_true', Bool.not_eq_false', Bool.not_true, Bool.not_false, Bool.not_not, ne_eq, Decidable.not_not, Int.not_lt, Int.not_le, gt_iff_lt, ge_iff_le, bool_true_eq_, bool_false_eq_] at h16
                        first
                        | (exfalso; first | omega | (simp only [chgP, decide_eq_true_eq, decide_eq_false_iff_not] at h16; omega))
                        | (skip
                           refine GC.skip (?_ : GC _ _ _ _)
                           refine GC.seq' ?_
                           refine GC.seq' ?_
                           refine GC.region ?_
                           refine GL.pure rfl (p_fieldAddr fo_42_3 rfl) ?_
                           refine GL.step rfl (t_mem rfl (m_load (i := 0) rfl rfl ag_31 rfl)) ?_
                           refine GL.pure rfl (p_len Try.underlying31 rfl) ?_
                           refine GL.pure rfl (p_fieldAddr fo_23_1 rfl) ?_
                           refine GL.step rfl (t_mem rfl (m_load (i := 1) rfl rfl ag_3 rfl)) ?_
                           refine GL.pure rfl (p_neq rfl rfl) ?_
                           refine GL.pure rfl (p_move rfl) ?_
                           refine GL.split (i := 33) rfl (fun h17 => ?_) (fun h17 => ?_)
                           · try simp only [decide_eq_true_eq, decide_eq_false_iff_not, Bool.not_eq_true', Bool.not_eq_false', Bool.not_true, Bool.not_false, Bool.not_not, ne_eq, Decidable.not_not, Int.not_lt, Int.not_le, gt_iff_lt, ge_iff_le, bool_true_eq_, bool_false_eq_] at h17
                             first
                             | (exfalso; first | omega | (simp only [chgP, decide_eq_true_eq, decide_eq_false_iff_not] at h17; omega))
                             | (skip
                                refine GL.pass (s := 33) rfl rfl rfl ?_
                                refine GL.pass (s := 33) rfl rfl rfl ?_
                                refine GL.pass (s := 33) rfl rfl rfl ?_
                                refine GL.pass (s := 33) rfl rfl rfl ?_
                                refine GL.pass (s := 33) rfl rfl rfl ?_
                                refine GL.pass (s := 33) rfl rfl rfl ?_
                                refine GL.pure rfl (p_pick_true rfl rfl) ?_
                                refine GL.nil (?_ : GC _ _ _ _)
                                refine GC.cond_true rfl ?_
                                refine GC.seq' ?_
                                refine GC.region ?_
                                refine GL.pure rfl (p_assign rfl) ?_
                                refine GL.pure rfl (p_assign rfl) ?_
                                refine GL.nil (?_ : GC _ _ _ _)
                                refine GC.ret ?_
                                refine fun a w h => Fin.back (rs := [.tmp 4, .tmp 5]) (vs := [_, _]) (is := []) (js := []) rfl ⟨rfl, rfl, trivial⟩ rfl rfl ?_ h
                                clear h
                                refine ⟨tup2 ?_, rfl, rfl⟩
                                first
                                | (have g1 : ¬ shapeOk bl sz := fun g => h1 ((shapeE_iff bl sz).2 g)
                                   simp [fitF, shapeE, g1]
                                   done)
                                | (unfold fitF
                                   rw [if_neg (fun g => g g1), if_neg (fun g => g g2)]
                                   try simp only [chgP, decide_eq_true_eq, decide_eq_false_iff_not] at *
                                   (iterate 8 all_goals try split) <;> first | rfl | (exfalso; omega)))
                           · try simp only [decide_eq_true_eq, decide_eq_false_iff_not, Bool.not_eq_true', Bool.not_eq_false', Bool.not_true, Bool.not_false, Bool.not_not, ne_eq, Decidable.not_not, Int.not_lt, Int.not_le, gt_iff_lt, ge_iff_le, bool_true_eq_, bool_false_eq_] at h17
                             first
                             | (exfalso; first | omega | (simp only [chgP, decide_eq_true_eq, decide_eq_false_iff_not] at h17; omega))
                             | (skip
                                refine GL.pureG (s := 33) rfl rfl rfl (p_fieldAddr fo_42_4 rfl) ?_
                                refine GL.stepG rfl (s := 33) rfl rfl (t_mem rfl (m_load (i := 0) rfl rfl ag_31 rfl)) ?_
                                refine GL.pureG (s := 33) rfl rfl rfl (p_len Try.underlying31 rfl) ?_
                                refine GL.pureG (s := 33) rfl rfl rfl (p_fieldAddr fo_23_1 rfl) ?_
                                refine GL.stepG rfl (s := 33) rfl rfl (t_mem rfl (m_load (i := 1) rfl rfl ag_3 rfl)) ?_
                                refine GL.pureG (s := 33) rfl rfl rfl (p_neq rfl rfl) ?_
                                refine GL.pure rfl (p_pick_false rfl rfl) ?_
                                refine GL.nil (?_ : GC _ _ _ _)
                                refine GC.cond rfl (fun h18 => ?_) (fun h18 => ?_)
                                · try simp only [decide_eq_true_eq, decide_eq_false_iff_not, Bool.not_eq_true', Bool.not_eq_false', Bool.not_true, Bool.not_false, Bool.not_not, ne_eq, Decidable.not_not, Int.not_lt, Int.not_le, gt_iff_lt, ge_iff_le, bool_true_eq_, bool_false_eq_] at h18
                                  first
                                  | (exfalso; first | omega | (simp only [chgP, decide_eq_true_eq, decide_eq_false_iff_not] at h18; omega))
                                  | (skip
                                     refine GC.seq' ?_
                                     refine GC.region ?_
                                     refine GL.pure rfl (p_assign rfl) ?_
                                     refine GL.pure rfl (p_assign rfl) ?_
                                     refine GL.nil (?_ : GC _ _ _ _)
                                     refine GC.ret ?_
                                     refine fun a w h => Fin.back (rs := [.tmp 4, .tmp 5]) (vs := [_, _]) (is := []) (js := []) rfl ⟨rfl, rfl, trivial⟩ rfl rfl ?_ h
                                     clear h
                                     refine ⟨tup2 ?_, rfl, rfl⟩
                                     first
                                     | (have g1 : ¬ shapeOk bl sz := fun g => h1 ((shapeE_iff bl sz).2 g)
                                        simp [fitF, shapeE, g1]
                                        done)
                                     | (unfold fitF
                                        rw [if_neg (fun g => g g1), if_neg (fun g => g g2)]
                                        try simp only [chgP, decide_eq_true_eq, decide_eq_false_iff_not] at *
                                        (iterate 8 all_goals try split) <;> first | rfl | (exfalso; omega)))
                                · try simp only [decide_eq_true_eq, decide_eq_false_iff_not, Bool.not_eq_true', Bool.not_eq_false', Bool.not_true, Bool.not_false, Bool.not_not, ne_eq, Decidable.not_not, Int.not_lt, Int.not_le, gt_iff_lt, ge_iff_le, bool_true_eq_, bool_false_eq_] at h18
                                  first
                                  | (exfalso; first | omega | (simp only [chgP, decide_eq_true_eq, decide_eq_false_iff_not] at h18; omega))
                                  | (skip
                                     refine GC.skip (?_ : GC _ _ _ _)
                                     refine GC.seq' ?_
                                     refine GC.region ?_
                                     refine GL.pure rfl (p_assign rfl) ?_
                                     refine GL.pure rfl (p_assign rfl) ?_
                                     refine GL.nil (?_ : GC _ _ _ _)
                                     refine GC.ret ?_
                                     refine fun a w h => Fin.back (rs := [.tmp 4, .tmp 5]) (vs := [_, _]) (is := []) (js := []) rfl ⟨rfl, rfl, trivial⟩ rfl rfl ?_ h
                                     clear h
                                     refine ⟨tup2 ?_, rfl, rfl⟩
                                     first
                                     | (have g1 : ¬ shapeOk bl sz := fun g => h1 ((shapeE_iff bl sz).2 g)
                                        simp [fitF, shapeE, g1]
                                        done)
                                     | (unfold fitF
                                        rw [if_neg (fun g => g g1), if_neg (fun g => g g2)]
                                        try simp only [chgP, decide_eq_true_eq, decide_eq_false_iff_not] at *
                                        (iterate 8 all_goals try split) <;> first | rfl | (exfalso; omega))))))
                 · try simp only [decide_eq_true_eq, decide_eq_false_iff_not, Bool.not_eq_true', Bool.not_eq_false', Bool.not_true, Bool.not_false, Bool.not_not, ne_eq, Decidable.not_not, Int.not_lt, Int.not_le, gt_iff_lt, ge_iff_le, bool_true_eq_, bool_false_eq_] at h15
                   first
                   | (exfalso; first | omega | (simp only [chgP, decide_eq_true_eq, decide_eq_false_iff_not] at h15; omega))
                   | (skip
                      refine GC.skip (?_ : GC _ _ _ _)
                      refine GC.seq' ?_
                      refine GC.seq' ?_
                      refine GC.region ?_
                      refine GL.pure rfl (p_fieldAddr fo_42_2 rfl) ?_
                      refine GL.step rfl (t_mem rfl (m_load (i := 0) rfl rfl ag_3 rfl)) ?_
                      refine GL.pure rfl (p_lss rfl rfl) ?_
                      refine GL.pure rfl (p_move rfl) ?_
                      refine GL.split (i := 44) rfl (fun h19 => ?_) (fun h19 => ?_)
                      · try simp only [decide_eq_true_eq, decide_eq_false_iff_not, Bool.not_eq_true', Bool.not_eq_false', Bool.not_true, Bool.not_false, Bool.not_not, ne_eq, Decidable.not_not, Int.not_lt, Int.not_le, gt_iff_lt, ge_iff_le, bool_true_eq_, bool_false_eq_] at h19
                        first
                        | (exfalso; first | omega | (simp only [chgP, decide_eq_true_eq, decide_eq_false_iff_not] at h19; omega))
                        | (skip
                           refine GL.pass (s := 44) rfl rfl rfl ?_
                           refine GL.pass (s := 44) rfl rfl rfl ?_
                           refine GL.pass (s := 44) rfl rfl rfl ?_
                           refine GL.pure rfl (p_pick_true rfl rfl) ?_
                           refine GL.pure rfl (p_move rfl) ?_
                           refine GL.pass (s := 49) rfl rfl rfl ?_
                           refine GL.pass (s := 49) rfl rfl rfl ?_
                           refine GL.pass (s := 49) rfl rfl rfl ?_
                           refine GL.pass (s := 49) rfl rfl rfl ?_
                           refine GL.pass (s := 49) rfl rfl rfl ?_
                           refine GL.pass (s := 49) rfl rfl rfl ?_
                           refine GL.pass (s := 49) rfl rfl rfl ?_
                           refine GL.pass (s := 49) rfl rfl rfl ?_
                           refine GL.pure rfl (p_pick_true rfl rfl) ?_
                           refine GL.nil (?_ : GC _ _ _ _)
                           refine GC.cond_true rfl ?_
                           refine GC.seq' ?_
                           refine GC.region ?_
                           refine GL.pure rfl (p_assign rfl) ?_
                           refine GL.pure rfl (p_assign rfl) ?_
                           refine GL.nil (?_ : GC _ _ _ _)
                           refine GC.ret ?_
                           refine fun a w h => Fin.back (rs := [.tmp 4, .tmp 5]) (vs := [_, _]) (is := []) (js := []) rfl ⟨rfl, rfl, trivial⟩ rfl rfl ?_ h
                           clear h
                           refine ⟨tup2 ?_, rfl, rfl⟩
                           first
                           | (have g1 : ¬ shapeOk bl sz := fun g => h1 ((shapeE_iff bl sz).2 g)
                              simp [fitF, shapeE, g1]
                              done)
                           | (unfold fitF
                              rw [if_neg (fun g => g g1), if_neg (fun g => g g2)]
                              try simp only [chgP, decide_eq_true_eq, decide_eq_false_iff_not] at *
                              (iterate 8 all_goals try split) <;> first | rfl | (exfalso; omega)))
                      · try simp only [decide_eq_true_eq, decide_eq_false_iff_not, Bool.not_eq_true', Bool.not_eq_false', Bool.not_true, Bool.not_false, Bool.not_not, ne_eq, Decidable.not_not, Int.not_lt, Int.not_le, gt_iff_lt, ge_iff_le, bool_true_eq_, bool_false_eq_] at h19
                        first
                        | (exfalso; first | omega | (simp only [chgP, decide_eq_true_eq, decide_eq_false_iff_not] at h19; omega))
                        | (skip
                           refine GL.pureG (s := 44) rfl rfl rfl (p_fieldAddr fo_42_2 rfl) ?_
                           refine GL.stepG rfl (s := 44) rfl rfl (t_mem rfl (m_load (i := 0) rfl rfl ag_3 rfl)) ?_
                           refine GL.pureG (s := 44) rfl rfl rfl (p_gtr rfl rfl) ?_
                           refine GL.pure rfl (p_pick_false rfl rfl) ?_
                           refine GL.pure rfl (p_move rfl) ?_
                           refine GL.split (i := 49) rfl (fun h20 => ?_) (fun h20 => ?_)
                           · try simp only [decide_eq_true_eq, decide_eq_false_iff_not, Bool.not_eq_true', Bool.not_eq_false', Bool.not_true, Bool.not_false, Bool.not_not, ne_eq, Decidable.not_not, Int.not_lt, Int.not_le, gt_iff_lt, ge_iff_le, bool_true_eq_, bool_false_eq_] at h20
                             first
                             | (exfalso; first | omega | (simp only [chgP, decide_eq_true_eq, decide_eq_false_iff_not] at h20; omega))
                             | (skip
                                refine GL.pass (s := 49) rfl rfl rfl ?_
                                refine GL.pass (s := 49) rfl rfl rfl ?_
                                refine GL.pass (s := 49) rfl rfl rfl ?_
                                refine GL.pass (s := 49) rfl rfl rfl ?_
                                refine GL.pass (s := 49) rfl rfl rfl ?_
                                refine GL.pass (s := 49) rfl rfl rfl ?_
                                refine GL.pass (s := 49) rfl rfl rfl ?_
                                refine GL.pass (s := 49) rfl rfl rfl ?_
                                refine GL.pure rfl (p_pick_true rfl rfl) ?_
                                refine GL.nil (?_ : GC _ _ _ _)
                                refine GC.cond_true rfl ?_
                                refine GC.seq' ?_
                                refine GC.region ?_
                                refine GL.pure rfl (p_assign rfl) ?_
                                refine GL.pure rfl (p_assign rfl) ?_
                                refine GL.nil (?_ : GC _ _ _ _)
                                refine GC.ret ?_
                                refine fun a w h => Fin.back (rs := [.tmp 4, .tmp 5]) (vs := [_, _]) (is := []) (js := []) rfl ⟨rfl, rfl, trivial⟩ rfl rfl ?_ h
                                clear h
                                refine ⟨tup2 ?_, rfl, rfl⟩
                                first
                                | (have g1 : ¬ shapeOk bl sz := fun g => h1 ((shapeE_iff bl sz).2 g)
                                   simp [fitF, shapeE, g1]
                                   done)
                                | (unfold fitF
                                   rw [if_neg (fun g => g g1), if_neg (fun g => g g2)]
                                   try simp only [chgP, decide_eq_true_eq, decide_eq_false_iff_not] at *
                                   (iterate 8 all_goals try split) <;> first | rfl | (exfalso; omega)))
                           · try simp only [decide_eq_true_eq, decide_eq_false_iff_not, Bool.not_eq_true', Bool.not_eq_false', Bool.not_true, Bool.not_false, Bool.not_not, ne_eq, Decidable.not_not, Int.not_lt, Int.not_le, gt_iff_lt, ge_iff_le, bool_true_eq_, bool_false_eq_] at h20
                             first
                             | (exfalso; first | omega | (simp only [chgP, decide_eq_true_eq, decide_eq_false_iff_not] at h20; omega))
                             | (skip
                                refine GL.pureG (s := 49) rfl rfl rfl (p_fieldAddr fo_42_1 rfl) ?_
                                refine GL.stepG rfl (s := 49) rfl rfl (t_mem rfl (m_load (i := 0) rfl rfl ag_3 rfl)) ?_
                                refine GL.pureG (s := 49) rfl rfl rfl (p_fieldAddr fo_23_0 rfl) ?_
                                refine GL.stepG rfl (s := 49) rfl rfl (t_mem rfl (m_load (i := 1) rfl rfl ag_3 rfl)) ?_
                                refine GL.pureG (s := 49) rfl rfl rfl (p_fieldAddr fo_42_2 rfl) ?_
                                refine GL.stepG rfl (s := 49) rfl rfl (t_mem rfl (m_load (i := 0) rfl rfl ag_3 rfl)) ?_
                                refine GL.pureG (s := 49) rfl rfl rfl (p_sub rfl rfl (w64 (by omega) (by omega))) ?_
                                refine GL.pureG (s := 49) rfl rfl rfl (p_gtr rfl rfl) ?_
                                refine GL.pure rfl (p_pick_false rfl rfl) ?_
                                refine GL.nil (?_ : GC _ _ _ _)
                                refine GC.cond rfl (fun h21 => ?_) (fun h21 => ?_)
                                · try simp only [decide_eq_true_eq, decide_eq_false_iff_not, Bool.not_eq_true', Bool.not_eq_false', Bool.not_true, Bool.not_false, Bool.not_not, ne_eq, Decidable.not_not, Int.not_lt, Int.not_le, gt_iff_lt, ge_iff_le, bool_true_eq_, bool_false_eq_] at h21
                                  first
                                  | (exfalso; first | omega | (simp only [chgP, decide_eq_true_eq, decide_eq_false_iff_not] at h21; omega))
                                  | (skip
                                     refine GC.seq' ?_
                                     refine GC.region ?_
                                     refine GL.pure rfl (p_assign rfl) ?_
                                     refine GL.pure rfl (p_assign rfl) ?_
                                     refine GL.nil (?_ : GC _ _ _ _)
                                     refine GC.ret ?_
                                     refine fun a w h => Fin.back (rs := [.tmp 4, .tmp 5]) (vs := [_, _]) (is := []) (js := []) rfl ⟨rfl, rfl, trivial⟩ rfl rfl ?_ h
                                     clear h
                                     refine ⟨tup2 ?_, rfl, rfl⟩
                                     first
                                     | (have g1 : ¬ shapeOk bl sz := fun g => h1 ((shapeE_iff bl sz).2 g)
                                        simp [fitF, shapeE, g1]
                                        done)
                                     | (unfold fitF
                                        rw [if_neg (fun g => g g1), if_neg (fun g => g g2)]
                                        try simp only [chgP, decide_eq_true_eq, decide_eq_false_iff_not] at *
                                        (iterate 8 all_goals try split) <;> first | rfl | (exfalso; omega)))
                                · try simp only [decide_eq_true_eq, decide_eq_false_iff_not, Bool.not_eq_true', Bool.not_eq_false', Bool.not_true, Bool.not_false, Bool.not_not, ne_eq, Decidable.not_not, Int.not_lt, Int.not_le, gt_iff_lt, ge_iff_le, bool_true_eq_, bool_false_eq_] at h21
                                  first
                                  | (exfalso; first | omega | (simp only [chgP, decide_eq_true_eq, decide_eq_false_iff_not] at h21; omega))
                                  | (skip
                                     refine GC.skip (?_ : GC _ _ _ _)
                                     refine GC.seq' ?_
                                     refine GC.seq' ?_
                                     refine GC.region ?_
                                     refine GL.pure rfl (p_fieldAddr fo_42_0 rfl) ?_
                                     refine GL.step rfl (t_mem rfl (m_load (i := 0) rfl rfl ag_40 rfl)) ?_
                                     refine GL.pure rfl (p_eql rfl rfl) ?_
                                     refine GL.pure rfl (p_move rfl) ?_
                                     refine GL.split (i := 62) rfl (fun h22 => ?_) (fun h22 => ?_)
                                     · try simp only [decide_eq_true_eq, decide_eq_false_iff_not, Bool.not_eq_true', Bool.not_eq_false', Bool.not_true, Bool.not_false, Bool.not_not, ne_eq, Decidable.not_not, Int.not_lt, Int.not_le, gt_iff_lt, ge_iff_le, bool_true_eq_, bool_false_eq_] at h22
                                       first
                                       | (exfalso; first | omega | (simp only [chgP, decide_eq_true_eq, decide_eq_false_iff_not] at h22; omega))
                                       | (skip
                                          refine GL.pureG (s := 62) rfl rfl rfl (p_fieldAddr fo_42_3 rfl) ?_
                                          refine GL.stepG rfl (s := 62) rfl rfl (t_mem rfl (m_load (i := 0) rfl rfl ag_31 rfl)) ?_
                                          refine GL.pureG (s := 62) rfl rfl rfl (p_len Try.underlying31 rfl) ?_
                                          refine GL.pureG (s := 62) rfl rfl rfl (p_fieldAddr fo_42_2 rfl) ?_
                                          refine GL.stepG rfl (s := 62) rfl rfl (t_mem rfl (m_load (i := 0) rfl rfl ag_3 rfl)) ?_
                                          refine GL.pureG (s := 62) rfl rfl rfl (p_fieldAddr fo_23_1 rfl) ?_
                                          refine GL.stepG rfl (s := 62) rfl rfl (t_mem rfl (m_load (i := 1) rfl rfl ag_3 rfl)) ?_
                                          have hm : (n < 1 ∨ 64 < n) ∨ (0 ≤ n * sz ∧ n * sz ≤ 262144) := by
                                            by_cases g : n < 1 ∨ 64 < n
                                            · exact .inl g
                                            · exact .inr (mulB (a := 64) (b := 4096) (by omega) (by omega) (by omega) (by omega))
                                          refine GL.pureG (s := 62) rfl rfl rfl (p_mul rfl rfl (w64 (by omega) (by omega))) ?_
                                          refine GL.pureG (s := 62) rfl rfl rfl (p_neq rfl rfl) ?_
                                          refine GL.pure rfl (p_pick_true rfl rfl) ?_
                                          refine GL.nil (?_ : GC _ _ _ _)
                                          refine GC.cond rfl (fun h23 => ?_) (fun h23 => ?_)
                                          · try simp only [decide_eq_true_eq, decide_eq_false_iff_not, Bool.not_eq_true', Bool.not_eq_false', Bool.not_true, Bool.not_false, Bool.not_not, ne_eq, Decidable.not_not, Int.not_lt, Int.not_le, gt_iff_lt, ge_iff_le, bool_true_eq_, bool_false_eq_] at h23
                                            first
                                            | (exfalso; first | omega | (simp only [chgP, decide_eq_true_eq, decide_eq_false_iff_not] at h23; omega))
                                            | (skip
                                               refine GC.seq' ?_
                                               refine GC.region ?_
                                               refine GL.pure rfl (p_assign rfl) ?_
                                               refine GL.pure rfl (p_assign rfl) ?_
                                               refine GL.nil (?_ : GC _ _ _ _)
                                               refine GC.ret ?_
                                               refine fun a w h => Fin.back (rs := [.tmp 4, .tmp 5]) (vs := [_, _]) (is := []) (js := []) rfl ⟨rfl, rfl, trivial⟩ rfl rfl ?_ h
                                               clear h
                                               refine ⟨tup2 ?_, rfl, rfl⟩
                                               first
                                               | (have g1 : ¬ shapeOk bl sz := fun g => h1 ((shapeE_iff bl sz).2 g)
                                                  simp [fitF, shapeE, g1]
                                                  done)
                                               | (unfold fitF
                                                  rw [if_neg (fun g => g g1), if_neg (fun g => g g2)]
                                                  try simp only [chgP, decide_eq_true_eq, decide_eq_false_iff_not] at *
                                                  (iterate 8 all_goals try split) <;> first | rfl | (exfalso; omega)))
                                          · try simp only [decide_eq_true_eq, decide_eq_false_iff_not, Bool.not_eq_true', Bool.not_eq_false', Bool.not_true, Bool.not_false, Bool.not_not, ne_eq, Decidable.not_not, Int.not_lt, Int.not_le, gt_iff_lt, ge_iff_le, bool_true_eq_, bool_false_eq_] at h23
                                            first
                                            | (exfalso; first | omega | (simp only [chgP, decide_eq_true_eq, decide_eq_false_iff_not] at h23; omega))
                                            | (skip
                                               refine GC.skip (?_ : GC _ _ _ _)
                                               refine GC.seq' ?_
                                               refine GC.region ?_
                                               refine GL.pure rfl (p_assign rfl) ?_
                                               refine GL.pure rfl (p_assign rfl) ?_
                                               refine GL.nil (?_ : GC _ _ _ _)
                                               refine GC.ret ?_
                                               refine fun a w h => Fin.back (rs := [.tmp 4, .tmp 5]) (vs := [_, _]) (is := []) (js := []) rfl ⟨rfl, rfl, trivial⟩ rfl rfl ?_ h
                                               clear h
                                               refine ⟨tup2 ?_, rfl, rfl⟩
                                               first
                                               | (have g1 : ¬ shapeOk bl sz := fun g => h1 ((shapeE_iff bl sz).2 g)
                                                  simp [fitF, shapeE, g1]
                                                  done)
                                               | (unfold fitF
                                                  rw [if_neg (fun g => g g1), if_neg (fun g => g g2)]
                                                  try simp only [chgP, decide_eq_true_eq, decide_eq_false_iff_not] at *
                                                  (iterate 8 all_goals try split) <;> first | rfl | (exfalso; omega))))
                                     · try simp only [decide_eq_true_eq, decide_eq_false_iff_not, Bool.not_eq_true', Bool.not_eq_false', Bool.not_true, Bool.not_false, Bool.not_not, ne_eq, Decidable.not_not, Int.not_lt, Int.not_le, gt_iff_lt, ge_iff_le, bool_true_eq_, bool_false_eq_] at h22
                                       first
                                       | (exfalso; first | omega | (simp only [chgP, decide_eq_true_eq, decide_eq_false_iff_not] at h22; omega))
                                       | (skip
                                          refine GL.pass (s := 62) rfl rfl rfl ?_
                                          refine GL.pass (s := 62) rfl rfl rfl ?_
                                          refine GL.pass (s := 62) rfl rfl rfl ?_
                                          refine GL.pass (s := 62) rfl rfl rfl ?_
                                          refine GL.pass (s := 62) rfl rfl rfl ?_
                                          refine GL.pass (s := 62) rfl rfl rfl ?_
                                          refine GL.pass (s := 62) rfl rfl rfl ?_
                                          have hm : (n < 1 ∨ 64 < n) ∨ (0 ≤ n * sz ∧ n * sz ≤ 262144) := by
                                            by_cases g : n < 1 ∨ 64 < n
                                            · exact .inl g
                                            · exact .inr (mulB (a := 64) (b := 4096) (by omega) (by omega) (by omega) (by omega))
                                          refine GL.pass (s := 62) rfl rfl rfl ?_
                                          refine GL.pass (s := 62) rfl rfl rfl ?_
                                          refine GL.pure rfl (p_pick_false rfl rfl) ?_
                                          refine GL.nil (?_ : GC _ _ _ _)
                                          refine GC.cond_false rfl ?_
                                          refine GC.skip (?_ : GC _ _ _ _)
                                          refine GC.seq' ?_
                                          refine GC.region ?_
                                          refine GL.pure rfl (p_assign rfl) ?_
                                          refine GL.pure rfl (p_assign rfl) ?_
                                          refine GL.nil (?_ : GC _ _ _ _)
                                          refine GC.ret ?_
                                          refine fun a w h => Fin.back (rs := [.tmp 4, .tmp 5]) (vs := [_, _]) (is := []) (js := []) rfl ⟨rfl, rfl, trivial⟩ rfl rfl ?_ h
                                          clear h
                                          refine ⟨tup2 ?_, rfl, rfl⟩
                                          first
                                          | (have g1 : ¬ shapeOk bl sz := fun g => h1 ((shapeE_iff bl sz).2 g)
                                             simp [fitF, shapeE, g1]
                                             done)
                                          | (unfold fitF
                                             rw [if_neg (fun g => g g1), if_neg (fun g => g g2)]
                                             try simp only [chgP, decide_eq_true_eq, decide_eq_false_iff_not] at *
                                             (iterate 8 all_goals try split) <;> first | rfl | (exfalso; omega))))))))))

theorem clone_ct (A : Option Addr) (xs : List UInt8) (cp : Nat) (hx : xs.length ≤ 140737488355328) : Ct Try.prog 28 [.slice A xs.length cp] [] [Pers.row Kd.u8 A xs]
    (fun v G Q => ∃ A' cp', xs.length ≤ cp' ∧ cp' ≤ 9223372036854775807 ∧ v = .slice A' xs.length cp' ∧ G = [.row (.slice A' xs.length cp') 5 1 xs.length (xs.map u8v)] ∧ Q = []) := by
  cases A with
  | none =>
    refine Ct.pure (fun w S h => row_none (h.per _ (List.mem_singleton.2 rfl))) fun hx0 => ?_
    subst hx0
    refine Ct.intro Try.func28 rfl rfl rfl (fun c hc => ?_)
    refine GC.seq' ?_
    refine GC.region ?_
    refine GL.pure rfl (p_assign rfl) ?_
    refine GL.nil (?_ : GC _ _ _ _)
    refine GC.seq' ?_
    refine GC.seq' ?_
    refine GC.region ?_
    refine GL.pure rfl (p_move rfl) ?_
    refine GL.pure rfl (p_slnil_eql Try.underlying31 rfl rfl) ?_
    refine GL.nil (?_ : GC _ _ _ _)
    refine GC.cond_true rfl ?_
    refine GC.seq' ?_
    refine GC.region ?_
    refine GL.pure rfl (p_assign rfl) ?_
    refine GL.nil (?_ : GC _ _ _ _)
    refine GC.nilrow 5 1 ?_
    refine GC.ret ?_
    refine fun a w h => Fin.back (rs := [.tmp 2]) (vs := [_]) (is := [0]) (js := []) rfl ⟨rfl, trivial⟩ rfl rfl ?_ h
    clear h
    exact ⟨_, _, by simp, by simp, rfl, rfl, rfl⟩
  | some a =>
    refine Ct.intro Try.func28 rfl rfl rfl (fun c hc => ?_)
    refine GC.seq' ?_
    refine GC.region ?_
    refine GL.pure rfl (p_assign rfl) ?_
    refine GL.nil (?_ : GC _ _ _ _)
    refine GC.seq' ?_
    refine GC.seq' ?_
    refine GC.region ?_
    refine GL.pure rfl (p_move rfl) ?_
    refine GL.pure rfl (p_slnil_eql Try.underlying31 rfl rfl) ?_
    refine GL.nil (?_ : GC _ _ _ _)
    refine GC.cond_false rfl ?_
    refine GC.skip (?_ : GC _ _ _ _)
    refine GC.seq' ?_
    refine GC.region ?_
    refine GL.step rfl (t_buildSlice rfl Try.underlying31 sz_5 ze_5 rfl rfl rfl rfl rfl rfl) (GL.ex fun b_t5 => ?_)
    refine GL.pure rfl (p_move rfl) ?_
    refine GL.torow (i := 0) (m := 0) (sz := 1) rfl rfl (by decide) rfl ?_
    refine GL.step rfl (t_appendS (i := 0) (k := 0) rfl el_31 rfl rfl rfl rfl (by simp; omega) (fun _ => rfl)) (GL.ex fun v7 => ?_)
    refine GL.pure rfl (p_assign rfl) ?_
    refine GL.nil (?_ : GC _ _ _ _)
    refine GC.shape (i := 0) rfl (fun A1 c1 e1 l1 l2 => ?_)
    subst e1
    simp only [Nat.zero_add, List.nil_append] at l1 ⊢
    refine GC.ret ?_
    refine fun a w h => Fin.back (rs := [.tmp 2]) (vs := [_]) (is := [0]) (js := []) rfl ⟨rfl, trivial⟩ rfl rfl ?_ h
    clear h
    exact ⟨_, _, l1, l2, rfl, rfl, rfl⟩
theorem str_eq (x y : List UInt8) : ((⟨x.toArray⟩ : ByteArray) = ⟨y.toArray⟩) = (x = y) := by
  simp
theorem equal_ct (A : Option Addr) (xs : List UInt8) (cp : Nat) (B : Option Addr) (ys : List UInt8) (cq : Nat) : Ct Try.prog 36 [.slice A xs.length cp, .slice B ys.length cq] [] [Pers.row Kd.u8 A xs, Pers.row Kd.u8 B ys]
    (fun v G Q => v = .bool (decide (xs = ys)) ∧ G = [] ∧ Q = []) := by
  refine Ct.intro Try.func36 rfl rfl rfl (fun c hc => ?_)
  refine GC.seq' ?_
  refine GC.region ?_
  refine GL.pure rfl (p_assign rfl) ?_
  refine GL.nil (?_ : GC _ _ _ _)
  refine GC.seq' ?_
  refine GC.region ?_
  refine GL.pure rfl (p_move rfl) ?_
  refine GL.step rfl (t_mem rfl (m_str (i := 0) rfl rfl Try.underlying31 Try.underlying5 Try.underlying9)) ?_
  refine GL.pure rfl (p_move rfl) ?_
  refine GL.step rfl (t_mem rfl (m_str (i := 1) rfl rfl Try.underlying31 Try.underlying5 Try.underlying9)) ?_
  refine GL.pure rfl (p_seql rfl rfl) ?_
  refine GL.pure rfl (p_assign rfl) ?_
  refine GL.nil (?_ : GC _ _ _ _)
  refine GC.ret ?_
  refine fun a w h => Fin.back (rs := [.tmp 4]) (vs := [_]) (is := []) (js := []) rfl ⟨rfl, trivial⟩ rfl rfl ?_ h
  clear h
  refine ⟨congrArg Value.bool ?_, rfl, rfl⟩; simp
def sameRes (r s : Res) : Bool := decide (r.code = s.code) && decide (r.data = s.data)
theorem same_ct (r s : Res) (A B : Option Addr) (cp cq : Nat) : Ct Try.prog 34 [.agg #[.int .u8 r.code, .slice A r.data.length cp], .agg #[.int .u8 s.code, .slice B s.data.length cq]] [] [Pers.row Kd.u8 A r.data, Pers.row Kd.u8 B s.data]
    (fun v G Q => v = .bool (sameRes r s) ∧ G = [] ∧ Q = []) := by
  refine Ct.intro Try.func34 rfl rfl rfl (fun c hc => ?_)
  refine GC.seq' ?_
  refine GC.region ?_
  refine GL.step rfl (t_box rfl rfl rfl) (GL.ex fun b_t2 => ?_)
  refine GL.step rfl (t_box rfl rfl rfl) (GL.ex fun b_t3 => ?_)
  refine GL.pure rfl (p_assign rfl) ?_
  refine GL.nil (?_ : GC _ _ _ _)
  refine GC.seq' ?_
  refine GC.region ?_
  refine GL.pure rfl (p_fieldAddr fo_49_0 rfl) ?_
  refine GL.step rfl (t_mem rfl (m_load (i := 1) rfl rfl ag_47 rfl)) ?_
  refine GL.pure rfl (p_fieldAddr fo_49_0 rfl) ?_
  refine GL.step rfl (t_mem rfl (m_load (i := 0) rfl rfl ag_47 rfl)) ?_
  refine GL.pure rfl (p_eql rfl rfl) ?_
  refine GL.pure rfl (p_move rfl) ?_
  refine GL.split (i := 10) rfl (fun h1 => ?_) (fun h1 => ?_)
  · try simp only [decide_eq_true_eq, decide_eq_false_iff_not, Bool.not_eq_true', Bool.not_eq_false', Bool.not_true, Bool.not_false, Bool.not_not, ne_eq, Decidable.not_not, Int.not_lt, Int.not_le, gt_iff_lt, ge_iff_le, bool_true_eq_, bool_false_eq_] at h1
    refine GL.pureG (s := 10) rfl rfl rfl (p_fieldAddr fo_49_1 rfl) ?_
    refine GL.stepG rfl (s := 10) rfl rfl (t_mem rfl (m_load (i := 1) rfl rfl ag_31 rfl)) ?_
    refine GL.stepG rfl (s := 10) rfl rfl (t_mem rfl (m_str (i := 0) rfl rfl Try.underlying31 Try.underlying5 Try.underlying9)) ?_
    refine GL.pureG (s := 10) rfl rfl rfl (p_fieldAddr fo_49_1 rfl) ?_
    refine GL.stepG rfl (s := 10) rfl rfl (t_mem rfl (m_load (i := 0) rfl rfl ag_31 rfl)) ?_
    refine GL.stepG rfl (s := 10) rfl rfl (t_mem rfl (m_str (i := 1) rfl rfl Try.underlying31 Try.underlying5 Try.underlying9)) ?_
    refine GL.pureG (s := 10) rfl rfl rfl (p_seql rfl rfl) ?_
    refine GL.pure rfl (p_pick_true rfl rfl) ?_
    refine GL.pure rfl (p_assign rfl) ?_
    refine GL.nil (?_ : GC _ _ _ _)
    refine GC.ret ?_
    refine fun a w h => Fin.back (rs := [.tmp 4]) (vs := [_]) (is := []) (js := []) rfl ⟨rfl, trivial⟩ rfl rfl ?_ h
    clear h
    refine ⟨congrArg Value.bool ?_, rfl, rfl⟩; simp [sameRes, *]
  · try simp only [decide_eq_true_eq, decide_eq_false_iff_not, Bool.not_eq_true', Bool.not_eq_false', Bool.not_true, Bool.not_false, Bool.not_not, ne_eq, Decidable.not_not, Int.not_lt, Int.not_le, gt_iff_lt, ge_iff_le, bool_true_eq_, bool_false_eq_] at h1
    refine GL.pass (s := 10) rfl rfl rfl ?_
    refine GL.pass (s := 10) rfl rfl rfl ?_
    refine GL.pass (s := 10) rfl rfl rfl ?_
    refine GL.pass (s := 10) rfl rfl rfl ?_
    refine GL.pass (s := 10) rfl rfl rfl ?_
    refine GL.pass (s := 10) rfl rfl rfl ?_
    refine GL.pass (s := 10) rfl rfl rfl ?_
    refine GL.pure rfl (p_pick_false rfl rfl) ?_
    refine GL.pure rfl (p_assign rfl) ?_
    refine GL.nil (?_ : GC _ _ _ _)
    refine GC.ret ?_
    refine fun a w h => Fin.back (rs := [.tmp 4]) (vs := [_]) (is := []) (js := []) rfl ⟨rfl, trivial⟩ rfl rfl ?_ h
    clear h
    refine ⟨congrArg Value.bool ?_, rfl, rfl⟩; simp [sameRes, *]

/-! ### the volume -/
structure Vol where
  bl : Int
  sz : Int
  b : List UInt8
  vs : List Int
  last : Int
  deriving Inhabited, DecidableEq
structure VolOk (v : Vol) : Prop where
  shp : shapeOk v.bl v.sz
  lb : v.b.length = (v.bl * v.sz).toNat
  lv : v.vs.length = v.bl.toNat
  ver : ∀ x ∈ v.vs, 0 ≤ x ∧ x ≤ 4611686018427387904
  last : 0 ≤ v.last ∧ v.last ≤ 4611686018427387904
abbrev volG (p pb pv : Nat) (v : Vol) : List Own := [.cells p [.int .i64 v.bl, .int .i64 v.sz, .slice (some ⟨pb, 0, none⟩) (v.bl * v.sz).toNat (v.bl * v.sz).toNat, .slice (some ⟨pv, 0, none⟩) v.bl.toNat v.bl.toNat, .int .i64 v.last] 58,
  .cells pb (v.b.map u8v) 5, .cells pv (v.vs.map (Value.int .i64)) 3]
def newV (bl sz : Int) : Vol := ⟨bl, sz, List.replicate (bl * sz).toNat 0, List.replicate bl.toNat 0, 0⟩
theorem newV_ok {bl sz : Int} (h : shapeOk bl sz) : VolOk (newV bl sz) := ⟨h, by simp [newV], by simp [newV], fun x hx => by rw [List.eq_of_mem_replicate hx]; decide, by simp [newV]⟩

/-- Products of a shape. -/
theorem atB {bl sz i n : Int} (hs : shapeOk bl sz) (h0 : 0 ≤ i) (h1 : 1 ≤ n) (h2 : i + n ≤ bl) : 0 ≤ i * sz ∧ i * sz + 1 ≤ (i + n) * sz ∧ (i + n) * sz ≤ bl * sz ∧ bl * sz ≤ 16777216 := by
  obtain ⟨s1, s2, s3, s4⟩ := hs
  refine ⟨Int.mul_nonneg h0 (by omega), ?_, Int.mul_le_mul_of_nonneg_right h2 (by omega), (mulB (a := 4096) (b := 4096) (by omega) s2 (by omega) s4).2⟩
  rw [Int.add_mul]
  have : 1 * 1 ≤ n * sz := Int.mul_le_mul h1 s3 (by omega) (by omega)
  omega
theorem mulS {bl sz : Int} (hs : shapeOk bl sz) : 0 ≤ bl * sz ∧ bl * sz ≤ 16777216 ∧ 1 ≤ bl * sz := by
  obtain ⟨s1, s2, s3, s4⟩ := hs
  have := mulB (x := bl) (a := 4096) (y := sz) (b := 4096) (by omega) s2 (by omega) s4
  have h1 : 1 * 1 ≤ bl * sz := Int.mul_le_mul s1 s3 (by omega) (by omega)
  omega

theorem made_ct (p pb pv : Nat) (v : Vol) : Ct Try.prog 27 [.pointer (some ⟨p, 0, none⟩)] (volG p pb pv v) [] (fun u G Q => u = .bool true ∧ G = volG p pb pv v ∧ Q = []) := by
  refine Ct.intro Try.func27 rfl rfl rfl (fun c hc => ?_)
  refine GC.seq' ?_
  refine GC.region ?_
  refine GL.pure rfl (p_assign rfl) ?_
  refine GL.nil (?_ : GC _ _ _ _)
  refine GC.seq' ?_
  refine GC.region ?_
  refine GL.pure rfl (p_move rfl) ?_
  refine GL.pure rfl (p_pnil_neq Try.underlying24 rfl rfl) ?_
  refine GL.pure rfl (p_move rfl) ?_
  refine GL.pureG (s := 5) rfl rfl rfl (p_move rfl) ?_
  refine GL.pureG (s := 5) rfl rfl rfl (p_nilCheck rfl) ?_
  refine GL.pureG (s := 5) rfl rfl rfl (p_fieldAddr fo_58_1 rfl) ?_
  refine GL.stepG rfl (s := 5) rfl rfl (t_mem rfl (m_load (i := 0) rfl rfl ag_31 rfl)) ?_
  refine GL.pureG (s := 5) rfl rfl rfl (p_slnil_neq Try.underlying31 rfl rfl) ?_
  refine GL.pure rfl (p_pick_true rfl rfl) ?_
  refine GL.pure rfl (p_assign rfl) ?_
  refine GL.nil (?_ : GC _ _ _ _)
  refine GC.ret ?_
  refine fun a w h => Fin.back (rs := [.tmp 2]) (vs := [_]) (is := [0, 0, 0]) (js := []) rfl ⟨rfl, trivial⟩ rfl rfl ?_ h
  clear h
  exact ⟨rfl, rfl, rfl⟩

/-- A piece of a list that is written, number by number. -/
theorem laid_step {vs : List Int} {i k : Nat} {num : Int} (h : i + k < vs.length) : (laid vs i (List.replicate k num)).set (i + k) num = laid vs i (List.replicate (k + 1) num) := by
  apply List.ext_getElem?
  intro j
  simp only [laid, List.length_replicate]
  rw [List.getElem?_set]
  have hl : (List.take i vs ++ List.replicate k num ++ List.drop (i + k) vs).length = vs.length := by simp; omega
  by_cases hj : i + k = j
  · subst hj
    rw [if_pos rfl, if_pos (by omega)]
    simp [List.getElem?_append, List.getElem?_replicate, show min i vs.length = i by omega]
  · rw [if_neg hj]
    simp only [List.getElem?_append, List.getElem?_replicate, List.length_append, List.length_take, List.length_replicate, show min i vs.length = i by omega, List.getElem?_drop]
    by_cases h1 : j < i
    · simp [h1, show j < i + k by omega, show j < i + (k + 1) by omega]
    · by_cases h2 : j < i + k
      · simp [h1, h2, show j < i + (k + 1) by omega, show j - i < k by omega, show j - i < k + 1 by omega]
      · simp [h1, h2, show ¬ j < i + (k + 1) by omega]
        congr 1
        omega
theorem laid_nil {α : Type} (vs : List α) (i : Nat) : laid vs i [] = vs := by simp [laid]

theorem at_ct (p pb pv : Nat) (v : Vol) (i n : Int) (hv : VolOk v) (h0 : 0 ≤ i) (h1 : 1 ≤ n) (h2 : i + n ≤ v.bl) : Ct Try.prog 29 [.pointer (some ⟨p, 0, none⟩), .int .i64 i, .int .i64 n] (volG p pb pv v) []
    (fun u G Q => u = .slice (some ⟨pb, (i * v.sz).toNat, none⟩) (seg v.b (i * v.sz).toNat ((i + n) * v.sz).toNat).length (((i + n) * v.sz).toNat - (i * v.sz).toNat) ∧ G = volG p pb pv v ∧ Q = []) := by
  have hb := atB hv.shp h0 h1 h2
  have hs := hv.shp
  have hl := hv.lb
  simp only [shapeOk] at hs
  refine Ct.intro Try.func29 rfl rfl rfl (fun c hc => ?_)
  refine GC.seq' ?_
  refine GC.region ?_
  refine GL.pure rfl (p_assign rfl) ?_
  refine GL.nil (?_ : GC _ _ _ _)
  refine GC.seq' ?_
  refine GC.regionQ wide_ (by kernel_rfl) ?_
  refine GQ.step rfl (q_pure (p_move rfl)) ?_
  refine GQ.step rfl (q_pure (p_move rfl)) ?_
  refine GQ.step rfl (q_pure (p_nilCheck rfl)) ?_
  refine GQ.step rfl (q_pure (p_fieldAddr fo_58_0 rfl)) ?_
  refine GQ.step rfl (q_pure (p_fieldAddr fo_23_1 rfl)) ?_
  refine GQ.step rfl (q_mem (m_load (i := 0) rfl rfl ag_3 rfl)) ?_
  refine GQ.step rfl (q_pure (p_mul rfl rfl (w64 (by omega) (by omega)))) ?_
  refine GQ.step rfl (q_pure (p_move rfl)) ?_
  refine GQ.step rfl (q_pure (p_move rfl)) ?_
  refine GQ.step rfl (q_pure (p_add rfl rfl (w64 (by omega) (by omega)))) ?_
  refine GQ.step rfl (q_pure (p_move rfl)) ?_
  refine GQ.step rfl (q_pure (p_nilCheck rfl)) ?_
  refine GQ.step rfl (q_pure (p_fieldAddr fo_58_0 rfl)) ?_
  refine GQ.step rfl (q_pure (p_fieldAddr fo_23_1 rfl)) ?_
  refine GQ.step rfl (q_mem (m_load (i := 0) rfl rfl ag_3 rfl)) ?_
  refine GQ.step rfl (q_pure (p_mul rfl rfl (w64 (by omega) (by omega)))) ?_
  refine GQ.step rfl (q_pure (p_assign rfl)) ?_
  refine GQ.step rfl (q_pure (p_assign rfl)) ?_
  refine GQ.nil (?_ : GC _ _ _ _)
  refine GC.seq' ?_
  refine GC.region ?_
  refine GL.pure rfl (p_move rfl) ?_
  refine GL.pure rfl (p_nilCheck rfl) ?_
  refine GL.pure rfl (p_fieldAddr fo_58_1 rfl) ?_
  refine GL.step rfl (t_mem rfl (m_load (i := 0) rfl rfl ag_31 rfl)) ?_
  refine GL.pure rfl (p_move rfl) ?_
  refine GL.pure rfl (p_move rfl) ?_
  refine GL.pure rfl (p_move rfl) ?_
  refine GL.pure rfl (p_cut_lhm rfl rfl rfl rfl Try.underlying31 sz_5 (by omega) (by omega) (by omega) (by omega) (seg_length (xs := v.b) (by omega)).symm rfl (slA_blk (by omega))) ?_
  refine GL.pure rfl (p_assign rfl) ?_
  refine GL.nil (?_ : GC _ _ _ _)
  refine GC.ret ?_
  refine fun a w h => Fin.back (rs := [.tmp 6]) (vs := [_]) (is := [0, 0, 0]) (js := []) rfl ⟨rfl, trivial⟩ rfl rfl ?_ h
  clear h
  exact ⟨by rw [Nat.zero_add, Nat.mul_one]; rfl, rfl, rfl⟩
theorem stamp_ct (p pb pv : Nat) (v : Vol) (i n num : Int) (hv : VolOk v) (h0 : 0 ≤ i) (h1 : 1 ≤ n) (h2 : i + n ≤ v.bl) : Ct Try.prog 37 [.pointer (some ⟨p, 0, none⟩), .int .i64 i, .int .i64 n, .int .i64 num] (volG p pb pv v) []
    (fun u G Q => u = .tuple #[] ∧ G = volG p pb pv { v with vs := laid v.vs i.toNat (List.replicate n.toNat num) } ∧ Q = []) := by
  have hs := hv.shp
  have hl := hv.lv
  simp only [shapeOk] at hs
  refine Ct.intro Try.func37 rfl rfl rfl (fun c hc => ?_)
  refine GC.seq' ?_
  refine GC.region ?_
  refine GL.pure rfl (p_move rfl) ?_
  refine GL.pure rfl (p_move rfl) ?_
  refine GL.nil (?_ : GC _ _ _ _)
  refine GC.block ?_
  refine GC.imp (fun a w h => (⟨by simp; omega, by rw [List.replicate_zero, laid_nil]; exact h.cut (is := [0, 0, 0]) (js := []) ⟨rfl, rfl, rfl, rfl, rfl, trivial⟩ rfl rfl⟩ : (fun (k : Nat) (a : Act) (w : World) => (k : Int) ≤ n ∧ St c 23 [(0, .pointer (some ⟨p, 0, none⟩)), (1, .int .i64 i), (3, .int .i64 num), (9, .int .i64 n), (10, .int .i64 (k : Int))] [.cells p [.int .i64 v.bl, .int .i64 v.sz, .slice (some ⟨pb, 0, none⟩) (v.bl * v.sz).toNat (v.bl * v.sz).toNat, .slice (some ⟨pv, 0, none⟩) v.bl.toNat v.bl.toNat, .int .i64 v.last] 58, .cells pb (v.b.map u8v) 5, .cells pv ((laid v.vs i.toNat (List.replicate k num)).map (Value.int .i64)) 3] [] a w) 0 a w)) (GC.loop (fun (k : Nat) (a : Act) (w : World) => (k : Int) ≤ n ∧ St c 23 [(0, .pointer (some ⟨p, 0, none⟩)), (1, .int .i64 i), (3, .int .i64 num), (9, .int .i64 n), (10, .int .i64 (k : Int))] [.cells p [.int .i64 v.bl, .int .i64 v.sz, .slice (some ⟨pb, 0, none⟩) (v.bl * v.sz).toNat (v.bl * v.sz).toNat, .slice (some ⟨pv, 0, none⟩) v.bl.toNat v.bl.toNat, .int .i64 v.last] 58, .cells pb (v.b.map u8v) 5, .cells pv ((laid v.vs i.toNat (List.replicate k num)).map (Value.int .i64)) 3] [] a w) (fun k => n.toNat - k) 0 ?_)
  intro k
  refine GC.and fun hk => ?_
  refine GC.seq' ?_
  refine GC.region ?_
  refine GL.pure rfl (p_lss rfl rfl) ?_
  refine GL.nil (?_ : GC _ _ _ _)
  refine GC.seq' ?_
  refine GC.cond rfl (fun h1 => ?_) (fun h1 => ?_)
  · try simp only [decide_eq_true_eq, decide_eq_false_iff_not, Bool.not_eq_true', Bool.not_eq_false', Bool.not_true, Bool.not_false, Bool.not_not, ne_eq, Decidable.not_not, Int.not_lt, Int.not_le, gt_iff_lt, ge_iff_le, bool_true_eq_, bool_false_eq_] at h1
    refine GC.skip (?_ : GC _ _ _ _)
    refine GC.seq' ?_
    refine GC.block ?_
    refine GC.seq' ?_
    refine GC.region ?_
    refine GL.pure rfl (p_move rfl) ?_
    refine GL.pure rfl (p_assign rfl) ?_
    refine GL.nil (?_ : GC _ _ _ _)
    refine GC.region ?_
    refine GL.pure rfl (p_move rfl) ?_
    refine GL.pure rfl (p_nilCheck rfl) ?_
    refine GL.pure rfl (p_fieldAddr fo_58_2 rfl) ?_
    refine GL.step rfl (t_mem rfl (m_load (i := 0) rfl rfl ag_56 rfl)) ?_
    refine GL.pure rfl (p_move rfl) ?_
    refine GL.pure rfl (p_move rfl) ?_
    refine GL.pure rfl (p_add rfl rfl (w64 (by (first | omega | (rw [laid_length (by simp; omega)]; omega))) (by (first | omega | (rw [laid_length (by simp; omega)]; omega))))) ?_
    refine GL.pure rfl (p_move rfl) ?_
    refine GL.pure rfl (p_indexB rfl rfl Try.underlying56 sz_3 (by (first | omega | (rw [laid_length (by simp; omega)]; omega))) (by (first | omega | (rw [laid_length (by simp; omega)]; omega)))) ?_
    refine GL.step rfl (t_store (i := 2) rfl rfl rfl rfl sz_3 rfl (upd_map _ (by (first | omega | (rw [laid_length (by simp; omega)]; omega))) (by (first | omega | (rw [laid_length (by simp; omega)]; omega)))) rfl) ?_
    refine GL.nil (?_ : GC _ _ _ _)
    refine GC.region ?_
    refine GL.pure rfl (p_add rfl rfl (w64 (by (first | omega | (rw [laid_length (by simp; omega)]; omega))) (by (first | omega | (rw [laid_length (by simp; omega)]; omega))))) ?_
    refine GL.pure rfl (p_move rfl) ?_
    refine GL.nil ?_
    exact fun a w h => ⟨(k + 1), (by omega), (by omega), by rw [← laid_step (by omega), show i.toNat + k = (i + (k : Int)).toNat by omega]; exact h.cut (is := [0, 0, 0]) (js := []) ⟨rfl, rfl, rfl, rfl, rfl, trivial⟩ rfl rfl⟩
  · try simp only [decide_eq_true_eq, decide_eq_false_iff_not, Bool.not_eq_true', Bool.not_eq_false', Bool.not_true, Bool.not_false, Bool.not_not, ne_eq, Decidable.not_not, Int.not_lt, Int.not_le, gt_iff_lt, ge_iff_le, bool_true_eq_, bool_false_eq_] at h1
    refine GC.exit ?_
    refine fun a w h => Fin.back0 rfl (is := [0, 0, 0]) (js := []) rfl rfl ?_ h
    clear h
    obtain rfl : n.toNat = k := by omega
    exact ⟨rfl, rfl, rfl⟩
end Go.Proofs.Ytihhpkbbhfcdcaa
