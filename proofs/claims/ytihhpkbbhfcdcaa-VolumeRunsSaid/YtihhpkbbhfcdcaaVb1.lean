/- THE VOLUME: contracts of its small functions: shapes, requests, bytes. -/
import Derived.Test.YtihhpkbbhfcdcaaVd
set_option linter.unusedVariables false
set_option linter.unusedSimpArgs false
set_option maxRecDepth 100000
namespace Go.Proofs.Ytihhpkbbhfcdcaa
open Go Go.Sx Go.Proofs
abbrev shpV (bl sz : Int) : Value := .agg #[.int .i64 bl, .int .i64 sz]
abbrev opV (kind a n : Int) (A : Option Addr) (dl cp : Nat) (B : Option Addr) (ol cq : Nat) : Value := .agg #[.int .u8 kind, .int .i64 a, .int .i64 n, .slice A dl cp, .slice B ol cq]

theorem shape_ct (bl sz : Int) : Ct Try.prog 26 [shpV bl sz] [] [] (fun v G Q => v = .int .i64 (shapeE bl sz) ∧ G = [] ∧ Q = []) := by
  refine Ct.intro Try.func26 rfl rfl rfl (fun c hc => ?_)
  refine GC.seq' ?_
  refine GC.region ?_
  refine GL.step rfl (t_box rfl rfl rfl) (GL.ex fun b_t1 => ?_)
  refine GL.pure rfl (p_assign rfl) ?_
  refine GL.nil (?_ : GC _ _ _ _)
  refine GC.seq' ?_
  refine GC.seq' ?_
  refine GC.region ?_
  refine GL.pure rfl (p_fieldAddr fo_23_0 rfl) ?_
  refine GL.step rfl (t_mem rfl (m_load (i := 0) rfl rfl ag_3 rfl)) ?_
  refine GL.pure rfl (p_lss rfl rfl) ?_
  refine GL.pure rfl (p_move rfl) ?_
  refine GL.split (i := 6) rfl (fun h1 => ?_) (fun h1 => ?_)
  · try simp only [decide_eq_true_eq, decide_eq_false_iff_not, Bool.not_eq_true', Bool.not_eq_false', Bool.not_true, Bool.not_false, Bool.not_not, ne_eq, Decidable.not_not, Int.not_lt, Int.not_le, gt_iff_lt, ge_iff_le, bool_true_eq_, bool_false_eq_] at h1
    refine GL.pass (s := 6) rfl rfl rfl ?_
    refine GL.pass (s := 6) rfl rfl rfl ?_
    refine GL.pass (s := 6) rfl rfl rfl ?_
    refine GL.pure rfl (p_pick_true rfl rfl) ?_
    refine GL.pure rfl (p_move rfl) ?_
    refine GL.pass (s := 11) rfl rfl rfl ?_
    refine GL.pass (s := 11) rfl rfl rfl ?_
    refine GL.pass (s := 11) rfl rfl rfl ?_
    refine GL.pure rfl (p_pick_true rfl rfl) ?_
    refine GL.pure rfl (p_move rfl) ?_
    refine GL.pass (s := 16) rfl rfl rfl ?_
    refine GL.pass (s := 16) rfl rfl rfl ?_
    refine GL.pass (s := 16) rfl rfl rfl ?_
    refine GL.pure rfl (p_pick_true rfl rfl) ?_
    refine GL.nil (?_ : GC _ _ _ _)
    refine GC.cond_true rfl ?_
    refine GC.seq' ?_
    refine GC.region ?_
    refine GL.pure rfl (p_assign rfl) ?_
    refine GL.nil (?_ : GC _ _ _ _)
    refine GC.ret ?_
    refine fun a w h => Fin.back (rs := [.tmp 2]) (vs := [_]) (is := []) (js := []) rfl ⟨rfl, trivial⟩ rfl rfl ?_ h
    clear h
    refine ⟨congrArg (Value.int .i64) ?_, rfl, rfl⟩; unfold shapeE; first | rw [if_pos (by unfold shapeOk; omega)] | rw [if_neg (by unfold shapeOk; omega)]
  · try simp only [decide_eq_true_eq, decide_eq_false_iff_not, Bool.not_eq_true', Bool.not_eq_false', Bool.not_true, Bool.not_false, Bool.not_not, ne_eq, Decidable.not_not, Int.not_lt, Int.not_le, gt_iff_lt, ge_iff_le, bool_true_eq_, bool_false_eq_] at h1
    refine GL.pureG (s := 6) rfl rfl rfl (p_fieldAddr fo_23_0 rfl) ?_
    refine GL.stepG rfl (s := 6) rfl rfl (t_mem rfl (m_load (i := 0) rfl rfl ag_3 rfl)) ?_
    refine GL.pureG (s := 6) rfl rfl rfl (p_gtr rfl rfl) ?_
    refine GL.pure rfl (p_pick_false rfl rfl) ?_
    refine GL.pure rfl (p_move rfl) ?_
    refine GL.split (i := 11) rfl (fun h2 => ?_) (fun h2 => ?_)
    · try simp only [decide_eq_true_eq, decide_eq_false_iff_not, Bool.not_eq_true', Bool.not_eq_false', Bool.not_true, Bool.not_false, Bool.not_not, ne_eq, Decidable.not_not, Int.not_lt, Int.not_le, gt_iff_lt, ge_iff_le, bool_true_eq_, bool_false_eq_] at h2
      refine GL.pass (s := 11) rfl rfl rfl ?_
      refine GL.pass (s := 11) rfl rfl rfl ?_
      refine GL.pass (s := 11) rfl rfl rfl ?_
      refine GL.pure rfl (p_pick_true rfl rfl) ?_
      refine GL.pure rfl (p_move rfl) ?_
      refine GL.pass (s := 16) rfl rfl rfl ?_
      refine GL.pass (s := 16) rfl rfl rfl ?_
      refine GL.pass (s := 16) rfl rfl rfl ?_
      refine GL.pure rfl (p_pick_true rfl rfl) ?_
      refine GL.nil (?_ : GC _ _ _ _)
      refine GC.cond_true rfl ?_
      refine GC.seq' ?_
      refine GC.region ?_
      refine GL.pure rfl (p_assign rfl) ?_
      refine GL.nil (?_ : GC _ _ _ _)
      refine GC.ret ?_
      refine fun a w h => Fin.back (rs := [.tmp 2]) (vs := [_]) (is := []) (js := []) rfl ⟨rfl, trivial⟩ rfl rfl ?_ h
      clear h
      refine ⟨congrArg (Value.int .i64) ?_, rfl, rfl⟩; unfold shapeE; first | rw [if_pos (by unfold shapeOk; omega)] | rw [if_neg (by unfold shapeOk; omega)]
    · try simp only [decide_eq_true_eq, decide_eq_false_iff_not, Bool.not_eq_true', Bool.not_eq_false', Bool.not_true, Bool.not_false, Bool.not_not, ne_eq, Decidable.not_not, Int.not_lt, Int.not_le, gt_iff_lt, ge_iff_le, bool_true_eq_, bool_false_eq_] at h2
      refine GL.pureG (s := 11) rfl rfl rfl (p_fieldAddr fo_23_1 rfl) ?_
      refine GL.stepG rfl (s := 11) rfl rfl (t_mem rfl (m_load (i := 0) rfl rfl ag_3 rfl)) ?_
      refine GL.pureG (s := 11) rfl rfl rfl (p_lss rfl rfl) ?_
      refine GL.pure rfl (p_pick_false rfl rfl) ?_
      refine GL.pure rfl (p_move rfl) ?_
      refine GL.split (i := 16) rfl (fun h3 => ?_) (fun h3 => ?_)
      · try simp only [decide_eq_true_eq, decide_eq_false_iff_not, Bool.not_eq_true', Bool.not_eq_false', Bool.not_true, Bool.not_false, Bool.not_not, ne_eq, Decidable.not_not, Int.not_lt, Int.not_le, gt_iff_lt, ge_iff_le, bool_true_eq_, bool_false_eq_] at h3
        refine GL.pass (s := 16) rfl rfl rfl ?_
        refine GL.pass (s := 16) rfl rfl rfl ?_
        refine GL.pass (s := 16) rfl rfl rfl ?_
        refine GL.pure rfl (p_pick_true rfl rfl) ?_
        refine GL.nil (?_ : GC _ _ _ _)
        refine GC.cond_true rfl ?_
        refine GC.seq' ?_
        refine GC.region ?_
        refine GL.pure rfl (p_assign rfl) ?_
        refine GL.nil (?_ : GC _ _ _ _)
        refine GC.ret ?_
        refine fun a w h => Fin.back (rs := [.tmp 2]) (vs := [_]) (is := []) (js := []) rfl ⟨rfl, trivial⟩ rfl rfl ?_ h
        clear h
        refine ⟨congrArg (Value.int .i64) ?_, rfl, rfl⟩; unfold shapeE; first | rw [if_pos (by unfold shapeOk; omega)] | rw [if_neg (by unfold shapeOk; omega)]
      · try simp only [decide_eq_true_eq, decide_eq_false_iff_not, Bool.not_eq_true', Bool.not_eq_false', Bool.not_true, Bool.not_false, Bool.not_not, ne_eq, Decidable.not_not, Int.not_lt, Int.not_le, gt_iff_lt, ge_iff_le, bool_true_eq_, bool_false_eq_] at h3
        refine GL.pureG (s := 16) rfl rfl rfl (p_fieldAddr fo_23_1 rfl) ?_
        refine GL.stepG rfl (s := 16) rfl rfl (t_mem rfl (m_load (i := 0) rfl rfl ag_3 rfl)) ?_
        refine GL.pureG (s := 16) rfl rfl rfl (p_gtr rfl rfl) ?_
        refine GL.pure rfl (p_pick_false rfl rfl) ?_
        refine GL.nil (?_ : GC _ _ _ _)
        refine GC.cond rfl (fun h4 => ?_) (fun h4 => ?_)
        · try simp only [decide_eq_true_eq, decide_eq_false_iff_not, Bool.not_eq_true', Bool.not_eq_false', Bool.not_true, Bool.not_false, Bool.not_not, ne_eq, Decidable.not_not, Int.not_lt, Int.not_le, gt_iff_lt, ge_iff_le, bool_true_eq_, bool_false_eq_] at h4
          refine GC.seq' ?_
          refine GC.region ?_
          refine GL.pure rfl (p_assign rfl) ?_
          refine GL.nil (?_ : GC _ _ _ _)
          refine GC.ret ?_
          refine fun a w h => Fin.back (rs := [.tmp 2]) (vs := [_]) (is := []) (js := []) rfl ⟨rfl, trivial⟩ rfl rfl ?_ h
          clear h
          refine ⟨congrArg (Value.int .i64) ?_, rfl, rfl⟩; unfold shapeE; first | rw [if_pos (by unfold shapeOk; omega)] | rw [if_neg (by unfold shapeOk; omega)]
        · try simp only [decide_eq_true_eq, decide_eq_false_iff_not, Bool.not_eq_true', Bool.not_eq_false', Bool.not_true, Bool.not_false, Bool.not_not, ne_eq, Decidable.not_not, Int.not_lt, Int.not_le, gt_iff_lt, ge_iff_le, bool_true_eq_, bool_false_eq_] at h4
          refine GC.skip (?_ : GC _ _ _ _)
          refine GC.seq' ?_
          refine GC.region ?_
          refine GL.pure rfl (p_assign rfl) ?_
          refine GL.nil (?_ : GC _ _ _ _)
          refine GC.ret ?_
          refine fun a w h => Fin.back (rs := [.tmp 2]) (vs := [_]) (is := []) (js := []) rfl ⟨rfl, trivial⟩ rfl rfl ?_ h
          clear h
          refine ⟨congrArg (Value.int .i64) ?_, rfl, rfl⟩; unfold shapeE; first | rw [if_pos (by unfold shapeOk; omega)] | rw [if_neg (by unfold shapeOk; omega)]
theorem shapeR_ct (bl sz : Int) : Ct Try.prog 10 [shpV bl sz] [] [] (fun v G Q => v = .int .i64 (shapeE bl sz) ∧ G = [] ∧ Q = []) := by
  refine Ct.intro Try.func10 rfl rfl rfl (fun c hc => ?_)
  refine GC.seq' ?_
  refine GC.region ?_
  refine GL.step rfl (t_box rfl rfl rfl) (GL.ex fun b_t1 => ?_)
  refine GL.pure rfl (p_assign rfl) ?_
  refine GL.nil (?_ : GC _ _ _ _)
  refine GC.seq' ?_
  refine GC.seq' ?_
  refine GC.region ?_
  refine GL.pure rfl (p_fieldAddr fo_23_0 rfl) ?_
  refine GL.step rfl (t_mem rfl (m_load (i := 0) rfl rfl ag_3 rfl)) ?_
  refine GL.pure rfl (p_lss rfl rfl) ?_
  refine GL.pure rfl (p_move rfl) ?_
  refine GL.split (i := 6) rfl (fun h1 => ?_) (fun h1 => ?_)
  · try simp only [decide_eq_true_eq, decide_eq_false_iff_not, Bool.not_eq_true', Bool.not_eq_false', Bool.not_true, Bool.not_false, Bool.not_not, ne_eq, Decidable.not_not, Int.not_lt, Int.not_le, gt_iff_lt, ge_iff_le, bool_true_eq_, bool_false_eq_] at h1
    refine GL.pass (s := 6) rfl rfl rfl ?_
    refine GL.pass (s := 6) rfl rfl rfl ?_
    refine GL.pass (s := 6) rfl rfl rfl ?_
    refine GL.pure rfl (p_pick_true rfl rfl) ?_
    refine GL.pure rfl (p_move rfl) ?_
    refine GL.pass (s := 11) rfl rfl rfl ?_
    refine GL.pass (s := 11) rfl rfl rfl ?_
    refine GL.pass (s := 11) rfl rfl rfl ?_
    refine GL.pure rfl (p_pick_true rfl rfl) ?_
    refine GL.pure rfl (p_move rfl) ?_
    refine GL.pass (s := 16) rfl rfl rfl ?_
    refine GL.pass (s := 16) rfl rfl rfl ?_
    refine GL.pass (s := 16) rfl rfl rfl ?_
    refine GL.pure rfl (p_pick_true rfl rfl) ?_
    refine GL.nil (?_ : GC _ _ _ _)
    refine GC.cond_true rfl ?_
    refine GC.seq' ?_
    refine GC.region ?_
    refine GL.pure rfl (p_assign rfl) ?_
    refine GL.nil (?_ : GC _ _ _ _)
    refine GC.ret ?_
    refine fun a w h => Fin.back (rs := [.tmp 2]) (vs := [_]) (is := []) (js := []) rfl ⟨rfl, trivial⟩ rfl rfl ?_ h
    clear h
    refine ⟨congrArg (Value.int .i64) ?_, rfl, rfl⟩; unfold shapeE; first | rw [if_pos (by unfold shapeOk; omega)] | rw [if_neg (by unfold shapeOk; omega)]
  · try simp only [decide_eq_true_eq, decide_eq_false_iff_not, Bool.not_eq_true', Bool.not_eq_false', Bool.not_true, Bool.not_false, Bool.not_not, ne_eq, Decidable.not_not, Int.not_lt, Int.not_le, gt_iff_lt, ge_iff_le, bool_true_eq_, bool_false_eq_] at h1
    refine GL.pureG (s := 6) rfl rfl rfl (p_fieldAddr fo_23_0 rfl) ?_
    refine GL.stepG rfl (s := 6) rfl rfl (t_mem rfl (m_load (i := 0) rfl rfl ag_3 rfl)) ?_
    refine GL.pureG (s := 6) rfl rfl rfl (p_gtr rfl rfl) ?_
    refine GL.pure rfl (p_pick_false rfl rfl) ?_
    refine GL.pure rfl (p_move rfl) ?_
    refine GL.split (i := 11) rfl (fun h2 => ?_) (fun h2 => ?_)
    · try simp only [decide_eq_true_eq, decide_eq_false_iff_not, Bool.not_eq_true', Bool.not_eq_false', Bool.not_true, Bool.not_false, Bool.not_not, ne_eq, Decidable.not_not, Int.not_lt, Int.not_le, gt_iff_lt, ge_iff_le, bool_true_eq_, bool_false_eq_] at h2
      refine GL.pass (s := 11) rfl rfl rfl ?_
      refine GL.pass (s := 11) rfl rfl rfl ?_
      refine GL.pass (s := 11) rfl rfl rfl ?_
      refine GL.pure rfl (p_pick_true rfl rfl) ?_
      refine GL.pure rfl (p_move rfl) ?_
      refine GL.pass (s := 16) rfl rfl rfl ?_
      refine GL.pass (s := 16) rfl rfl rfl ?_
      refine GL.pass (s := 16) rfl rfl rfl ?_
      refine GL.pure rfl (p_pick_true rfl rfl) ?_
      refine GL.nil (?_ : GC _ _ _ _)
      refine GC.cond_true rfl ?_
      refine GC.seq' ?_
      refine GC.region ?_
      refine GL.pure rfl (p_assign rfl) ?_
      refine GL.nil (?_ : GC _ _ _ _)
      refine GC.ret ?_
      refine fun a w h => Fin.back (rs := [.tmp 2]) (vs := [_]) (is := []) (js := []) rfl ⟨rfl, trivial⟩ rfl rfl ?_ h
      clear h
      refine ⟨congrArg (Value.int .i64) ?_, rfl, rfl⟩; unfold shapeE; first | rw [if_pos (by unfold shapeOk; omega)] | rw [if_neg (by unfold shapeOk; omega)]
    · try simp only [decide_eq_true_eq, decide_eq_false_iff_not, Bool.not_eq_true', Bool.not_eq_false', Bool.not_true, Bool.not_false, Bool.not_not, ne_eq, Decidable.not_not, Int.not_lt, Int.not_le, gt_iff_lt, ge_iff_le, bool_true_eq_, bool_false_eq_] at h2
      refine GL.pureG (s := 11) rfl rfl rfl (p_fieldAddr fo_23_1 rfl) ?_
      refine GL.stepG rfl (s := 11) rfl rfl (t_mem rfl (m_load (i := 0) rfl rfl ag_3 rfl)) ?_
      refine GL.pureG (s := 11) rfl rfl rfl (p_lss rfl rfl) ?_
      refine GL.pure rfl (p_pick_false rfl rfl) ?_
      refine GL.pure rfl (p_move rfl) ?_
      refine GL.split (i := 16) rfl (fun h3 => ?_) (fun h3 => ?_)
      · try simp only [decide_eq_true_eq, decide_eq_false_iff_not, Bool.not_eq_true', Bool.not_eq_false', Bool.not_true, Bool.not_false, Bool.not_not, ne_eq, Decidable.not_not, Int.not_lt, Int.not_le, gt_iff_lt, ge_iff_le, bool_true_eq_, bool_false_eq_] at h3
        refine GL.pass (s := 16) rfl rfl rfl ?_
        refine GL.pass (s := 16) rfl rfl rfl ?_
        refine GL.pass (s := 16) rfl rfl rfl ?_
        refine GL.pure rfl (p_pick_true rfl rfl) ?_
        refine GL.nil (?_ : GC _ _ _ _)
        refine GC.cond_true rfl ?_
        refine GC.seq' ?_
        refine GC.region ?_
        refine GL.pure rfl (p_assign rfl) ?_
        refine GL.nil (?_ : GC _ _ _ _)
        refine GC.ret ?_
        refine fun a w h => Fin.back (rs := [.tmp 2]) (vs := [_]) (is := []) (js := []) rfl ⟨rfl, trivial⟩ rfl rfl ?_ h
        clear h
        refine ⟨congrArg (Value.int .i64) ?_, rfl, rfl⟩; unfold shapeE; first | rw [if_pos (by unfold shapeOk; omega)] | rw [if_neg (by unfold shapeOk; omega)]
      · try simp only [decide_eq_true_eq, decide_eq_false_iff_not, Bool.not_eq_true', Bool.not_eq_false', Bool.not_true, Bool.not_false, Bool.not_not, ne_eq, Decidable.not_not, Int.not_lt, Int.not_le, gt_iff_lt, ge_iff_le, bool_true_eq_, bool_false_eq_] at h3
        refine GL.pureG (s := 16) rfl rfl rfl (p_fieldAddr fo_23_1 rfl) ?_
        refine GL.stepG rfl (s := 16) rfl rfl (t_mem rfl (m_load (i := 0) rfl rfl ag_3 rfl)) ?_
        refine GL.pureG (s := 16) rfl rfl rfl (p_gtr rfl rfl) ?_
        refine GL.pure rfl (p_pick_false rfl rfl) ?_
        refine GL.nil (?_ : GC _ _ _ _)
        refine GC.cond rfl (fun h4 => ?_) (fun h4 => ?_)
        · try simp only [decide_eq_true_eq, decide_eq_false_iff_not, Bool.not_eq_true', Bool.not_eq_false', Bool.not_true, Bool.not_false, Bool.not_not, ne_eq, Decidable.not_not, Int.not_lt, Int.not_le, gt_iff_lt, ge_iff_le, bool_true_eq_, bool_false_eq_] at h4
          refine GC.seq' ?_
          refine GC.region ?_
          refine GL.pure rfl (p_assign rfl) ?_
          refine GL.nil (?_ : GC _ _ _ _)
          refine GC.ret ?_
          refine fun a w h => Fin.back (rs := [.tmp 2]) (vs := [_]) (is := []) (js := []) rfl ⟨rfl, trivial⟩ rfl rfl ?_ h
          clear h
          refine ⟨congrArg (Value.int .i64) ?_, rfl, rfl⟩; unfold shapeE; first | rw [if_pos (by unfold shapeOk; omega)] | rw [if_neg (by unfold shapeOk; omega)]
        · try simp only [decide_eq_true_eq, decide_eq_false_iff_not, Bool.not_eq_true', Bool.not_eq_false', Bool.not_true, Bool.not_false, Bool.not_not, ne_eq, Decidable.not_not, Int.not_lt, Int.not_le, gt_iff_lt, ge_iff_le, bool_true_eq_, bool_false_eq_] at h4
          refine GC.skip (?_ : GC _ _ _ _)
          refine GC.seq' ?_
          refine GC.region ?_
          refine GL.pure rfl (p_assign rfl) ?_
          refine GL.nil (?_ : GC _ _ _ _)
          refine GC.ret ?_
          refine fun a w h => Fin.back (rs := [.tmp 2]) (vs := [_]) (is := []) (js := []) rfl ⟨rfl, trivial⟩ rfl rfl ?_ h
          clear h
          refine ⟨congrArg (Value.int .i64) ?_, rfl, rfl⟩; unfold shapeE; first | rw [if_pos (by unfold shapeOk; omega)] | rw [if_neg (by unfold shapeOk; omega)]
theorem small_ct (bl sz : Int) : Ct Try.prog 11 [shpV bl sz] [] [] (fun v G Q => v = .bool (decide (bl ≤ 64 ∧ sz ≤ 64)) ∧ G = [] ∧ Q = []) := by
  refine Ct.intro Try.func11 rfl rfl rfl (fun c hc => ?_)
  refine GC.seq' ?_
  refine GC.region ?_
  refine GL.step rfl (t_box rfl rfl rfl) (GL.ex fun b_t1 => ?_)
  refine GL.pure rfl (p_assign rfl) ?_
  refine GL.nil (?_ : GC _ _ _ _)
  refine GC.seq' ?_
  refine GC.region ?_
  refine GL.pure rfl (p_fieldAddr fo_23_0 rfl) ?_
  refine GL.step rfl (t_mem rfl (m_load (i := 0) rfl rfl ag_3 rfl)) ?_
  refine GL.pure rfl (p_leq rfl rfl) ?_
  refine GL.pure rfl (p_move rfl) ?_
  refine GL.split (i := 6) rfl (fun h1 => ?_) (fun h1 => ?_)
  · try simp only [decide_eq_true_eq, decide_eq_false_iff_not, Bool.not_eq_true', Bool.not_eq_false', Bool.not_true, Bool.not_false, Bool.not_not, ne_eq, Decidable.not_not, Int.not_lt, Int.not_le, gt_iff_lt, ge_iff_le, bool_true_eq_, bool_false_eq_] at h1
    refine GL.pureG (s := 6) rfl rfl rfl (p_fieldAddr fo_23_1 rfl) ?_
    refine GL.stepG rfl (s := 6) rfl rfl (t_mem rfl (m_load (i := 0) rfl rfl ag_3 rfl)) ?_
    refine GL.pureG (s := 6) rfl rfl rfl (p_leq rfl rfl) ?_
    refine GL.pure rfl (p_pick_true rfl rfl) ?_
    refine GL.pure rfl (p_assign rfl) ?_
    refine GL.nil (?_ : GC _ _ _ _)
    refine GC.ret ?_
    refine fun a w h => Fin.back (rs := [.tmp 2]) (vs := [_]) (is := []) (js := []) rfl ⟨rfl, trivial⟩ rfl rfl ?_ h
    clear h
    refine ⟨congrArg Value.bool ?_, rfl, rfl⟩; first | exact decide_eq_decide.2 (by omega) | exact (decide_eq_true (by omega)).symm | exact (decide_eq_false (by omega)).symm
  · try simp only [decide_eq_true_eq, decide_eq_false_iff_not, Bool.not_eq_true', Bool.not_eq_false', Bool.not_true, Bool.not_false, Bool.not_not, ne_eq, Decidable.not_not, Int.not_lt, Int.not_le, gt_iff_lt, ge_iff_le, bool_true_eq_, bool_false_eq_] at h1
    refine GL.pass (s := 6) rfl rfl rfl ?_
    refine GL.pass (s := 6) rfl rfl rfl ?_
    refine GL.pass (s := 6) rfl rfl rfl ?_
    refine GL.pure rfl (p_pick_false rfl rfl) ?_
    refine GL.pure rfl (p_assign rfl) ?_
    refine GL.nil (?_ : GC _ _ _ _)
    refine GC.ret ?_
    refine fun a w h => Fin.back (rs := [.tmp 2]) (vs := [_]) (is := []) (js := []) rfl ⟨rfl, trivial⟩ rfl rfl ?_ h
    clear h
    refine ⟨congrArg Value.bool ?_, rfl, rfl⟩; first | exact decide_eq_decide.2 (by omega) | exact (decide_eq_true (by omega)).symm | exact (decide_eq_false (by omega)).symm
theorem chg_ct (kind a_ n : Int) (A : Option Addr) (dl cp : Nat) (B : Option Addr) (ol cq : Nat) : Ct Try.prog 48 [opV kind a_ n A dl cp B ol cq] [] [] (fun v G Q => v = .bool (decide (chgP kind)) ∧ G = [] ∧ Q = []) := by
  refine Ct.intro Try.func48 rfl rfl rfl (fun c hc => ?_)
  refine GC.seq' ?_
  refine GC.region ?_
  refine GL.step rfl (t_box rfl rfl rfl) (GL.ex fun b_t1 => ?_)
  refine GL.pure rfl (p_assign rfl) ?_
  refine GL.nil (?_ : GC _ _ _ _)
  refine GC.seq' ?_
  refine GC.seq' ?_
  refine GC.region ?_
  refine GL.pure rfl (p_fieldAddr fo_42_0 rfl) ?_
  refine GL.step rfl (t_mem rfl (m_load (i := 0) rfl rfl ag_40 rfl)) ?_
  refine GL.nil (?_ : GC _ _ _ _)
  refine GC.block ?_
  refine GC.seq' ?_
  refine GC.seq' ?_
  refine GC.region ?_
  refine GL.pure rfl (p_eql rfl rfl) ?_
  refine GL.pure rfl (p_assign rfl) ?_
  refine GL.nil (?_ : GC _ _ _ _)
  refine GC.cond rfl (fun h1 => ?_) (fun h1 => ?_)
  · try simp only [decide_eq_true_eq, decide_eq_false_iff_not, Bool.not_eq_true', Bool.not_eq_false', Bool.not_true, Bool.not_false, Bool.not_not, ne_eq, Decidable.not_not, Int.not_lt, Int.not_le, gt_iff_lt, ge_iff_le, bool_true_eq_, bool_false_eq_] at h1
    refine GC.skip (?_ : GC _ _ _ _)
    refine GC.cond rfl (fun h2 => ?_) (fun h2 => ?_)
    · try simp only [decide_eq_true_eq, decide_eq_false_iff_not, Bool.not_eq_true', Bool.not_eq_false', Bool.not_true, Bool.not_false, Bool.not_not, ne_eq, Decidable.not_not, Int.not_lt, Int.not_le, gt_iff_lt, ge_iff_le, bool_true_eq_, bool_false_eq_] at h2
      refine GC.seq' ?_
      refine GC.region ?_
      refine GL.pure rfl (p_assign rfl) ?_
      refine GL.nil (?_ : GC _ _ _ _)
      refine GC.ret ?_
      refine fun a w h => Fin.back (rs := [.tmp 2]) (vs := [_]) (is := []) (js := []) rfl ⟨rfl, trivial⟩ rfl rfl ?_ h
      clear h
      refine ⟨congrArg Value.bool ?_, rfl, rfl⟩; first | exact (decide_eq_true (by unfold chgP; omega)).symm | exact (decide_eq_false (by unfold chgP; omega)).symm
    · try simp only [decide_eq_true_eq, decide_eq_false_iff_not, Bool.not_eq_true', Bool.not_eq_false', Bool.not_true, Bool.not_false, Bool.not_not, ne_eq, Decidable.not_not, Int.not_lt, Int.not_le, gt_iff_lt, ge_iff_le, bool_true_eq_, bool_false_eq_] at h2
      refine GC.skip (?_ : GC _ _ _ _)
      refine GC.seq' ?_
      refine GC.region ?_
      refine GL.pure rfl (p_assign rfl) ?_
      refine GL.nil (?_ : GC _ _ _ _)
      refine GC.ret ?_
      refine fun a w h => Fin.back (rs := [.tmp 2]) (vs := [_]) (is := []) (js := []) rfl ⟨rfl, trivial⟩ rfl rfl ?_ h
      clear h
      refine ⟨congrArg Value.bool ?_, rfl, rfl⟩; first | exact (decide_eq_true (by unfold chgP; omega)).symm | exact (decide_eq_false (by unfold chgP; omega)).symm
  · try simp only [decide_eq_true_eq, decide_eq_false_iff_not, Bool.not_eq_true', Bool.not_eq_false', Bool.not_true, Bool.not_false, Bool.not_not, ne_eq, Decidable.not_not, Int.not_lt, Int.not_le, gt_iff_lt, ge_iff_le, bool_true_eq_, bool_false_eq_] at h1
    refine GC.seq' ?_
    refine GC.region ?_
    refine GL.pure rfl (p_eql rfl rfl) ?_
    refine GL.pure rfl (p_assign rfl) ?_
    refine GL.nil (?_ : GC _ _ _ _)
    refine GC.cond rfl (fun h3 => ?_) (fun h3 => ?_)
    · try simp only [decide_eq_true_eq, decide_eq_false_iff_not, Bool.not_eq_true', Bool.not_eq_false', Bool.not_true, Bool.not_false, Bool.not_not, ne_eq, Decidable.not_not, Int.not_lt, Int.not_le, gt_iff_lt, ge_iff_le, bool_true_eq_, bool_false_eq_] at h3
      refine GC.skip (?_ : GC _ _ _ _)
      refine GC.cond rfl (fun h4 => ?_) (fun h4 => ?_)
      · try simp only [decide_eq_true_eq, decide_eq_false_iff_not, Bool.not_eq_true', Bool.not_eq_false', Bool.not_true, Bool.not_false, Bool.not_not, ne_eq, Decidable.not_not, Int.not_lt, Int.not_le, gt_iff_lt, ge_iff_le, bool_true_eq_, bool_false_eq_] at h4
        refine GC.seq' ?_
        refine GC.region ?_
        refine GL.pure rfl (p_assign rfl) ?_
        refine GL.nil (?_ : GC _ _ _ _)
        refine GC.ret ?_
        refine fun a w h => Fin.back (rs := [.tmp 2]) (vs := [_]) (is := []) (js := []) rfl ⟨rfl, trivial⟩ rfl rfl ?_ h
        clear h
        refine ⟨congrArg Value.bool ?_, rfl, rfl⟩; first | exact (decide_eq_true (by unfold chgP; omega)).symm | exact (decide_eq_false (by unfold chgP; omega)).symm
      · try simp only [decide_eq_true_eq, decide_eq_false_iff_not, Bool.not_eq_true', Bool.not_eq_false', Bool.not_true, Bool.not_false, Bool.not_not, ne_eq, Decidable.not_not, Int.not_lt, Int.not_le, gt_iff_lt, ge_iff_le, bool_true_eq_, bool_false_eq_] at h4
        refine GC.skip (?_ : GC _ _ _ _)
        refine GC.seq' ?_
        refine GC.region ?_
        refine GL.pure rfl (p_assign rfl) ?_
        refine GL.nil (?_ : GC _ _ _ _)
        refine GC.ret ?_
        refine fun a w h => Fin.back (rs := [.tmp 2]) (vs := [_]) (is := []) (js := []) rfl ⟨rfl, trivial⟩ rfl rfl ?_ h
        clear h
        refine ⟨congrArg Value.bool ?_, rfl, rfl⟩; first | exact (decide_eq_true (by unfold chgP; omega)).symm | exact (decide_eq_false (by unfold chgP; omega)).symm
    · try simp only [decide_eq_true_eq, decide_eq_false_iff_not, Bool.not_eq_true', Bool.not_eq_false', Bool.not_true, Bool.not_false, Bool.not_not, ne_eq, Decidable.not_not, Int.not_lt, Int.not_le, gt_iff_lt, ge_iff_le, bool_true_eq_, bool_false_eq_] at h3
      refine GC.region ?_
      refine GL.pure rfl (p_eql rfl rfl) ?_
      refine GL.pure rfl (p_assign rfl) ?_
      refine GL.nil (?_ : GC _ _ _ _)
      refine GC.cond rfl (fun h5 => ?_) (fun h5 => ?_)
      · try simp only [decide_eq_true_eq, decide_eq_false_iff_not, Bool.not_eq_true', Bool.not_eq_false', Bool.not_true, Bool.not_false, Bool.not_not, ne_eq, Decidable.not_not, Int.not_lt, Int.not_le, gt_iff_lt, ge_iff_le, bool_true_eq_, bool_false_eq_] at h5
        refine GC.seq' ?_
        refine GC.region ?_
        refine GL.pure rfl (p_assign rfl) ?_
        refine GL.nil (?_ : GC _ _ _ _)
        refine GC.ret ?_
        refine fun a w h => Fin.back (rs := [.tmp 2]) (vs := [_]) (is := []) (js := []) rfl ⟨rfl, trivial⟩ rfl rfl ?_ h
        clear h
        refine ⟨congrArg Value.bool ?_, rfl, rfl⟩; first | exact (decide_eq_true (by unfold chgP; omega)).symm | exact (decide_eq_false (by unfold chgP; omega)).symm
      · try simp only [decide_eq_true_eq, decide_eq_false_iff_not, Bool.not_eq_true', Bool.not_eq_false', Bool.not_true, Bool.not_false, Bool.not_not, ne_eq, Decidable.not_not, Int.not_lt, Int.not_le, gt_iff_lt, ge_iff_le, bool_true_eq_, bool_false_eq_] at h5
        refine GC.skip (?_ : GC _ _ _ _)
        refine GC.seq' ?_
        refine GC.region ?_
        refine GL.pure rfl (p_assign rfl) ?_
        refine GL.nil (?_ : GC _ _ _ _)
        refine GC.ret ?_
        refine fun a w h => Fin.back (rs := [.tmp 2]) (vs := [_]) (is := []) (js := []) rfl ⟨rfl, trivial⟩ rfl rfl ?_ h
        clear h
        refine ⟨congrArg Value.bool ?_, rfl, rfl⟩; first | exact (decide_eq_true (by unfold chgP; omega)).symm | exact (decide_eq_false (by unfold chgP; omega)).symm
theorem chgR_ct (kind a_ n : Int) (A : Option Addr) (dl cp : Nat) (B : Option Addr) (ol cq : Nat) : Ct Try.prog 20 [opV kind a_ n A dl cp B ol cq] [] [] (fun v G Q => v = .bool (decide (chgP kind)) ∧ G = [] ∧ Q = []) := by
  refine Ct.intro Try.func20 rfl rfl rfl (fun c hc => ?_)
  refine GC.seq' ?_
  refine GC.region ?_
  refine GL.step rfl (t_box rfl rfl rfl) (GL.ex fun b_t1 => ?_)
  refine GL.pure rfl (p_assign rfl) ?_
  refine GL.nil (?_ : GC _ _ _ _)
  refine GC.seq' ?_
  refine GC.region ?_
  refine GL.pure rfl (p_fieldAddr fo_42_0 rfl) ?_
  refine GL.step rfl (t_mem rfl (m_load (i := 0) rfl rfl ag_40 rfl)) ?_
  refine GL.pure rfl (p_eql rfl rfl) ?_
  refine GL.pure rfl (p_move rfl) ?_
  refine GL.split (i := 6) rfl (fun h1 => ?_) (fun h1 => ?_)
  · try simp only [decide_eq_true_eq, decide_eq_false_iff_not, Bool.not_eq_true', Bool.not_eq_false', Bool.not_true, Bool.not_false, Bool.not_not, ne_eq, Decidable.not_not, Int.not_lt, Int.not_le, gt_iff_lt, ge_iff_le, bool_true_eq_, bool_false_eq_] at h1
    refine GL.pass (s := 6) rfl rfl rfl ?_
    refine GL.pass (s := 6) rfl rfl rfl ?_
    refine GL.pass (s := 6) rfl rfl rfl ?_
    refine GL.pure rfl (p_pick_true rfl rfl) ?_
    refine GL.pure rfl (p_move rfl) ?_
    refine GL.pass (s := 11) rfl rfl rfl ?_
    refine GL.pass (s := 11) rfl rfl rfl ?_
    refine GL.pass (s := 11) rfl rfl rfl ?_
    refine GL.pure rfl (p_pick_true rfl rfl) ?_
    refine GL.pure rfl (p_assign rfl) ?_
    refine GL.nil (?_ : GC _ _ _ _)
    refine GC.ret ?_
    refine fun a w h => Fin.back (rs := [.tmp 2]) (vs := [_]) (is := []) (js := []) rfl ⟨rfl, trivial⟩ rfl rfl ?_ h
    clear h
    refine ⟨congrArg Value.bool ?_, rfl, rfl⟩; first | exact decide_eq_decide.2 (by unfold chgP; omega) | exact (decide_eq_true (by unfold chgP; omega)).symm | exact (decide_eq_false (by unfold chgP; omega)).symm
  · try simp only [decide_eq_true_eq, decide_eq_false_iff_not, Bool.not_eq_true', Bool.not_eq_false', Bool.not_true, Bool.not_false, Bool.not_not, ne_eq, Decidable.not_not, Int.not_lt, Int.not_le, gt_iff_lt, ge_iff_le, bool_true_eq_, bool_false_eq_] at h1
    refine GL.pureG (s := 6) rfl rfl rfl (p_fieldAddr fo_42_0 rfl) ?_
    refine GL.stepG rfl (s := 6) rfl rfl (t_mem rfl (m_load (i := 0) rfl rfl ag_40 rfl)) ?_
    refine GL.pureG (s := 6) rfl rfl rfl (p_eql rfl rfl) ?_
    refine GL.pure rfl (p_pick_false rfl rfl) ?_
    refine GL.pure rfl (p_move rfl) ?_
    refine GL.split (i := 11) rfl (fun h2 => ?_) (fun h2 => ?_)
    · try simp only [decide_eq_true_eq, decide_eq_false_iff_not, Bool.not_eq_true', Bool.not_eq_false', Bool.not_true, Bool.not_false, Bool.not_not, ne_eq, Decidable.not_not, Int.not_lt, Int.not_le, gt_iff_lt, ge_iff_le, bool_true_eq_, bool_false_eq_] at h2
      refine GL.pass (s := 11) rfl rfl rfl ?_
      refine GL.pass (s := 11) rfl rfl rfl ?_
      refine GL.pass (s := 11) rfl rfl rfl ?_
      refine GL.pure rfl (p_pick_true rfl rfl) ?_
      refine GL.pure rfl (p_assign rfl) ?_
      refine GL.nil (?_ : GC _ _ _ _)
      refine GC.ret ?_
      refine fun a w h => Fin.back (rs := [.tmp 2]) (vs := [_]) (is := []) (js := []) rfl ⟨rfl, trivial⟩ rfl rfl ?_ h
      clear h
      refine ⟨congrArg Value.bool ?_, rfl, rfl⟩; first | exact decide_eq_decide.2 (by unfold chgP; omega) | exact (decide_eq_true (by unfold chgP; omega)).symm | exact (decide_eq_false (by unfold chgP; omega)).symm
    · try simp only [decide_eq_true_eq, decide_eq_false_iff_not, Bool.not_eq_true', Bool.not_eq_false', Bool.not_true, Bool.not_false, Bool.not_not, ne_eq, Decidable.not_not, Int.not_lt, Int.not_le, gt_iff_lt, ge_iff_le, bool_true_eq_, bool_false_eq_] at h2
      refine GL.pureG (s := 11) rfl rfl rfl (p_fieldAddr fo_42_0 rfl) ?_
      refine GL.stepG rfl (s := 11) rfl rfl (t_mem rfl (m_load (i := 0) rfl rfl ag_40 rfl)) ?_
      refine GL.pureG (s := 11) rfl rfl rfl (p_eql rfl rfl) ?_
      refine GL.pure rfl (p_pick_false rfl rfl) ?_
      refine GL.pure rfl (p_assign rfl) ?_
      refine GL.nil (?_ : GC _ _ _ _)
      refine GC.ret ?_
      refine fun a w h => Fin.back (rs := [.tmp 2]) (vs := [_]) (is := []) (js := []) rfl ⟨rfl, trivial⟩ rfl rfl ?_ h
      clear h
      refine ⟨congrArg Value.bool ?_, rfl, rfl⟩; first | exact decide_eq_decide.2 (by unfold chgP; omega) | exact (decide_eq_true (by unfold chgP; omega)).symm | exact (decide_eq_false (by unfold chgP; omega)).symm
theorem bare_ct (kind a_ n : Int) (A : Option Addr) (dl cp : Nat) (B : Option Addr) (ol cq : Nat) : Ct Try.prog 54 [opV kind a_ n A dl cp B ol cq] [] [] (fun v G Q => v = .bool (decide (bareP kind a_ n dl ol)) ∧ G = [] ∧ Q = []) := by
  refine Ct.intro Try.func54 rfl rfl rfl (fun c hc => ?_)
  refine GC.seq' ?_
  refine GC.region ?_
  refine GL.step rfl (t_box rfl rfl rfl) (GL.ex fun b_t1 => ?_)
  refine GL.pure rfl (p_assign rfl) ?_
  refine GL.nil (?_ : GC _ _ _ _)
  refine GC.seq' ?_
  refine GC.regionQ wide_ (by kernel_rfl) ?_
  refine GQ.step rfl (q_pure (p_fieldAddr fo_42_3 rfl)) ?_
  refine GQ.step rfl (q_mem (m_load (i := 0) rfl rfl ag_31 rfl)) ?_
  refine GQ.step rfl (q_pure (p_len Try.underlying31 rfl)) ?_
  refine GQ.step rfl (q_pure (p_eql rfl rfl)) ?_
  refine GQ.step rfl (q_pure (p_fieldAddr fo_42_4 rfl)) ?_
  refine GQ.step rfl (q_mem (m_load (i := 0) rfl rfl ag_31 rfl)) ?_
  refine GQ.step rfl (q_pure (p_len Try.underlying31 rfl)) ?_
  refine GQ.step rfl (q_pure (p_eql rfl rfl)) ?_
  refine GQ.step rfl (q_pure (p_assign rfl)) ?_
  refine GQ.step rfl (q_pure (p_assign rfl)) ?_
  refine GQ.nil (?_ : GC _ _ _ _)
  refine GC.seq' ?_
  refine GC.seq' ?_
  refine GC.region ?_
  refine GL.pure rfl (p_fieldAddr fo_42_0 rfl) ?_
  refine GL.step rfl (t_mem rfl (m_load (i := 0) rfl rfl ag_40 rfl)) ?_
  refine GL.nil (?_ : GC _ _ _ _)
  refine GC.block ?_
  refine GC.seq' ?_
  refine GC.block ?_
  refine GC.seq' ?_
  refine GC.block ?_
  refine GC.seq' ?_
  refine GC.block ?_
  refine GC.block ?_
  refine GC.seq' ?_
  refine GC.block ?_
  refine GC.seq' ?_
  refine GC.seq' ?_
  refine GC.seq' ?_
  refine GC.region ?_
  refine GL.pure rfl (p_eql rfl rfl) ?_
  refine GL.pure rfl (p_assign rfl) ?_
  refine GL.nil (?_ : GC _ _ _ _)
  refine GC.cond rfl (fun h1 => ?_) (fun h1 => ?_)
  · try simp only [decide_eq_true_eq, decide_eq_false_iff_not, Bool.not_eq_true', Bool.not_eq_false', Bool.not_true, Bool.not_false, Bool.not_not, ne_eq, Decidable.not_not, Int.not_lt, Int.not_le, gt_iff_lt, ge_iff_le, bool_true_eq_, bool_false_eq_] at h1
    refine GC.exit (?_ : GC _ _ _ _)
    refine GC.seq' ?_
    refine GC.region ?_
    refine GL.pure rfl (p_fieldAddr fo_42_1 rfl) ?_
    refine GL.step rfl (t_mem rfl (m_load (i := 0) rfl rfl ag_3 rfl)) ?_
    refine GL.pure rfl (p_neq rfl rfl) ?_
    refine GL.pure rfl (p_move rfl) ?_
    refine GL.split (i := 28) rfl (fun h2 => ?_) (fun h2 => ?_)
    · try simp only [decide_eq_true_eq, decide_eq_false_iff_not, Bool.not_eq_true', Bool.not_eq_false', Bool.not_true, Bool.not_false, Bool.not_not, ne_eq, Decidable.not_not, Int.not_lt, Int.not_le, gt_iff_lt, ge_iff_le, bool_true_eq_, bool_false_eq_] at h2
      refine GL.pass (s := 28) rfl rfl rfl ?_
      refine GL.pass (s := 28) rfl rfl rfl ?_
      refine GL.pass (s := 28) rfl rfl rfl ?_
      refine GL.pure rfl (p_pick_true rfl rfl) ?_
      refine GL.nil (?_ : GC _ _ _ _)
      refine GC.cond_true rfl ?_
      refine GC.seq' ?_
      refine GC.region ?_
      refine GL.pure rfl (p_assign rfl) ?_
      refine GL.nil (?_ : GC _ _ _ _)
      refine GC.ret ?_
      refine fun a w h => Fin.back (rs := [.tmp 2]) (vs := [_]) (is := []) (js := []) rfl ⟨rfl, trivial⟩ rfl rfl ?_ h
      clear h
      refine ⟨congrArg Value.bool ?_, rfl, rfl⟩; first | exact decide_eq_decide.2 (by unfold bareP; omega) | exact (decide_eq_true (by unfold bareP; omega)).symm | exact (decide_eq_false (by unfold bareP; omega)).symm
    · try simp only [decide_eq_true_eq, decide_eq_false_iff_not, Bool.not_eq_true', Bool.not_eq_false', Bool.not_true, Bool.not_false, Bool.not_not, ne_eq, Decidable.not_not, Int.not_lt, Int.not_le, gt_iff_lt, ge_iff_le, bool_true_eq_, bool_false_eq_] at h2
      refine GL.pureG (s := 28) rfl rfl rfl (p_fieldAddr fo_42_2 rfl) ?_
      refine GL.stepG rfl (s := 28) rfl rfl (t_mem rfl (m_load (i := 0) rfl rfl ag_3 rfl)) ?_
      refine GL.pureG (s := 28) rfl rfl rfl (p_neq rfl rfl) ?_
      refine GL.pure rfl (p_pick_false rfl rfl) ?_
      refine GL.nil (?_ : GC _ _ _ _)
      refine GC.cond rfl (fun h3 => ?_) (fun h3 => ?_)
      · try simp only [decide_eq_true_eq, decide_eq_false_iff_not, Bool.not_eq_true', Bool.not_eq_false', Bool.not_true, Bool.not_false, Bool.not_not, ne_eq, Decidable.not_not, Int.not_lt, Int.not_le, gt_iff_lt, ge_iff_le, bool_true_eq_, bool_false_eq_] at h3
        refine GC.seq' ?_
        refine GC.region ?_
        refine GL.pure rfl (p_assign rfl) ?_
        refine GL.nil (?_ : GC _ _ _ _)
        refine GC.ret ?_
        refine fun a w h => Fin.back (rs := [.tmp 2]) (vs := [_]) (is := []) (js := []) rfl ⟨rfl, trivial⟩ rfl rfl ?_ h
        clear h
        refine ⟨congrArg Value.bool ?_, rfl, rfl⟩; first | exact decide_eq_decide.2 (by unfold bareP; omega) | exact (decide_eq_true (by unfold bareP; omega)).symm | exact (decide_eq_false (by unfold bareP; omega)).symm
      · try simp only [decide_eq_true_eq, decide_eq_false_iff_not, Bool.not_eq_true', Bool.not_eq_false', Bool.not_true, Bool.not_false, Bool.not_not, ne_eq, Decidable.not_not, Int.not_lt, Int.not_le, gt_iff_lt, ge_iff_le, bool_true_eq_, bool_false_eq_] at h3
        refine GC.skip (?_ : GC _ _ _ _)
        refine GC.seq' ?_
        refine GC.seq' ?_
        refine GC.region ?_
        refine GL.pure rfl (p_move rfl) ?_
        refine GL.pure rfl (p_move rfl) ?_
        refine GL.split (i := 34) rfl (fun h4 => ?_) (fun h4 => ?_)
        · try simp only [decide_eq_true_eq, decide_eq_false_iff_not, Bool.not_eq_true', Bool.not_eq_false', Bool.not_true, Bool.not_false, Bool.not_not, ne_eq, Decidable.not_not, Int.not_lt, Int.not_le, gt_iff_lt, ge_iff_le, bool_true_eq_, bool_false_eq_] at h4
          refine GL.pureG (s := 34) rfl rfl rfl (p_move rfl) ?_
          refine GL.pure rfl (p_pick_true rfl rfl) ?_
          refine GL.pure rfl (p_assign rfl) ?_
          refine GL.nil (?_ : GC _ _ _ _)
          refine GC.ret ?_
          refine fun a w h => Fin.back (rs := [.tmp 2]) (vs := [_]) (is := []) (js := []) rfl ⟨rfl, trivial⟩ rfl rfl ?_ h
          clear h
          refine ⟨congrArg Value.bool ?_, rfl, rfl⟩; first | exact decide_eq_decide.2 (by unfold bareP; omega) | exact (decide_eq_true (by unfold bareP; omega)).symm | exact (decide_eq_false (by unfold bareP; omega)).symm
        · try simp only [decide_eq_true_eq, decide_eq_false_iff_not, Bool.not_eq_true', Bool.not_eq_false', Bool.not_true, Bool.not_false, Bool.not_not, ne_eq, Decidable.not_not, Int.not_lt, Int.not_le, gt_iff_lt, ge_iff_le, bool_true_eq_, bool_false_eq_] at h4
          refine GL.pass (s := 34) rfl rfl rfl ?_
          refine GL.pure rfl (p_pick_false rfl rfl) ?_
          refine GL.pure rfl (p_assign rfl) ?_
          refine GL.nil (?_ : GC _ _ _ _)
          refine GC.ret ?_
          refine fun a w h => Fin.back (rs := [.tmp 2]) (vs := [_]) (is := []) (js := []) rfl ⟨rfl, trivial⟩ rfl rfl ?_ h
          clear h
          refine ⟨congrArg Value.bool ?_, rfl, rfl⟩; first | exact decide_eq_decide.2 (by unfold bareP; omega) | exact (decide_eq_true (by unfold bareP; omega)).symm | exact (decide_eq_false (by unfold bareP; omega)).symm
  · try simp only [decide_eq_true_eq, decide_eq_false_iff_not, Bool.not_eq_true', Bool.not_eq_false', Bool.not_true, Bool.not_false, Bool.not_not, ne_eq, Decidable.not_not, Int.not_lt, Int.not_le, gt_iff_lt, ge_iff_le, bool_true_eq_, bool_false_eq_] at h1
    refine GC.skip (?_ : GC _ _ _ _)
    refine GC.seq' ?_
    refine GC.seq' ?_
    refine GC.region ?_
    refine GL.pure rfl (p_eql rfl rfl) ?_
    refine GL.pure rfl (p_assign rfl) ?_
    refine GL.nil (?_ : GC _ _ _ _)
    refine GC.cond rfl (fun h5 => ?_) (fun h5 => ?_)
    · try simp only [decide_eq_true_eq, decide_eq_false_iff_not, Bool.not_eq_true', Bool.not_eq_false', Bool.not_true, Bool.not_false, Bool.not_not, ne_eq, Decidable.not_not, Int.not_lt, Int.not_le, gt_iff_lt, ge_iff_le, bool_true_eq_, bool_false_eq_] at h5
      refine GC.exit (?_ : GC _ _ _ _)
      refine GC.seq' ?_
      refine GC.seq' ?_
      refine GC.region ?_
      refine GL.pure rfl (p_move rfl) ?_
      refine GL.pure rfl (p_move rfl) ?_
      refine GL.split (i := 34) rfl (fun h6 => ?_) (fun h6 => ?_)
      · try simp only [decide_eq_true_eq, decide_eq_false_iff_not, Bool.not_eq_true', Bool.not_eq_false', Bool.not_true, Bool.not_false, Bool.not_not, ne_eq, Decidable.not_not, Int.not_lt, Int.not_le, gt_iff_lt, ge_iff_le, bool_true_eq_, bool_false_eq_] at h6
        refine GL.pureG (s := 34) rfl rfl rfl (p_move rfl) ?_
        refine GL.pure rfl (p_pick_true rfl rfl) ?_
        refine GL.pure rfl (p_assign rfl) ?_
        refine GL.nil (?_ : GC _ _ _ _)
        refine GC.ret ?_
        refine fun a w h => Fin.back (rs := [.tmp 2]) (vs := [_]) (is := []) (js := []) rfl ⟨rfl, trivial⟩ rfl rfl ?_ h
        clear h
        refine ⟨congrArg Value.bool ?_, rfl, rfl⟩; first | exact decide_eq_decide.2 (by unfold bareP; omega) | exact (decide_eq_true (by unfold bareP; omega)).symm | exact (decide_eq_false (by unfold bareP; omega)).symm
      · try simp only [decide_eq_true_eq, decide_eq_false_iff_not, Bool.not_eq_true', Bool.not_eq_false', Bool.not_true, Bool.not_false, Bool.not_not, ne_eq, Decidable.not_not, Int.not_lt, Int.not_le, gt_iff_lt, ge_iff_le, bool_true_eq_, bool_false_eq_] at h6
        refine GL.pass (s := 34) rfl rfl rfl ?_
        refine GL.pure rfl (p_pick_false rfl rfl) ?_
        refine GL.pure rfl (p_assign rfl) ?_
        refine GL.nil (?_ : GC _ _ _ _)
        refine GC.ret ?_
        refine fun a w h => Fin.back (rs := [.tmp 2]) (vs := [_]) (is := []) (js := []) rfl ⟨rfl, trivial⟩ rfl rfl ?_ h
        clear h
        refine ⟨congrArg Value.bool ?_, rfl, rfl⟩; first | exact decide_eq_decide.2 (by unfold bareP; omega) | exact (decide_eq_true (by unfold bareP; omega)).symm | exact (decide_eq_false (by unfold bareP; omega)).symm
    · try simp only [decide_eq_true_eq, decide_eq_false_iff_not, Bool.not_eq_true', Bool.not_eq_false', Bool.not_true, Bool.not_false, Bool.not_not, ne_eq, Decidable.not_not, Int.not_lt, Int.not_le, gt_iff_lt, ge_iff_le, bool_true_eq_, bool_false_eq_] at h5
      refine GC.skip (?_ : GC _ _ _ _)
      refine GC.seq' ?_
      refine GC.seq' ?_
      refine GC.region ?_
      refine GL.pure rfl (p_eql rfl rfl) ?_
      refine GL.pure rfl (p_assign rfl) ?_
      refine GL.nil (?_ : GC _ _ _ _)
      refine GC.cond rfl (fun h7 => ?_) (fun h7 => ?_)
      · try simp only [decide_eq_true_eq, decide_eq_false_iff_not, Bool.not_eq_true', Bool.not_eq_false', Bool.not_true, Bool.not_false, Bool.not_not, ne_eq, Decidable.not_not, Int.not_lt, Int.not_le, gt_iff_lt, ge_iff_le, bool_true_eq_, bool_false_eq_] at h7
        refine GC.exit (?_ : GC _ _ _ _)
        refine GC.seq' ?_
        refine GC.seq' ?_
        refine GC.region ?_
        refine GL.pure rfl (p_move rfl) ?_
        refine GL.pure rfl (p_move rfl) ?_
        refine GL.split (i := 34) rfl (fun h8 => ?_) (fun h8 => ?_)
        · try simp only [decide_eq_true_eq, decide_eq_false_iff_not, Bool.not_eq_true', Bool.not_eq_false', Bool.not_true, Bool.not_false, Bool.not_not, ne_eq, Decidable.not_not, Int.not_lt, Int.not_le, gt_iff_lt, ge_iff_le, bool_true_eq_, bool_false_eq_] at h8
          refine GL.pureG (s := 34) rfl rfl rfl (p_move rfl) ?_
          refine GL.pure rfl (p_pick_true rfl rfl) ?_
          refine GL.pure rfl (p_assign rfl) ?_
          refine GL.nil (?_ : GC _ _ _ _)
          refine GC.ret ?_
          refine fun a w h => Fin.back (rs := [.tmp 2]) (vs := [_]) (is := []) (js := []) rfl ⟨rfl, trivial⟩ rfl rfl ?_ h
          clear h
          refine ⟨congrArg Value.bool ?_, rfl, rfl⟩; first | exact decide_eq_decide.2 (by unfold bareP; omega) | exact (decide_eq_true (by unfold bareP; omega)).symm | exact (decide_eq_false (by unfold bareP; omega)).symm
        · try simp only [decide_eq_true_eq, decide_eq_false_iff_not, Bool.not_eq_true', Bool.not_eq_false', Bool.not_true, Bool.not_false, Bool.not_not, ne_eq, Decidable.not_not, Int.not_lt, Int.not_le, gt_iff_lt, ge_iff_le, bool_true_eq_, bool_false_eq_] at h8
          refine GL.pass (s := 34) rfl rfl rfl ?_
          refine GL.pure rfl (p_pick_false rfl rfl) ?_
          refine GL.pure rfl (p_assign rfl) ?_
          refine GL.nil (?_ : GC _ _ _ _)
          refine GC.ret ?_
          refine fun a w h => Fin.back (rs := [.tmp 2]) (vs := [_]) (is := []) (js := []) rfl ⟨rfl, trivial⟩ rfl rfl ?_ h
          clear h
          refine ⟨congrArg Value.bool ?_, rfl, rfl⟩; first | exact decide_eq_decide.2 (by unfold bareP; omega) | exact (decide_eq_true (by unfold bareP; omega)).symm | exact (decide_eq_false (by unfold bareP; omega)).symm
      · try simp only [decide_eq_true_eq, decide_eq_false_iff_not, Bool.not_eq_true', Bool.not_eq_false', Bool.not_true, Bool.not_false, Bool.not_not, ne_eq, Decidable.not_not, Int.not_lt, Int.not_le, gt_iff_lt, ge_iff_le, bool_true_eq_, bool_false_eq_] at h7
        refine GC.skip (?_ : GC _ _ _ _)
        refine GC.seq' ?_
        refine GC.seq' ?_
        refine GC.region ?_
        refine GL.pure rfl (p_eql rfl rfl) ?_
        refine GL.pure rfl (p_assign rfl) ?_
        refine GL.nil (?_ : GC _ _ _ _)
        refine GC.cond rfl (fun h9 => ?_) (fun h9 => ?_)
        · try simp only [decide_eq_true_eq, decide_eq_false_iff_not, Bool.not_eq_true', Bool.not_eq_false', Bool.not_true, Bool.not_false, Bool.not_not, ne_eq, Decidable.not_not, Int.not_lt, Int.not_le, gt_iff_lt, ge_iff_le, bool_true_eq_, bool_false_eq_] at h9
          refine GC.exit (?_ : GC _ _ _ _)
          refine GC.seq' ?_
          refine GC.seq' ?_
          refine GC.region ?_
          refine GL.pure rfl (p_move rfl) ?_
          refine GL.pure rfl (p_assign rfl) ?_
          refine GL.nil (?_ : GC _ _ _ _)
          refine GC.ret ?_
          refine fun a w h => Fin.back (rs := [.tmp 2]) (vs := [_]) (is := []) (js := []) rfl ⟨rfl, trivial⟩ rfl rfl ?_ h
          clear h
          refine ⟨congrArg Value.bool ?_, rfl, rfl⟩; first | exact decide_eq_decide.2 (by unfold bareP; omega) | exact (decide_eq_true (by unfold bareP; omega)).symm | exact (decide_eq_false (by unfold bareP; omega)).symm
        · try simp only [decide_eq_true_eq, decide_eq_false_iff_not, Bool.not_eq_true', Bool.not_eq_false', Bool.not_true, Bool.not_false, Bool.not_not, ne_eq, Decidable.not_not, Int.not_lt, Int.not_le, gt_iff_lt, ge_iff_le, bool_true_eq_, bool_false_eq_] at h9
          refine GC.skip (?_ : GC _ _ _ _)
          refine GC.seq' ?_
          refine GC.region ?_
          refine GL.pure rfl (p_eql rfl rfl) ?_
          refine GL.pure rfl (p_assign rfl) ?_
          refine GL.nil (?_ : GC _ _ _ _)
          refine GC.cond rfl (fun h10 => ?_) (fun h10 => ?_)
          · try simp only [decide_eq_true_eq, decide_eq_false_iff_not, Bool.not_eq_true', Bool.not_eq_false', Bool.not_true, Bool.not_false, Bool.not_not, ne_eq, Decidable.not_not, Int.not_lt, Int.not_le, gt_iff_lt, ge_iff_le, bool_true_eq_, bool_false_eq_] at h10
            refine GC.exit (?_ : GC _ _ _ _)
            refine GC.seq' ?_
            refine GC.seq' ?_
            refine GC.region ?_
            refine GL.pure rfl (p_fieldAddr fo_42_2 rfl) ?_
            refine GL.step rfl (t_mem rfl (m_load (i := 0) rfl rfl ag_3 rfl)) ?_
            refine GL.pure rfl (p_eql rfl rfl) ?_
            refine GL.pure rfl (p_assign rfl) ?_
            refine GL.nil (?_ : GC _ _ _ _)
            refine GC.ret ?_
            refine fun a w h => Fin.back (rs := [.tmp 2]) (vs := [_]) (is := []) (js := []) rfl ⟨rfl, trivial⟩ rfl rfl ?_ h
            clear h
            refine ⟨congrArg Value.bool ?_, rfl, rfl⟩; first | exact decide_eq_decide.2 (by unfold bareP; omega) | exact (decide_eq_true (by unfold bareP; omega)).symm | exact (decide_eq_false (by unfold bareP; omega)).symm
          · try simp only [decide_eq_true_eq, decide_eq_false_iff_not, Bool.not_eq_true', Bool.not_eq_false', Bool.not_true, Bool.not_false, Bool.not_not, ne_eq, Decidable.not_not, Int.not_lt, Int.not_le, gt_iff_lt, ge_iff_le, bool_true_eq_, bool_false_eq_] at h10
            refine GC.skip (?_ : GC _ _ _ _)
            refine GC.exit (?_ : GC _ _ _ _)
            refine GC.seq' ?_
            refine GC.region ?_
            refine GL.pure rfl (p_assign rfl) ?_
            refine GL.nil (?_ : GC _ _ _ _)
            refine GC.ret ?_
            refine fun a w h => Fin.back (rs := [.tmp 2]) (vs := [_]) (is := []) (js := []) rfl ⟨rfl, trivial⟩ rfl rfl ?_ h
            clear h
            refine ⟨congrArg Value.bool ?_, rfl, rfl⟩; first | exact decide_eq_decide.2 (by unfold bareP; omega) | exact (decide_eq_true (by unfold bareP; omega)).symm | exact (decide_eq_false (by unfold bareP; omega)).symm
theorem form_ct (kind a_ n : Int) (A : Option Addr) (dl cp : Nat) (B : Option Addr) (ol cq : Nat) : Ct Try.prog 47 [opV kind a_ n A dl cp B ol cq] [] [] (fun v G Q => v = .int .i64 (formE kind a_ n dl ol) ∧ G = [] ∧ Q = []) := by
  refine Ct.intro Try.func47 rfl rfl rfl (fun c hc => ?_)
  refine GC.seq' ?_
  refine GC.region ?_
  refine GL.step rfl (t_box rfl rfl rfl) (GL.ex fun b_t1 => ?_)
  refine GL.pure rfl (p_assign rfl) ?_
  refine GL.nil (?_ : GC _ _ _ _)
  refine GC.seq' ?_
  refine GC.seq' ?_
  refine GC.region ?_
  refine GL.pure rfl (p_fieldAddr fo_42_1 rfl) ?_
  refine GL.step rfl (t_mem rfl (m_load (i := 0) rfl rfl ag_3 rfl)) ?_
  refine GL.pure rfl (p_fieldAddr fo_42_2 rfl) ?_
  refine GL.step rfl (t_mem rfl (m_load (i := 0) rfl rfl ag_3 rfl)) ?_
  refine GL.pure rfl (p_min2 rfl rfl) ?_
  refine GL.pure rfl (p_lss rfl rfl) ?_
  refine GL.pure rfl (p_move rfl) ?_
  refine GL.split (i := 9) rfl (fun h1 => ?_) (fun h1 => ?_)
  · try simp only [decide_eq_true_eq, decide_eq_false_iff_not, Bool.not_eq_true', Bool.not_eq_false', Bool.not_true, Bool.not_false, Bool.not_not, ne_eq, Decidable.not_not, Int.not_lt, Int.not_le, gt_iff_lt, ge_iff_le, bool_true_eq_, bool_false_eq_] at h1
    refine GL.pass (s := 9) rfl rfl rfl ?_
    refine GL.pass (s := 9) rfl rfl rfl ?_
    refine GL.pass (s := 9) rfl rfl rfl ?_
    refine GL.pass (s := 9) rfl rfl rfl ?_
    refine GL.pass (s := 9) rfl rfl rfl ?_
    refine GL.pass (s := 9) rfl rfl rfl ?_
    refine GL.pure rfl (p_pick_true rfl rfl) ?_
    refine GL.pure rfl (p_move rfl) ?_
    refine GL.pass (s := 17) rfl rfl rfl ?_
    refine GL.pass (s := 17) rfl rfl rfl ?_
    refine GL.pass (s := 17) rfl rfl rfl ?_
    refine GL.pass (s := 17) rfl rfl rfl ?_
    refine GL.pure rfl (p_pick_true rfl rfl) ?_
    refine GL.pure rfl (p_move rfl) ?_
    refine GL.pass (s := 23) rfl rfl rfl ?_
    refine GL.pass (s := 23) rfl rfl rfl ?_
    refine GL.pass (s := 23) rfl rfl rfl ?_
    refine GL.pass (s := 23) rfl rfl rfl ?_
    refine GL.pure rfl (p_pick_true rfl rfl) ?_
    refine GL.pure rfl (p_move rfl) ?_
    refine GL.pass (s := 29) rfl rfl rfl ?_
    refine GL.pass (s := 29) rfl rfl rfl ?_
    refine GL.pass (s := 29) rfl rfl rfl ?_
    refine GL.pure rfl (p_pick_true rfl rfl) ?_
    refine GL.nil (?_ : GC _ _ _ _)
    refine GC.cond_true rfl ?_
    refine GC.seq' ?_
    refine GC.region ?_
    refine GL.pure rfl (p_assign rfl) ?_
    refine GL.nil (?_ : GC _ _ _ _)
    refine GC.ret ?_
    refine fun a w h => Fin.back (rs := [.tmp 2]) (vs := [_]) (is := []) (js := []) rfl ⟨rfl, trivial⟩ rfl rfl ?_ h
    clear h
    refine ⟨congrArg (Value.int .i64) ?_, rfl, rfl⟩; unfold formE; first | rw [if_pos (by simp only [formP, bareP] at *; omega)] | rw [if_neg (by simp only [formP, bareP] at *; omega)]
  · try simp only [decide_eq_true_eq, decide_eq_false_iff_not, Bool.not_eq_true', Bool.not_eq_false', Bool.not_true, Bool.not_false, Bool.not_not, ne_eq, Decidable.not_not, Int.not_lt, Int.not_le, gt_iff_lt, ge_iff_le, bool_true_eq_, bool_false_eq_] at h1
    refine GL.pureG (s := 9) rfl rfl rfl (p_fieldAddr fo_42_1 rfl) ?_
    refine GL.stepG rfl (s := 9) rfl rfl (t_mem rfl (m_load (i := 0) rfl rfl ag_3 rfl)) ?_
    refine GL.pureG (s := 9) rfl rfl rfl (p_fieldAddr fo_42_2 rfl) ?_
    refine GL.stepG rfl (s := 9) rfl rfl (t_mem rfl (m_load (i := 0) rfl rfl ag_3 rfl)) ?_
    refine GL.pureG (s := 9) rfl rfl rfl (p_max2 rfl rfl) ?_
    refine GL.pureG (s := 9) rfl rfl rfl (p_gtr rfl rfl) ?_
    refine GL.pure rfl (p_pick_false rfl rfl) ?_
    refine GL.pure rfl (p_move rfl) ?_
    refine GL.split (i := 17) rfl (fun h2 => ?_) (fun h2 => ?_)
    · try simp only [decide_eq_true_eq, decide_eq_false_iff_not, Bool.not_eq_true', Bool.not_eq_false', Bool.not_true, Bool.not_false, Bool.not_not, ne_eq, Decidable.not_not, Int.not_lt, Int.not_le, gt_iff_lt, ge_iff_le, bool_true_eq_, bool_false_eq_] at h2
      refine GL.pass (s := 17) rfl rfl rfl ?_
      refine GL.pass (s := 17) rfl rfl rfl ?_
      refine GL.pass (s := 17) rfl rfl rfl ?_
      refine GL.pass (s := 17) rfl rfl rfl ?_
      refine GL.pure rfl (p_pick_true rfl rfl) ?_
      refine GL.pure rfl (p_move rfl) ?_
      refine GL.pass (s := 23) rfl rfl rfl ?_
      refine GL.pass (s := 23) rfl rfl rfl ?_
      refine GL.pass (s := 23) rfl rfl rfl ?_
      refine GL.pass (s := 23) rfl rfl rfl ?_
      refine GL.pure rfl (p_pick_true rfl rfl) ?_
      refine GL.pure rfl (p_move rfl) ?_
      refine GL.pass (s := 29) rfl rfl rfl ?_
      refine GL.pass (s := 29) rfl rfl rfl ?_
      refine GL.pass (s := 29) rfl rfl rfl ?_
      refine GL.pure rfl (p_pick_true rfl rfl) ?_
      refine GL.nil (?_ : GC _ _ _ _)
      refine GC.cond_true rfl ?_
      refine GC.seq' ?_
      refine GC.region ?_
      refine GL.pure rfl (p_assign rfl) ?_
      refine GL.nil (?_ : GC _ _ _ _)
      refine GC.ret ?_
      refine fun a w h => Fin.back (rs := [.tmp 2]) (vs := [_]) (is := []) (js := []) rfl ⟨rfl, trivial⟩ rfl rfl ?_ h
      clear h
      refine ⟨congrArg (Value.int .i64) ?_, rfl, rfl⟩; unfold formE; first | rw [if_pos (by simp only [formP, bareP] at *; omega)] | rw [if_neg (by simp only [formP, bareP] at *; omega)]
    · try simp only [decide_eq_true_eq, decide_eq_false_iff_not, Bool.not_eq_true', Bool.not_eq_false', Bool.not_true, Bool.not_false, Bool.not_not, ne_eq, Decidable.not_not, Int.not_lt, Int.not_le, gt_iff_lt, ge_iff_le, bool_true_eq_, bool_false_eq_] at h2
      refine GL.pureG (s := 17) rfl rfl rfl (p_fieldAddr fo_42_3 rfl) ?_
      refine GL.stepG rfl (s := 17) rfl rfl (t_mem rfl (m_load (i := 0) rfl rfl ag_31 rfl)) ?_
      refine GL.pureG (s := 17) rfl rfl rfl (p_len Try.underlying31 rfl) ?_
      refine GL.pureG (s := 17) rfl rfl rfl (p_gtr rfl rfl) ?_
      refine GL.pure rfl (p_pick_false rfl rfl) ?_
      refine GL.pure rfl (p_move rfl) ?_
      refine GL.split (i := 23) rfl (fun h3 => ?_) (fun h3 => ?_)
      · try simp only [decide_eq_true_eq, decide_eq_false_iff_not, Bool.not_eq_true', Bool.not_eq_false', Bool.not_true, Bool.not_false, Bool.not_not, ne_eq, Decidable.not_not, Int.not_lt, Int.not_le, gt_iff_lt, ge_iff_le, bool_true_eq_, bool_false_eq_] at h3
        refine GL.pass (s := 23) rfl rfl rfl ?_
        refine GL.pass (s := 23) rfl rfl rfl ?_
        refine GL.pass (s := 23) rfl rfl rfl ?_
        refine GL.pass (s := 23) rfl rfl rfl ?_
        refine GL.pure rfl (p_pick_true rfl rfl) ?_
        refine GL.pure rfl (p_move rfl) ?_
        refine GL.pass (s := 29) rfl rfl rfl ?_
        refine GL.pass (s := 29) rfl rfl rfl ?_
        refine GL.pass (s := 29) rfl rfl rfl ?_
        refine GL.pure rfl (p_pick_true rfl rfl) ?_
        refine GL.nil (?_ : GC _ _ _ _)
        refine GC.cond_true rfl ?_
        refine GC.seq' ?_
        refine GC.region ?_
        refine GL.pure rfl (p_assign rfl) ?_
        refine GL.nil (?_ : GC _ _ _ _)
        refine GC.ret ?_
        refine fun a w h => Fin.back (rs := [.tmp 2]) (vs := [_]) (is := []) (js := []) rfl ⟨rfl, trivial⟩ rfl rfl ?_ h
        clear h
        refine ⟨congrArg (Value.int .i64) ?_, rfl, rfl⟩; unfold formE; first | rw [if_pos (by simp only [formP, bareP] at *; omega)] | rw [if_neg (by simp only [formP, bareP] at *; omega)]
      · try simp only [decide_eq_true_eq, decide_eq_false_iff_not, Bool.not_eq_true', Bool.not_eq_false', Bool.not_true, Bool.not_false, Bool.not_not, ne_eq, Decidable.not_not, Int.not_lt, Int.not_le, gt_iff_lt, ge_iff_le, bool_true_eq_, bool_false_eq_] at h3
        refine GL.pureG (s := 23) rfl rfl rfl (p_fieldAddr fo_42_4 rfl) ?_
        refine GL.stepG rfl (s := 23) rfl rfl (t_mem rfl (m_load (i := 0) rfl rfl ag_31 rfl)) ?_
        refine GL.pureG (s := 23) rfl rfl rfl (p_len Try.underlying31 rfl) ?_
        refine GL.pureG (s := 23) rfl rfl rfl (p_gtr rfl rfl) ?_
        refine GL.pure rfl (p_pick_false rfl rfl) ?_
        refine GL.pure rfl (p_move rfl) ?_
        refine GL.split (i := 29) rfl (fun h4 => ?_) (fun h4 => ?_)
        · try simp only [decide_eq_true_eq, decide_eq_false_iff_not, Bool.not_eq_true', Bool.not_eq_false', Bool.not_true, Bool.not_false, Bool.not_not, ne_eq, Decidable.not_not, Int.not_lt, Int.not_le, gt_iff_lt, ge_iff_le, bool_true_eq_, bool_false_eq_] at h4
          refine GL.pass (s := 29) rfl rfl rfl ?_
          refine GL.pass (s := 29) rfl rfl rfl ?_
          refine GL.pass (s := 29) rfl rfl rfl ?_
          refine GL.pure rfl (p_pick_true rfl rfl) ?_
          refine GL.nil (?_ : GC _ _ _ _)
          refine GC.cond_true rfl ?_
          refine GC.seq' ?_
          refine GC.region ?_
          refine GL.pure rfl (p_assign rfl) ?_
          refine GL.nil (?_ : GC _ _ _ _)
          refine GC.ret ?_
          refine fun a w h => Fin.back (rs := [.tmp 2]) (vs := [_]) (is := []) (js := []) rfl ⟨rfl, trivial⟩ rfl rfl ?_ h
          clear h
          refine ⟨congrArg (Value.int .i64) ?_, rfl, rfl⟩; unfold formE; first | rw [if_pos (by simp only [formP, bareP] at *; omega)] | rw [if_neg (by simp only [formP, bareP] at *; omega)]
        · try simp only [decide_eq_true_eq, decide_eq_false_iff_not, Bool.not_eq_true', Bool.not_eq_false', Bool.not_true, Bool.not_false, Bool.not_not, ne_eq, Decidable.not_not, Int.not_lt, Int.not_le, gt_iff_lt, ge_iff_le, bool_true_eq_, bool_false_eq_] at h4
          refine GL.stepG rfl (s := 29) rfl rfl (t_mem rfl (m_loadN (i := 0) rfl rfl ag_42 (vs := [_, _, _, _, _]) sz_42 ⟨rfl, rfl, rfl, rfl, rfl, trivial⟩)) ?_
          refine GL.stepG rfl (s := 29) rfl rfl (t_call rfl fn_54 rfl (is := []) (js := []) rfl rfl (by exact bare_ct _ _ _ _ _ _ _ _ _)) (GL.ret ?_)
          rintro _ _ _ ⟨rfl, rfl, rfl⟩
          refine GL.pureG (s := 29) rfl rfl rfl (p_not rfl) ?_
          refine GL.pure rfl (p_pick_false rfl rfl) ?_
          refine GL.nil (?_ : GC _ _ _ _)
          refine GC.cond rfl (fun h5 => ?_) (fun h5 => ?_)
          · try simp only [decide_eq_true_eq, decide_eq_false_iff_not, Bool.not_eq_true', Bool.not_eq_false', Bool.not_true, Bool.not_false, Bool.not_not, ne_eq, Decidable.not_not, Int.not_lt, Int.not_le, gt_iff_lt, ge_iff_le, bool_true_eq_, bool_false_eq_] at h5
            refine GC.seq' ?_
            refine GC.region ?_
            refine GL.pure rfl (p_assign rfl) ?_
            refine GL.nil (?_ : GC _ _ _ _)
            refine GC.ret ?_
            refine fun a w h => Fin.back (rs := [.tmp 2]) (vs := [_]) (is := []) (js := []) rfl ⟨rfl, trivial⟩ rfl rfl ?_ h
            clear h
            refine ⟨congrArg (Value.int .i64) ?_, rfl, rfl⟩; unfold formE; first | rw [if_pos (by simp only [formP, bareP] at *; omega)] | rw [if_neg (by simp only [formP, bareP] at *; omega)]
          · try simp only [decide_eq_true_eq, decide_eq_false_iff_not, Bool.not_eq_true', Bool.not_eq_false', Bool.not_true, Bool.not_false, Bool.not_not, ne_eq, Decidable.not_not, Int.not_lt, Int.not_le, gt_iff_lt, ge_iff_le, bool_true_eq_, bool_false_eq_] at h5
            refine GC.skip (?_ : GC _ _ _ _)
            refine GC.seq' ?_
            refine GC.region ?_
            refine GL.pure rfl (p_assign rfl) ?_
            refine GL.nil (?_ : GC _ _ _ _)
            refine GC.ret ?_
            refine fun a w h => Fin.back (rs := [.tmp 2]) (vs := [_]) (is := []) (js := []) rfl ⟨rfl, trivial⟩ rfl rfl ?_ h
            clear h
            refine ⟨congrArg (Value.int .i64) ?_, rfl, rfl⟩; unfold formE; first | rw [if_pos (by simp only [formP, bareP] at *; omega)] | rw [if_neg (by simp only [formP, bareP] at *; omega)]
theorem formR_ct (kind a_ n : Int) (A : Option Addr) (dl cp : Nat) (B : Option Addr) (ol cq : Nat) (hdl : dl ≤ 140737488355328) (hol : ol ≤ 140737488355328) : Ct Try.prog 53 [opV kind a_ n A dl cp B ol cq] [] [] (fun v G Q => v = .int .i64 (formE kind a_ n dl ol) ∧ G = [] ∧ Q = []) := by
  refine Ct.intro Try.func53 rfl rfl rfl (fun c hc => ?_)
  refine GC.seq' ?_
  refine GC.region ?_
  refine GL.step rfl (t_box rfl rfl rfl) (GL.ex fun b_t1 => ?_)
  refine GL.pure rfl (p_assign rfl) ?_
  refine GL.nil (?_ : GC _ _ _ _)
  refine GC.seq' ?_
  refine GC.seq' ?_
  refine GC.region ?_
  refine GL.pure rfl (p_fieldAddr fo_42_1 rfl) ?_
  refine GL.step rfl (t_mem rfl (m_load (i := 0) rfl rfl ag_3 rfl)) ?_
  refine GL.pure rfl (p_lss rfl rfl) ?_
  refine GL.pure rfl (p_move rfl) ?_
  refine GL.split (i := 7) rfl (fun h1 => ?_) (fun h1 => ?_)
  · try simp only [decide_eq_true_eq, decide_eq_false_iff_not, Bool.not_eq_true', Bool.not_eq_false', Bool.not_true, Bool.not_false, Bool.not_not, ne_eq, Decidable.not_not, Int.not_lt, Int.not_le, gt_iff_lt, ge_iff_le, bool_true_eq_, bool_false_eq_] at h1
    refine GL.pass (s := 7) rfl rfl rfl ?_
    refine GL.pass (s := 7) rfl rfl rfl ?_
    refine GL.pass (s := 7) rfl rfl rfl ?_
    refine GL.pure rfl (p_pick_true rfl rfl) ?_
    refine GL.pure rfl (p_move rfl) ?_
    refine GL.pass (s := 12) rfl rfl rfl ?_
    refine GL.pass (s := 12) rfl rfl rfl ?_
    refine GL.pass (s := 12) rfl rfl rfl ?_
    refine GL.pure rfl (p_pick_true rfl rfl) ?_
    refine GL.pure rfl (p_move rfl) ?_
    refine GL.pass (s := 17) rfl rfl rfl ?_
    refine GL.pass (s := 17) rfl rfl rfl ?_
    refine GL.pass (s := 17) rfl rfl rfl ?_
    refine GL.pure rfl (p_pick_true rfl rfl) ?_
    refine GL.pure rfl (p_move rfl) ?_
    refine GL.pass (s := 22) rfl rfl rfl ?_
    refine GL.pass (s := 22) rfl rfl rfl ?_
    refine GL.pass (s := 22) rfl rfl rfl ?_
    refine GL.pass (s := 22) rfl rfl rfl ?_
    refine GL.pure rfl (p_pick_true rfl rfl) ?_
    refine GL.pure rfl (p_move rfl) ?_
    refine GL.pass (s := 28) rfl rfl rfl ?_
    refine GL.pass (s := 28) rfl rfl rfl ?_
    refine GL.pass (s := 28) rfl rfl rfl ?_
    refine GL.pass (s := 28) rfl rfl rfl ?_
    refine GL.pure rfl (p_pick_true rfl rfl) ?_
    refine GL.nil (?_ : GC _ _ _ _)
    refine GC.cond_true rfl ?_
    refine GC.seq' ?_
    refine GC.region ?_
    refine GL.pure rfl (p_assign rfl) ?_
    refine GL.nil (?_ : GC _ _ _ _)
    refine GC.ret ?_
    refine fun a w h => Fin.back (rs := [.tmp 2]) (vs := [_]) (is := []) (js := []) rfl ⟨rfl, trivial⟩ rfl rfl ?_ h
    clear h
    refine ⟨congrArg (Value.int .i64) ?_, rfl, rfl⟩; first | (exfalso; omega) | (unfold formE; first | rw [if_pos (by simp only [formP, bareP] at *; omega)] | rw [if_neg (by simp only [formP, bareP] at *; omega)])
  · try simp only [decide_eq_true_eq, decide_eq_false_iff_not, Bool.not_eq_true', Bool.not_eq_false', Bool.not_true, Bool.not_false, Bool.not_not, ne_eq, Decidable.not_not, Int.not_lt, Int.not_le, gt_iff_lt, ge_iff_le, bool_true_eq_, bool_false_eq_] at h1
    refine GL.pureG (s := 7) rfl rfl rfl (p_fieldAddr fo_42_1 rfl) ?_
    refine GL.stepG rfl (s := 7) rfl rfl (t_mem rfl (m_load (i := 0) rfl rfl ag_3 rfl)) ?_
    refine GL.pureG (s := 7) rfl rfl rfl (p_gtr rfl rfl) ?_
    refine GL.pure rfl (p_pick_false rfl rfl) ?_
    refine GL.pure rfl (p_move rfl) ?_
    refine GL.split (i := 12) rfl (fun h2 => ?_) (fun h2 => ?_)
    · try simp only [decide_eq_true_eq, decide_eq_false_iff_not, Bool.not_eq_true', Bool.not_eq_false', Bool.not_true, Bool.not_false, Bool.not_not, ne_eq, Decidable.not_not, Int.not_lt, Int.not_le, gt_iff_lt, ge_iff_le, bool_true_eq_, bool_false_eq_] at h2
      refine GL.pass (s := 12) rfl rfl rfl ?_
      refine GL.pass (s := 12) rfl rfl rfl ?_
      refine GL.pass (s := 12) rfl rfl rfl ?_
      refine GL.pure rfl (p_pick_true rfl rfl) ?_
      refine GL.pure rfl (p_move rfl) ?_
      refine GL.pass (s := 17) rfl rfl rfl ?_
      refine GL.pass (s := 17) rfl rfl rfl ?_
      refine GL.pass (s := 17) rfl rfl rfl ?_
      refine GL.pure rfl (p_pick_true rfl rfl) ?_
      refine GL.pure rfl (p_move rfl) ?_
      refine GL.pass (s := 22) rfl rfl rfl ?_
      refine GL.pass (s := 22) rfl rfl rfl ?_
      refine GL.pass (s := 22) rfl rfl rfl ?_
      refine GL.pass (s := 22) rfl rfl rfl ?_
      refine GL.pure rfl (p_pick_true rfl rfl) ?_
      refine GL.pure rfl (p_move rfl) ?_
      refine GL.pass (s := 28) rfl rfl rfl ?_
      refine GL.pass (s := 28) rfl rfl rfl ?_
      refine GL.pass (s := 28) rfl rfl rfl ?_
      refine GL.pass (s := 28) rfl rfl rfl ?_
      refine GL.pure rfl (p_pick_true rfl rfl) ?_
      refine GL.nil (?_ : GC _ _ _ _)
      refine GC.cond_true rfl ?_
      refine GC.seq' ?_
      refine GC.region ?_
      refine GL.pure rfl (p_assign rfl) ?_
      refine GL.nil (?_ : GC _ _ _ _)
      refine GC.ret ?_
      refine fun a w h => Fin.back (rs := [.tmp 2]) (vs := [_]) (is := []) (js := []) rfl ⟨rfl, trivial⟩ rfl rfl ?_ h
      clear h
      refine ⟨congrArg (Value.int .i64) ?_, rfl, rfl⟩; first | (exfalso; omega) | (unfold formE; first | rw [if_pos (by simp only [formP, bareP] at *; omega)] | rw [if_neg (by simp only [formP, bareP] at *; omega)])
    · try simp only [decide_eq_true_eq, decide_eq_false_iff_not, Bool.not_eq_true', Bool.not_eq_false', Bool.not_true, Bool.not_false, Bool.not_not, ne_eq, Decidable.not_not, Int.not_lt, Int.not_le, gt_iff_lt, ge_iff_le, bool_true_eq_, bool_false_eq_] at h2
      refine GL.pureG (s := 12) rfl rfl rfl (p_fieldAddr fo_42_2 rfl) ?_
      refine GL.stepG rfl (s := 12) rfl rfl (t_mem rfl (m_load (i := 0) rfl rfl ag_3 rfl)) ?_
      refine GL.pureG (s := 12) rfl rfl rfl (p_lss rfl rfl) ?_
      refine GL.pure rfl (p_pick_false rfl rfl) ?_
      refine GL.pure rfl (p_move rfl) ?_
      refine GL.split (i := 17) rfl (fun h3 => ?_) (fun h3 => ?_)
      · try simp only [decide_eq_true_eq, decide_eq_false_iff_not, Bool.not_eq_true', Bool.not_eq_false', Bool.not_true, Bool.not_false, Bool.not_not, ne_eq, Decidable.not_not, Int.not_lt, Int.not_le, gt_iff_lt, ge_iff_le, bool_true_eq_, bool_false_eq_] at h3
        refine GL.pass (s := 17) rfl rfl rfl ?_
        refine GL.pass (s := 17) rfl rfl rfl ?_
        refine GL.pass (s := 17) rfl rfl rfl ?_
        refine GL.pure rfl (p_pick_true rfl rfl) ?_
        refine GL.pure rfl (p_move rfl) ?_
        refine GL.pass (s := 22) rfl rfl rfl ?_
        refine GL.pass (s := 22) rfl rfl rfl ?_
        refine GL.pass (s := 22) rfl rfl rfl ?_
        refine GL.pass (s := 22) rfl rfl rfl ?_
        refine GL.pure rfl (p_pick_true rfl rfl) ?_
        refine GL.pure rfl (p_move rfl) ?_
        refine GL.pass (s := 28) rfl rfl rfl ?_
        refine GL.pass (s := 28) rfl rfl rfl ?_
        refine GL.pass (s := 28) rfl rfl rfl ?_
        refine GL.pass (s := 28) rfl rfl rfl ?_
        refine GL.pure rfl (p_pick_true rfl rfl) ?_
        refine GL.nil (?_ : GC _ _ _ _)
        refine GC.cond_true rfl ?_
        refine GC.seq' ?_
        refine GC.region ?_
        refine GL.pure rfl (p_assign rfl) ?_
        refine GL.nil (?_ : GC _ _ _ _)
        refine GC.ret ?_
        refine fun a w h => Fin.back (rs := [.tmp 2]) (vs := [_]) (is := []) (js := []) rfl ⟨rfl, trivial⟩ rfl rfl ?_ h
        clear h
        refine ⟨congrArg (Value.int .i64) ?_, rfl, rfl⟩; first | (exfalso; omega) | (unfold formE; first | rw [if_pos (by simp only [formP, bareP] at *; omega)] | rw [if_neg (by simp only [formP, bareP] at *; omega)])
      · try simp only [decide_eq_true_eq, decide_eq_false_iff_not, Bool.not_eq_true', Bool.not_eq_false', Bool.not_true, Bool.not_false, Bool.not_not, ne_eq, Decidable.not_not, Int.not_lt, Int.not_le, gt_iff_lt, ge_iff_le, bool_true_eq_, bool_false_eq_] at h3
        refine GL.pureG (s := 17) rfl rfl rfl (p_fieldAddr fo_42_2 rfl) ?_
        refine GL.stepG rfl (s := 17) rfl rfl (t_mem rfl (m_load (i := 0) rfl rfl ag_3 rfl)) ?_
        refine GL.pureG (s := 17) rfl rfl rfl (p_gtr rfl rfl) ?_
        refine GL.pure rfl (p_pick_false rfl rfl) ?_
        refine GL.pure rfl (p_move rfl) ?_
        refine GL.split (i := 22) rfl (fun h4 => ?_) (fun h4 => ?_)
        · try simp only [decide_eq_true_eq, decide_eq_false_iff_not, Bool.not_eq_true', Bool.not_eq_false', Bool.not_true, Bool.not_false, Bool.not_not, ne_eq, Decidable.not_not, Int.not_lt, Int.not_le, gt_iff_lt, ge_iff_le, bool_true_eq_, bool_false_eq_] at h4
          refine GL.pass (s := 22) rfl rfl rfl ?_
          refine GL.pass (s := 22) rfl rfl rfl ?_
          refine GL.pass (s := 22) rfl rfl rfl ?_
          refine GL.pass (s := 22) rfl rfl rfl ?_
          refine GL.pure rfl (p_pick_true rfl rfl) ?_
          refine GL.pure rfl (p_move rfl) ?_
          refine GL.pass (s := 28) rfl rfl rfl ?_
          refine GL.pass (s := 28) rfl rfl rfl ?_
          refine GL.pass (s := 28) rfl rfl rfl ?_
          refine GL.pass (s := 28) rfl rfl rfl ?_
          refine GL.pure rfl (p_pick_true rfl rfl) ?_
          refine GL.nil (?_ : GC _ _ _ _)
          refine GC.cond_true rfl ?_
          refine GC.seq' ?_
          refine GC.region ?_
          refine GL.pure rfl (p_assign rfl) ?_
          refine GL.nil (?_ : GC _ _ _ _)
          refine GC.ret ?_
          refine fun a w h => Fin.back (rs := [.tmp 2]) (vs := [_]) (is := []) (js := []) rfl ⟨rfl, trivial⟩ rfl rfl ?_ h
          clear h
          refine ⟨congrArg (Value.int .i64) ?_, rfl, rfl⟩; first | (exfalso; omega) | (unfold formE; first | rw [if_pos (by simp only [formP, bareP] at *; omega)] | rw [if_neg (by simp only [formP, bareP] at *; omega)])
        · try simp only [decide_eq_true_eq, decide_eq_false_iff_not, Bool.not_eq_true', Bool.not_eq_false', Bool.not_true, Bool.not_false, Bool.not_not, ne_eq, Decidable.not_not, Int.not_lt, Int.not_le, gt_iff_lt, ge_iff_le, bool_true_eq_, bool_false_eq_] at h4
          refine GL.pureG (s := 22) rfl rfl rfl (p_fieldAddr fo_42_3 rfl) ?_
          refine GL.stepG rfl (s := 22) rfl rfl (t_mem rfl (m_load (i := 0) rfl rfl ag_31 rfl)) ?_
          refine GL.pureG (s := 22) rfl rfl rfl (p_len Try.underlying31 rfl) ?_
          refine GL.pureG (s := 22) rfl rfl rfl (p_gtr rfl rfl) ?_
          refine GL.pure rfl (p_pick_false rfl rfl) ?_
          refine GL.pure rfl (p_move rfl) ?_
          refine GL.split (i := 28) rfl (fun h5 => ?_) (fun h5 => ?_)
          · try simp only [decide_eq_true_eq, decide_eq_false_iff_not, Bool.not_eq_true', Bool.not_eq_false', Bool.not_true, Bool.not_false, Bool.not_not, ne_eq, Decidable.not_not, Int.not_lt, Int.not_le, gt_iff_lt, ge_iff_le, bool_true_eq_, bool_false_eq_] at h5
            refine GL.pass (s := 28) rfl rfl rfl ?_
            refine GL.pass (s := 28) rfl rfl rfl ?_
            refine GL.pass (s := 28) rfl rfl rfl ?_
            refine GL.pass (s := 28) rfl rfl rfl ?_
            refine GL.pure rfl (p_pick_true rfl rfl) ?_
            refine GL.nil (?_ : GC _ _ _ _)
            refine GC.cond_true rfl ?_
            refine GC.seq' ?_
            refine GC.region ?_
            refine GL.pure rfl (p_assign rfl) ?_
            refine GL.nil (?_ : GC _ _ _ _)
            refine GC.ret ?_
            refine fun a w h => Fin.back (rs := [.tmp 2]) (vs := [_]) (is := []) (js := []) rfl ⟨rfl, trivial⟩ rfl rfl ?_ h
            clear h
            refine ⟨congrArg (Value.int .i64) ?_, rfl, rfl⟩; first | (exfalso; omega) | (unfold formE; first | rw [if_pos (by simp only [formP, bareP] at *; omega)] | rw [if_neg (by simp only [formP, bareP] at *; omega)])
          · try simp only [decide_eq_true_eq, decide_eq_false_iff_not, Bool.not_eq_true', Bool.not_eq_false', Bool.not_true, Bool.not_false, Bool.not_not, ne_eq, Decidable.not_not, Int.not_lt, Int.not_le, gt_iff_lt, ge_iff_le, bool_true_eq_, bool_false_eq_] at h5
            refine GL.pureG (s := 28) rfl rfl rfl (p_fieldAddr fo_42_4 rfl) ?_
            refine GL.stepG rfl (s := 28) rfl rfl (t_mem rfl (m_load (i := 0) rfl rfl ag_31 rfl)) ?_
            refine GL.pureG (s := 28) rfl rfl rfl (p_len Try.underlying31 rfl) ?_
            refine GL.pureG (s := 28) rfl rfl rfl (p_gtr rfl rfl) ?_
            refine GL.pure rfl (p_pick_false rfl rfl) ?_
            refine GL.nil (?_ : GC _ _ _ _)
            refine GC.cond rfl (fun h6 => ?_) (fun h6 => ?_)
            · try simp only [decide_eq_true_eq, decide_eq_false_iff_not, Bool.not_eq_true', Bool.not_eq_false', Bool.not_true, Bool.not_false, Bool.not_not, ne_eq, Decidable.not_not, Int.not_lt, Int.not_le, gt_iff_lt, ge_iff_le, bool_true_eq_, bool_false_eq_] at h6
              refine GC.seq' ?_
              refine GC.region ?_
              refine GL.pure rfl (p_assign rfl) ?_
              refine GL.nil (?_ : GC _ _ _ _)
              refine GC.ret ?_
              refine fun a w h => Fin.back (rs := [.tmp 2]) (vs := [_]) (is := []) (js := []) rfl ⟨rfl, trivial⟩ rfl rfl ?_ h
              clear h
              refine ⟨congrArg (Value.int .i64) ?_, rfl, rfl⟩; first | (exfalso; omega) | (unfold formE; first | rw [if_pos (by simp only [formP, bareP] at *; omega)] | rw [if_neg (by simp only [formP, bareP] at *; omega)])
            · try simp only [decide_eq_true_eq, decide_eq_false_iff_not, Bool.not_eq_true', Bool.not_eq_false', Bool.not_true, Bool.not_false, Bool.not_not, ne_eq, Decidable.not_not, Int.not_lt, Int.not_le, gt_iff_lt, ge_iff_le, bool_true_eq_, bool_false_eq_] at h6
              refine GC.skip (?_ : GC _ _ _ _)
              refine GC.seq' ?_
              refine GC.region ?_
              refine GL.pure rfl (p_assign rfl) ?_
              refine GL.nil (?_ : GC _ _ _ _)
              refine GC.seq' ?_
              refine GC.seq' ?_
              refine GC.region ?_
              refine GL.pure rfl (p_fieldAddr fo_42_0 rfl) ?_
              refine GL.step rfl (t_mem rfl (m_load (i := 0) rfl rfl ag_40 rfl)) ?_
              refine GL.nil (?_ : GC _ _ _ _)
              refine GC.block ?_
              refine GC.seq' ?_
              refine GC.seq' ?_
              refine GC.region ?_
              refine GL.pure rfl (p_eql rfl rfl) ?_
              refine GL.pure rfl (p_assign rfl) ?_
              refine GL.nil (?_ : GC _ _ _ _)
              refine GC.cond rfl (fun h7 => ?_) (fun h7 => ?_)
              · try simp only [decide_eq_true_eq, decide_eq_false_iff_not, Bool.not_eq_true', Bool.not_eq_false', Bool.not_true, Bool.not_false, Bool.not_not, ne_eq, Decidable.not_not, Int.not_lt, Int.not_le, gt_iff_lt, ge_iff_le, bool_true_eq_, bool_false_eq_] at h7
                refine GC.skip (?_ : GC _ _ _ _)
                refine GC.cond rfl (fun h8 => ?_) (fun h8 => ?_)
                · try simp only [decide_eq_true_eq, decide_eq_false_iff_not, Bool.not_eq_true', Bool.not_eq_false', Bool.not_true, Bool.not_false, Bool.not_not, ne_eq, Decidable.not_not, Int.not_lt, Int.not_le, gt_iff_lt, ge_iff_le, bool_true_eq_, bool_false_eq_] at h8
                  refine GC.region ?_
                  refine GL.pure rfl (p_fieldAddr fo_42_3 rfl) ?_
                  refine GL.step rfl (t_mem rfl (m_load (i := 0) rfl rfl ag_31 rfl)) ?_
                  refine GL.pure rfl (p_len Try.underlying31 rfl) ?_
                  refine GL.pure rfl (p_fieldAddr fo_42_4 rfl) ?_
                  refine GL.step rfl (t_mem rfl (m_load (i := 0) rfl rfl ag_31 rfl)) ?_
                  refine GL.pure rfl (p_len Try.underlying31 rfl) ?_
                  refine GL.pure rfl (p_add rfl rfl (w64 (by omega) (by omega))) ?_
                  refine GL.pure rfl (p_eql rfl rfl) ?_
                  refine GL.pure rfl (p_assign rfl) ?_
                  refine GL.nil (?_ : GC _ _ _ _)
                  refine GC.seq' ?_
                  refine GC.seq' ?_
                  refine GC.region ?_
                  refine GL.pure rfl (p_move rfl) ?_
                  refine GL.pure rfl (p_not rfl) ?_
                  refine GL.nil (?_ : GC _ _ _ _)
                  refine GC.cond rfl (fun h9 => ?_) (fun h9 => ?_)
                  · try simp only [decide_eq_true_eq, decide_eq_false_iff_not, Bool.not_eq_true', Bool.not_eq_false', Bool.not_true, Bool.not_false, Bool.not_not, ne_eq, Decidable.not_not, Int.not_lt, Int.not_le, gt_iff_lt, ge_iff_le, bool_true_eq_, bool_false_eq_] at h9
                    refine GC.seq' ?_
                    refine GC.region ?_
                    refine GL.pure rfl (p_assign rfl) ?_
                    refine GL.nil (?_ : GC _ _ _ _)
                    refine GC.ret ?_
                    refine fun a w h => Fin.back (rs := [.tmp 2]) (vs := [_]) (is := []) (js := []) rfl ⟨rfl, trivial⟩ rfl rfl ?_ h
                    clear h
                    refine ⟨congrArg (Value.int .i64) ?_, rfl, rfl⟩; first | (exfalso; omega) | (unfold formE; first | rw [if_pos (by simp only [formP, bareP] at *; omega)] | rw [if_neg (by simp only [formP, bareP] at *; omega)])
                  · try simp only [decide_eq_true_eq, decide_eq_false_iff_not, Bool.not_eq_true', Bool.not_eq_false', Bool.not_true, Bool.not_false, Bool.not_not, ne_eq, Decidable.not_not, Int.not_lt, Int.not_le, gt_iff_lt, ge_iff_le, bool_true_eq_, bool_false_eq_] at h9
                    refine GC.skip (?_ : GC _ _ _ _)
                    refine GC.seq' ?_
                    refine GC.region ?_
                    refine GL.pure rfl (p_assign rfl) ?_
                    refine GL.nil (?_ : GC _ _ _ _)
                    refine GC.ret ?_
                    refine fun a w h => Fin.back (rs := [.tmp 2]) (vs := [_]) (is := []) (js := []) rfl ⟨rfl, trivial⟩ rfl rfl ?_ h
                    clear h
                    refine ⟨congrArg (Value.int .i64) ?_, rfl, rfl⟩; first | (exfalso; omega) | (unfold formE; first | rw [if_pos (by simp only [formP, bareP] at *; omega)] | rw [if_neg (by simp only [formP, bareP] at *; omega)])
                · try simp only [decide_eq_true_eq, decide_eq_false_iff_not, Bool.not_eq_true', Bool.not_eq_false', Bool.not_true, Bool.not_false, Bool.not_not, ne_eq, Decidable.not_not, Int.not_lt, Int.not_le, gt_iff_lt, ge_iff_le, bool_true_eq_, bool_false_eq_] at h8
                  refine GC.seq' ?_
                  refine GC.region ?_
                  refine GL.pure rfl (p_eql rfl rfl) ?_
                  refine GL.pure rfl (p_assign rfl) ?_
                  refine GL.nil (?_ : GC _ _ _ _)
                  refine GC.cond rfl (fun h10 => ?_) (fun h10 => ?_)
                  · try simp only [decide_eq_true_eq, decide_eq_false_iff_not, Bool.not_eq_true', Bool.not_eq_false', Bool.not_true, Bool.not_false, Bool.not_not, ne_eq, Decidable.not_not, Int.not_lt, Int.not_le, gt_iff_lt, ge_iff_le, bool_true_eq_, bool_false_eq_] at h10
                    refine GC.region ?_
                    refine GL.pure rfl (p_fieldAddr fo_42_4 rfl) ?_
                    refine GL.step rfl (t_mem rfl (m_load (i := 0) rfl rfl ag_31 rfl)) ?_
                    refine GL.pure rfl (p_len Try.underlying31 rfl) ?_
                    refine GL.pure rfl (p_eql rfl rfl) ?_
                    refine GL.pure rfl (p_assign rfl) ?_
                    refine GL.nil (?_ : GC _ _ _ _)
                    refine GC.seq' ?_
                    refine GC.seq' ?_
                    refine GC.region ?_
                    refine GL.pure rfl (p_move rfl) ?_
                    refine GL.pure rfl (p_not rfl) ?_
                    refine GL.nil (?_ : GC _ _ _ _)
                    refine GC.cond rfl (fun h11 => ?_) (fun h11 => ?_)
                    · try simp only [decide_eq_true_eq, decide_eq_false_iff_not, Bool.not_eq_true', Bool.not_eq_false', Bool.not_true, Bool.not_false, Bool.not_not, ne_eq, Decidable.not_not, Int.not_lt, Int.not_le, gt_iff_lt, ge_iff_le, bool_true_eq_, bool_false_eq_] at h11
                      refine GC.seq' ?_
                      refine GC.region ?_
                      refine GL.pure rfl (p_assign rfl) ?_
                      refine GL.nil (?_ : GC _ _ _ _)
                      refine GC.ret ?_
                      refine fun a w h => Fin.back (rs := [.tmp 2]) (vs := [_]) (is := []) (js := []) rfl ⟨rfl, trivial⟩ rfl rfl ?_ h
                      clear h
                      refine ⟨congrArg (Value.int .i64) ?_, rfl, rfl⟩; first | (exfalso; omega) | (unfold formE; first | rw [if_pos (by simp only [formP, bareP] at *; omega)] | rw [if_neg (by simp only [formP, bareP] at *; omega)])
                    · try simp only [decide_eq_true_eq, decide_eq_false_iff_not, Bool.not_eq_true', Bool.not_eq_false', Bool.not_true, Bool.not_false, Bool.not_not, ne_eq, Decidable.not_not, Int.not_lt, Int.not_le, gt_iff_lt, ge_iff_le, bool_true_eq_, bool_false_eq_] at h11
                      refine GC.skip (?_ : GC _ _ _ _)
                      refine GC.seq' ?_
                      refine GC.region ?_
                      refine GL.pure rfl (p_assign rfl) ?_
                      refine GL.nil (?_ : GC _ _ _ _)
                      refine GC.ret ?_
                      refine fun a w h => Fin.back (rs := [.tmp 2]) (vs := [_]) (is := []) (js := []) rfl ⟨rfl, trivial⟩ rfl rfl ?_ h
                      clear h
                      refine ⟨congrArg (Value.int .i64) ?_, rfl, rfl⟩; first | (exfalso; omega) | (unfold formE; first | rw [if_pos (by simp only [formP, bareP] at *; omega)] | rw [if_neg (by simp only [formP, bareP] at *; omega)])
                  · try simp only [decide_eq_true_eq, decide_eq_false_iff_not, Bool.not_eq_true', Bool.not_eq_false', Bool.not_true, Bool.not_false, Bool.not_not, ne_eq, Decidable.not_not, Int.not_lt, Int.not_le, gt_iff_lt, ge_iff_le, bool_true_eq_, bool_false_eq_] at h10
                    refine GC.seq' ?_
                    refine GC.region ?_
                    refine GL.pure rfl (p_eql rfl rfl) ?_
                    refine GL.pure rfl (p_assign rfl) ?_
                    refine GL.nil (?_ : GC _ _ _ _)
                    refine GC.cond rfl (fun h12 => ?_) (fun h12 => ?_)
                    · try simp only [decide_eq_true_eq, decide_eq_false_iff_not, Bool.not_eq_true', Bool.not_eq_false', Bool.not_true, Bool.not_false, Bool.not_not, ne_eq, Decidable.not_not, Int.not_lt, Int.not_le, gt_iff_lt, ge_iff_le, bool_true_eq_, bool_false_eq_] at h12
                      refine GC.region ?_
                      refine GL.pure rfl (p_fieldAddr fo_42_2 rfl) ?_
                      refine GL.step rfl (t_mem rfl (m_load (i := 0) rfl rfl ag_3 rfl)) ?_
                      refine GL.pure rfl (p_eql rfl rfl) ?_
                      refine GL.pure rfl (p_assign rfl) ?_
                      refine GL.nil (?_ : GC _ _ _ _)
                      refine GC.seq' ?_
                      refine GC.seq' ?_
                      refine GC.region ?_
                      refine GL.pure rfl (p_move rfl) ?_
                      refine GL.pure rfl (p_not rfl) ?_
                      refine GL.nil (?_ : GC _ _ _ _)
                      refine GC.cond rfl (fun h13 => ?_) (fun h13 => ?_)
                      · try simp only [decide_eq_true_eq, decide_eq_false_iff_not, Bool.not_eq_true', Bool.not_eq_false', Bool.not_true, Bool.not_false, Bool.not_not, ne_eq, Decidable.not_not, Int.not_lt, Int.not_le, gt_iff_lt, ge_iff_le, bool_true_eq_, bool_false_eq_] at h13
                        refine GC.seq' ?_
                        refine GC.region ?_
                        refine GL.pure rfl (p_assign rfl) ?_
                        refine GL.nil (?_ : GC _ _ _ _)
                        refine GC.ret ?_
                        refine fun a w h => Fin.back (rs := [.tmp 2]) (vs := [_]) (is := []) (js := []) rfl ⟨rfl, trivial⟩ rfl rfl ?_ h
                        clear h
                        refine ⟨congrArg (Value.int .i64) ?_, rfl, rfl⟩; first | (exfalso; omega) | (unfold formE; first | rw [if_pos (by simp only [formP, bareP] at *; omega)] | rw [if_neg (by simp only [formP, bareP] at *; omega)])
                      · try simp only [decide_eq_true_eq, decide_eq_false_iff_not, Bool.not_eq_true', Bool.not_eq_false', Bool.not_true, Bool.not_false, Bool.not_not, ne_eq, Decidable.not_not, Int.not_lt, Int.not_le, gt_iff_lt, ge_iff_le, bool_true_eq_, bool_false_eq_] at h13
                        refine GC.skip (?_ : GC _ _ _ _)
                        refine GC.seq' ?_
                        refine GC.region ?_
                        refine GL.pure rfl (p_assign rfl) ?_
                        refine GL.nil (?_ : GC _ _ _ _)
                        refine GC.ret ?_
                        refine fun a w h => Fin.back (rs := [.tmp 2]) (vs := [_]) (is := []) (js := []) rfl ⟨rfl, trivial⟩ rfl rfl ?_ h
                        clear h
                        refine ⟨congrArg (Value.int .i64) ?_, rfl, rfl⟩; first | (exfalso; omega) | (unfold formE; first | rw [if_pos (by simp only [formP, bareP] at *; omega)] | rw [if_neg (by simp only [formP, bareP] at *; omega)])
                    · try simp only [decide_eq_true_eq, decide_eq_false_iff_not, Bool.not_eq_true', Bool.not_eq_false', Bool.not_true, Bool.not_false, Bool.not_not, ne_eq, Decidable.not_not, Int.not_lt, Int.not_le, gt_iff_lt, ge_iff_le, bool_true_eq_, bool_false_eq_] at h12
                      refine GC.seq' ?_
                      refine GC.region ?_
                      refine GL.pure rfl (p_eql rfl rfl) ?_
                      refine GL.pure rfl (p_assign rfl) ?_
                      refine GL.nil (?_ : GC _ _ _ _)
                      refine GC.cond rfl (fun h14 => ?_) (fun h14 => ?_)
                      · try simp only [decide_eq_true_eq, decide_eq_false_iff_not, Bool.not_eq_true', Bool.not_eq_false', Bool.not_true, Bool.not_false, Bool.not_not, ne_eq, Decidable.not_not, Int.not_lt, Int.not_le, gt_iff_lt, ge_iff_le, bool_true_eq_, bool_false_eq_] at h14
                        refine GC.region ?_
                        refine GL.pure rfl (p_fieldAddr fo_42_1 rfl) ?_
                        refine GL.step rfl (t_mem rfl (m_load (i := 0) rfl rfl ag_3 rfl)) ?_
                        refine GL.pure rfl (p_eql rfl rfl) ?_
                        refine GL.pure rfl (p_move rfl) ?_
                        refine GL.split (i := 63) rfl (fun h15 => ?_) (fun h15 => ?_)
                        · try simp only [decide_eq_true_eq, decide_eq_false_iff_not, Bool.not_eq_true', Bool.not_eq_false', Bool.not_true, Bool.not_false, Bool.not_not, ne_eq, Decidable.not_not, Int.not_lt, Int.not_le, gt_iff_lt, ge_iff_le, bool_true_eq_, bool_false_eq_] at h15
                          refine GL.pureG (s := 63) rfl rfl rfl (p_fieldAddr fo_42_2 rfl) ?_
                          refine GL.stepG rfl (s := 63) rfl rfl (t_mem rfl (m_load (i := 0) rfl rfl ag_3 rfl)) ?_
                          refine GL.pureG (s := 63) rfl rfl rfl (p_eql rfl rfl) ?_
                          refine GL.pure rfl (p_pick_true rfl rfl) ?_
                          refine GL.pure rfl (p_move rfl) ?_
                          refine GL.split (i := 68) rfl (fun h16 => ?_) (fun h16 => ?_)
                          · try simp only [decide_eq_true_eq, decide_eq_false_iff_not, Bool.not_eq_true', Bool.not_eq_false', Bool.not_true, Bool.not_false, Bool.not_not, ne_eq, Decidable.not_not, Int.not_lt, Int.not_le, gt_iff_lt, ge_iff_le, bool_true_eq_, bool_false_eq_] at h16
                            refine GL.pureG (s := 68) rfl rfl rfl (p_fieldAddr fo_42_3 rfl) ?_
                            refine GL.stepG rfl (s := 68) rfl rfl (t_mem rfl (m_load (i := 0) rfl rfl ag_31 rfl)) ?_
                            refine GL.pureG (s := 68) rfl rfl rfl (p_len Try.underlying31 rfl) ?_
                            refine GL.pureG (s := 68) rfl rfl rfl (p_fieldAddr fo_42_4 rfl) ?_
                            refine GL.stepG rfl (s := 68) rfl rfl (t_mem rfl (m_load (i := 0) rfl rfl ag_31 rfl)) ?_
                            refine GL.pureG (s := 68) rfl rfl rfl (p_len Try.underlying31 rfl) ?_
                            refine GL.pureG (s := 68) rfl rfl rfl (p_add rfl rfl (w64 (by omega) (by omega))) ?_
                            refine GL.pureG (s := 68) rfl rfl rfl (p_eql rfl rfl) ?_
                            refine GL.pure rfl (p_pick_true rfl rfl) ?_
                            refine GL.pure rfl (p_assign rfl) ?_
                            refine GL.nil (?_ : GC _ _ _ _)
                            refine GC.seq' ?_
                            refine GC.seq' ?_
                            refine GC.region ?_
                            refine GL.pure rfl (p_move rfl) ?_
                            refine GL.pure rfl (p_not rfl) ?_
                            refine GL.nil (?_ : GC _ _ _ _)
                            refine GC.cond rfl (fun h17 => ?_) (fun h17 => ?_)
                            · try simp only [decide_eq_true_eq, decide_eq_false_iff_not, Bool.not_eq_true', Bool.not_eq_false', Bool.not_true, Bool.not_false, Bool.not_not, ne_eq, Decidable.not_not, Int.not_lt, Int.not_le, gt_iff_lt, ge_iff_le, bool_true_eq_, bool_false_eq_] at h17
                              refine GC.seq' ?_
                              refine GC.region ?_
                              refine GL.pure rfl (p_assign rfl) ?_
                              refine GL.nil (?_ : GC _ _ _ _)
                              refine GC.ret ?_
                              refine fun a w h => Fin.back (rs := [.tmp 2]) (vs := [_]) (is := []) (js := []) rfl ⟨rfl, trivial⟩ rfl rfl ?_ h
                              clear h
                              refine ⟨congrArg (Value.int .i64) ?_, rfl, rfl⟩; first | (exfalso; omega) | (unfold formE; first | rw [if_pos (by simp only [formP, bareP] at *; omega)] | rw [if_neg (by simp only [formP, bareP] at *; omega)])
                            · try simp only [decide_eq_true_eq, decide_eq_false_iff_not, Bool.not_eq_true', Bool.not_eq_false', Bool.not_true, Bool.not_false, Bool.not_not, ne_eq, Decidable.not_not, Int.not_lt, Int.not_le, gt_iff_lt, ge_iff_le, bool_true_eq_, bool_false_eq_] at h17
                              refine GC.skip (?_ : GC _ _ _ _)
                              refine GC.seq' ?_
                              refine GC.region ?_
                              refine GL.pure rfl (p_assign rfl) ?_
                              refine GL.nil (?_ : GC _ _ _ _)
                              refine GC.ret ?_
                              refine fun a w h => Fin.back (rs := [.tmp 2]) (vs := [_]) (is := []) (js := []) rfl ⟨rfl, trivial⟩ rfl rfl ?_ h
                              clear h
                              refine ⟨congrArg (Value.int .i64) ?_, rfl, rfl⟩; first | (exfalso; omega) | (unfold formE; first | rw [if_pos (by simp only [formP, bareP] at *; omega)] | rw [if_neg (by simp only [formP, bareP] at *; omega)])
                          · try simp only [decide_eq_true_eq, decide_eq_false_iff_not, Bool.not_eq_true', Bool.not_eq_false', Bool.not_true, Bool.not_false, Bool.not_not, ne_eq, Decidable.not_not, Int.not_lt, Int.not_le, gt_iff_lt, ge_iff_le, bool_true_eq_, bool_false_eq_] at h16
                            refine GL.pass (s := 68) rfl rfl rfl ?_
                            refine GL.pass (s := 68) rfl rfl rfl ?_
                            refine GL.pass (s := 68) rfl rfl rfl ?_
                            refine GL.pass (s := 68) rfl rfl rfl ?_
                            refine GL.pass (s := 68) rfl rfl rfl ?_
                            refine GL.pass (s := 68) rfl rfl rfl ?_
                            refine GL.pass (s := 68) rfl rfl rfl ?_
                            refine GL.pass (s := 68) rfl rfl rfl ?_
                            refine GL.pure rfl (p_pick_false rfl rfl) ?_
                            refine GL.pure rfl (p_assign rfl) ?_
                            refine GL.nil (?_ : GC _ _ _ _)
                            refine GC.seq' ?_
                            refine GC.seq' ?_
                            refine GC.region ?_
                            refine GL.pure rfl (p_move rfl) ?_
                            refine GL.pure rfl (p_not rfl) ?_
                            refine GL.nil (?_ : GC _ _ _ _)
                            refine GC.cond_true rfl ?_
                            refine GC.seq' ?_
                            refine GC.region ?_
                            refine GL.pure rfl (p_assign rfl) ?_
                            refine GL.nil (?_ : GC _ _ _ _)
                            refine GC.ret ?_
                            refine fun a w h => Fin.back (rs := [.tmp 2]) (vs := [_]) (is := []) (js := []) rfl ⟨rfl, trivial⟩ rfl rfl ?_ h
                            clear h
                            refine ⟨congrArg (Value.int .i64) ?_, rfl, rfl⟩; first | (exfalso; omega) | (unfold formE; first | rw [if_pos (by simp only [formP, bareP] at *; omega)] | rw [if_neg (by simp only [formP, bareP] at *; omega)])
                        · try simp only [decide_eq_true_eq, decide_eq_false_iff_not, Bool.not_eq_true', Bool.not_eq_false', Bool.not_true, Bool.not_false, Bool.not_not, ne_eq, Decidable.not_not, Int.not_lt, Int.not_le, gt_iff_lt, ge_iff_le, bool_true_eq_, bool_false_eq_] at h15
                          refine GL.pass (s := 63) rfl rfl rfl ?_
                          refine GL.pass (s := 63) rfl rfl rfl ?_
                          refine GL.pass (s := 63) rfl rfl rfl ?_
                          refine GL.pure rfl (p_pick_false rfl rfl) ?_
                          refine GL.pure rfl (p_move rfl) ?_
                          refine GL.pass (s := 68) rfl rfl rfl ?_
                          refine GL.pass (s := 68) rfl rfl rfl ?_
                          refine GL.pass (s := 68) rfl rfl rfl ?_
                          refine GL.pass (s := 68) rfl rfl rfl ?_
                          refine GL.pass (s := 68) rfl rfl rfl ?_
                          refine GL.pass (s := 68) rfl rfl rfl ?_
                          refine GL.pass (s := 68) rfl rfl rfl ?_
                          refine GL.pass (s := 68) rfl rfl rfl ?_
                          refine GL.pure rfl (p_pick_false rfl rfl) ?_
                          refine GL.pure rfl (p_assign rfl) ?_
                          refine GL.nil (?_ : GC _ _ _ _)
                          refine GC.seq' ?_
                          refine GC.seq' ?_
                          refine GC.region ?_
                          refine GL.pure rfl (p_move rfl) ?_
                          refine GL.pure rfl (p_not rfl) ?_
                          refine GL.nil (?_ : GC _ _ _ _)
                          refine GC.cond_true rfl ?_
                          refine GC.seq' ?_
                          refine GC.region ?_
                          refine GL.pure rfl (p_assign rfl) ?_
                          refine GL.nil (?_ : GC _ _ _ _)
                          refine GC.ret ?_
                          refine fun a w h => Fin.back (rs := [.tmp 2]) (vs := [_]) (is := []) (js := []) rfl ⟨rfl, trivial⟩ rfl rfl ?_ h
                          clear h
                          refine ⟨congrArg (Value.int .i64) ?_, rfl, rfl⟩; first | (exfalso; omega) | (unfold formE; first | rw [if_pos (by simp only [formP, bareP] at *; omega)] | rw [if_neg (by simp only [formP, bareP] at *; omega)])
                      · try simp only [decide_eq_true_eq, decide_eq_false_iff_not, Bool.not_eq_true', Bool.not_eq_false', Bool.not_true, Bool.not_false, Bool.not_not, ne_eq, Decidable.not_not, Int.not_lt, Int.not_le, gt_iff_lt, ge_iff_le, bool_true_eq_, bool_false_eq_] at h14
                        refine GC.region ?_
                        refine GL.pure rfl (p_assign rfl) ?_
                        refine GL.nil (?_ : GC _ _ _ _)
                        refine GC.seq' ?_
                        refine GC.seq' ?_
                        refine GC.region ?_
                        refine GL.pure rfl (p_move rfl) ?_
                        refine GL.pure rfl (p_not rfl) ?_
                        refine GL.nil (?_ : GC _ _ _ _)
                        refine GC.cond_true rfl ?_
                        refine GC.seq' ?_
                        refine GC.region ?_
                        refine GL.pure rfl (p_assign rfl) ?_
                        refine GL.nil (?_ : GC _ _ _ _)
                        refine GC.ret ?_
                        refine fun a w h => Fin.back (rs := [.tmp 2]) (vs := [_]) (is := []) (js := []) rfl ⟨rfl, trivial⟩ rfl rfl ?_ h
                        clear h
                        refine ⟨congrArg (Value.int .i64) ?_, rfl, rfl⟩; first | (exfalso; omega) | (unfold formE; first | rw [if_pos (by simp only [formP, bareP] at *; omega)] | rw [if_neg (by simp only [formP, bareP] at *; omega)])
              · try simp only [decide_eq_true_eq, decide_eq_false_iff_not, Bool.not_eq_true', Bool.not_eq_false', Bool.not_true, Bool.not_false, Bool.not_not, ne_eq, Decidable.not_not, Int.not_lt, Int.not_le, gt_iff_lt, ge_iff_le, bool_true_eq_, bool_false_eq_] at h7
                refine GC.region ?_
                refine GL.pure rfl (p_eql rfl rfl) ?_
                refine GL.pure rfl (p_assign rfl) ?_
                refine GL.nil (?_ : GC _ _ _ _)
                refine GC.cond rfl (fun h18 => ?_) (fun h18 => ?_)
                · try simp only [decide_eq_true_eq, decide_eq_false_iff_not, Bool.not_eq_true', Bool.not_eq_false', Bool.not_true, Bool.not_false, Bool.not_not, ne_eq, Decidable.not_not, Int.not_lt, Int.not_le, gt_iff_lt, ge_iff_le, bool_true_eq_, bool_false_eq_] at h18
                  refine GC.region ?_
                  refine GL.pure rfl (p_fieldAddr fo_42_3 rfl) ?_
                  refine GL.step rfl (t_mem rfl (m_load (i := 0) rfl rfl ag_31 rfl)) ?_
                  refine GL.pure rfl (p_len Try.underlying31 rfl) ?_
                  refine GL.pure rfl (p_fieldAddr fo_42_4 rfl) ?_
                  refine GL.step rfl (t_mem rfl (m_load (i := 0) rfl rfl ag_31 rfl)) ?_
                  refine GL.pure rfl (p_len Try.underlying31 rfl) ?_
                  refine GL.pure rfl (p_add rfl rfl (w64 (by omega) (by omega))) ?_
                  refine GL.pure rfl (p_eql rfl rfl) ?_
                  refine GL.pure rfl (p_assign rfl) ?_
                  refine GL.nil (?_ : GC _ _ _ _)
                  refine GC.seq' ?_
                  refine GC.seq' ?_
                  refine GC.region ?_
                  refine GL.pure rfl (p_move rfl) ?_
                  refine GL.pure rfl (p_not rfl) ?_
                  refine GL.nil (?_ : GC _ _ _ _)
                  refine GC.cond rfl (fun h19 => ?_) (fun h19 => ?_)
                  · try simp only [decide_eq_true_eq, decide_eq_false_iff_not, Bool.not_eq_true', Bool.not_eq_false', Bool.not_true, Bool.not_false, Bool.not_not, ne_eq, Decidable.not_not, Int.not_lt, Int.not_le, gt_iff_lt, ge_iff_le, bool_true_eq_, bool_false_eq_] at h19
                    refine GC.seq' ?_
                    refine GC.region ?_
                    refine GL.pure rfl (p_assign rfl) ?_
                    refine GL.nil (?_ : GC _ _ _ _)
                    refine GC.ret ?_
                    refine fun a w h => Fin.back (rs := [.tmp 2]) (vs := [_]) (is := []) (js := []) rfl ⟨rfl, trivial⟩ rfl rfl ?_ h
                    clear h
                    refine ⟨congrArg (Value.int .i64) ?_, rfl, rfl⟩; first | (exfalso; omega) | (unfold formE; first | rw [if_pos (by simp only [formP, bareP] at *; omega)] | rw [if_neg (by simp only [formP, bareP] at *; omega)])
                  · try simp only [decide_eq_true_eq, decide_eq_false_iff_not, Bool.not_eq_true', Bool.not_eq_false', Bool.not_true, Bool.not_false, Bool.not_not, ne_eq, Decidable.not_not, Int.not_lt, Int.not_le, gt_iff_lt, ge_iff_le, bool_true_eq_, bool_false_eq_] at h19
                    refine GC.skip (?_ : GC _ _ _ _)
                    refine GC.seq' ?_
                    refine GC.region ?_
                    refine GL.pure rfl (p_assign rfl) ?_
                    refine GL.nil (?_ : GC _ _ _ _)
                    refine GC.ret ?_
                    refine fun a w h => Fin.back (rs := [.tmp 2]) (vs := [_]) (is := []) (js := []) rfl ⟨rfl, trivial⟩ rfl rfl ?_ h
                    clear h
                    refine ⟨congrArg (Value.int .i64) ?_, rfl, rfl⟩; first | (exfalso; omega) | (unfold formE; first | rw [if_pos (by simp only [formP, bareP] at *; omega)] | rw [if_neg (by simp only [formP, bareP] at *; omega)])
                · try simp only [decide_eq_true_eq, decide_eq_false_iff_not, Bool.not_eq_true', Bool.not_eq_false', Bool.not_true, Bool.not_false, Bool.not_not, ne_eq, Decidable.not_not, Int.not_lt, Int.not_le, gt_iff_lt, ge_iff_le, bool_true_eq_, bool_false_eq_] at h18
                  refine GC.seq' ?_
                  refine GC.region ?_
                  refine GL.pure rfl (p_eql rfl rfl) ?_
                  refine GL.pure rfl (p_assign rfl) ?_
                  refine GL.nil (?_ : GC _ _ _ _)
                  refine GC.cond rfl (fun h20 => ?_) (fun h20 => ?_)
                  · try simp only [decide_eq_true_eq, decide_eq_false_iff_not, Bool.not_eq_true', Bool.not_eq_false', Bool.not_true, Bool.not_false, Bool.not_not, ne_eq, Decidable.not_not, Int.not_lt, Int.not_le, gt_iff_lt, ge_iff_le, bool_true_eq_, bool_false_eq_] at h20
                    refine GC.region ?_
                    refine GL.pure rfl (p_fieldAddr fo_42_4 rfl) ?_
                    refine GL.step rfl (t_mem rfl (m_load (i := 0) rfl rfl ag_31 rfl)) ?_
                    refine GL.pure rfl (p_len Try.underlying31 rfl) ?_
                    refine GL.pure rfl (p_eql rfl rfl) ?_
                    refine GL.pure rfl (p_assign rfl) ?_
                    refine GL.nil (?_ : GC _ _ _ _)
                    refine GC.seq' ?_
                    refine GC.seq' ?_
                    refine GC.region ?_
                    refine GL.pure rfl (p_move rfl) ?_
                    refine GL.pure rfl (p_not rfl) ?_
                    refine GL.nil (?_ : GC _ _ _ _)
                    refine GC.cond rfl (fun h21 => ?_) (fun h21 => ?_)
                    · try simp only [decide_eq_true_eq, decide_eq_false_iff_not, Bool.not_eq_true', Bool.not_eq_false', Bool.not_true, Bool.not_false, Bool.not_not, ne_eq, Decidable.not_not, Int.not_lt, Int.not_le, gt_iff_lt, ge_iff_le, bool_true_eq_, bool_false_eq_] at h21
                      refine GC.seq' ?_
                      refine GC.region ?_
                      refine GL.pure rfl (p_assign rfl) ?_
                      refine GL.nil (?_ : GC _ _ _ _)
                      refine GC.ret ?_
                      refine fun a w h => Fin.back (rs := [.tmp 2]) (vs := [_]) (is := []) (js := []) rfl ⟨rfl, trivial⟩ rfl rfl ?_ h
                      clear h
                      refine ⟨congrArg (Value.int .i64) ?_, rfl, rfl⟩; first | (exfalso; omega) | (unfold formE; first | rw [if_pos (by simp only [formP, bareP] at *; omega)] | rw [if_neg (by simp only [formP, bareP] at *; omega)])
                    · try simp only [decide_eq_true_eq, decide_eq_false_iff_not, Bool.not_eq_true', Bool.not_eq_false', Bool.not_true, Bool.not_false, Bool.not_not, ne_eq, Decidable.not_not, Int.not_lt, Int.not_le, gt_iff_lt, ge_iff_le, bool_true_eq_, bool_false_eq_] at h21
                      refine GC.skip (?_ : GC _ _ _ _)
                      refine GC.seq' ?_
                      refine GC.region ?_
                      refine GL.pure rfl (p_assign rfl) ?_
                      refine GL.nil (?_ : GC _ _ _ _)
                      refine GC.ret ?_
                      refine fun a w h => Fin.back (rs := [.tmp 2]) (vs := [_]) (is := []) (js := []) rfl ⟨rfl, trivial⟩ rfl rfl ?_ h
                      clear h
                      refine ⟨congrArg (Value.int .i64) ?_, rfl, rfl⟩; first | (exfalso; omega) | (unfold formE; first | rw [if_pos (by simp only [formP, bareP] at *; omega)] | rw [if_neg (by simp only [formP, bareP] at *; omega)])
                  · try simp only [decide_eq_true_eq, decide_eq_false_iff_not, Bool.not_eq_true', Bool.not_eq_false', Bool.not_true, Bool.not_false, Bool.not_not, ne_eq, Decidable.not_not, Int.not_lt, Int.not_le, gt_iff_lt, ge_iff_le, bool_true_eq_, bool_false_eq_] at h20
                    refine GC.seq' ?_
                    refine GC.region ?_
                    refine GL.pure rfl (p_eql rfl rfl) ?_
                    refine GL.pure rfl (p_assign rfl) ?_
                    refine GL.nil (?_ : GC _ _ _ _)
                    refine GC.cond rfl (fun h22 => ?_) (fun h22 => ?_)
                    · try simp only [decide_eq_true_eq, decide_eq_false_iff_not, Bool.not_eq_true', Bool.not_eq_false', Bool.not_true, Bool.not_false, Bool.not_not, ne_eq, Decidable.not_not, Int.not_lt, Int.not_le, gt_iff_lt, ge_iff_le, bool_true_eq_, bool_false_eq_] at h22
                      refine GC.region ?_
                      refine GL.pure rfl (p_fieldAddr fo_42_2 rfl) ?_
                      refine GL.step rfl (t_mem rfl (m_load (i := 0) rfl rfl ag_3 rfl)) ?_
                      refine GL.pure rfl (p_eql rfl rfl) ?_
                      refine GL.pure rfl (p_assign rfl) ?_
                      refine GL.nil (?_ : GC _ _ _ _)
                      refine GC.seq' ?_
                      refine GC.seq' ?_
                      refine GC.region ?_
                      refine GL.pure rfl (p_move rfl) ?_
                      refine GL.pure rfl (p_not rfl) ?_
                      refine GL.nil (?_ : GC _ _ _ _)
                      refine GC.cond rfl (fun h23 => ?_) (fun h23 => ?_)
                      · try simp only [decide_eq_true_eq, decide_eq_false_iff_not, Bool.not_eq_true', Bool.not_eq_false', Bool.not_true, Bool.not_false, Bool.not_not, ne_eq, Decidable.not_not, Int.not_lt, Int.not_le, gt_iff_lt, ge_iff_le, bool_true_eq_, bool_false_eq_] at h23
                        refine GC.seq' ?_
                        refine GC.region ?_
                        refine GL.pure rfl (p_assign rfl) ?_
                        refine GL.nil (?_ : GC _ _ _ _)
                        refine GC.ret ?_
                        refine fun a w h => Fin.back (rs := [.tmp 2]) (vs := [_]) (is := []) (js := []) rfl ⟨rfl, trivial⟩ rfl rfl ?_ h
                        clear h
                        refine ⟨congrArg (Value.int .i64) ?_, rfl, rfl⟩; first | (exfalso; omega) | (unfold formE; first | rw [if_pos (by simp only [formP, bareP] at *; omega)] | rw [if_neg (by simp only [formP, bareP] at *; omega)])
                      · try simp only [decide_eq_true_eq, decide_eq_false_iff_not, Bool.not_eq_true', Bool.not_eq_false', Bool.not_true, Bool.not_false, Bool.not_not, ne_eq, Decidable.not_not, Int.not_lt, Int.not_le, gt_iff_lt, ge_iff_le, bool_true_eq_, bool_false_eq_] at h23
                        refine GC.skip (?_ : GC _ _ _ _)
                        refine GC.seq' ?_
                        refine GC.region ?_
                        refine GL.pure rfl (p_assign rfl) ?_
                        refine GL.nil (?_ : GC _ _ _ _)
                        refine GC.ret ?_
                        refine fun a w h => Fin.back (rs := [.tmp 2]) (vs := [_]) (is := []) (js := []) rfl ⟨rfl, trivial⟩ rfl rfl ?_ h
                        clear h
                        refine ⟨congrArg (Value.int .i64) ?_, rfl, rfl⟩; first | (exfalso; omega) | (unfold formE; first | rw [if_pos (by simp only [formP, bareP] at *; omega)] | rw [if_neg (by simp only [formP, bareP] at *; omega)])
                    · try simp only [decide_eq_true_eq, decide_eq_false_iff_not, Bool.not_eq_true', Bool.not_eq_false', Bool.not_true, Bool.not_false, Bool.not_not, ne_eq, Decidable.not_not, Int.not_lt, Int.not_le, gt_iff_lt, ge_iff_le, bool_true_eq_, bool_false_eq_] at h22
                      refine GC.seq' ?_
                      refine GC.region ?_
                      refine GL.pure rfl (p_eql rfl rfl) ?_
                      refine GL.pure rfl (p_assign rfl) ?_
                      refine GL.nil (?_ : GC _ _ _ _)
                      refine GC.cond rfl (fun h24 => ?_) (fun h24 => ?_)
                      · try simp only [decide_eq_true_eq, decide_eq_false_iff_not, Bool.not_eq_true', Bool.not_eq_false', Bool.not_true, Bool.not_false, Bool.not_not, ne_eq, Decidable.not_not, Int.not_lt, Int.not_le, gt_iff_lt, ge_iff_le, bool_true_eq_, bool_false_eq_] at h24
                        refine GC.region ?_
                        refine GL.pure rfl (p_fieldAddr fo_42_1 rfl) ?_
                        refine GL.step rfl (t_mem rfl (m_load (i := 0) rfl rfl ag_3 rfl)) ?_
                        refine GL.pure rfl (p_eql rfl rfl) ?_
                        refine GL.pure rfl (p_move rfl) ?_
                        refine GL.split (i := 63) rfl (fun h25 => ?_) (fun h25 => ?_)
                        · try simp only [decide_eq_true_eq, decide_eq_false_iff_not, Bool.not_eq_true', Bool.not_eq_false', Bool.not_true, Bool.not_false, Bool.not_not, ne_eq, Decidable.not_not, Int.not_lt, Int.not_le, gt_iff_lt, ge_iff_le, bool_true_eq_, bool_false_eq_] at h25
                          refine GL.pureG (s := 63) rfl rfl rfl (p_fieldAddr fo_42_2 rfl) ?_
                          refine GL.stepG rfl (s := 63) rfl rfl (t_mem rfl (m_load (i := 0) rfl rfl ag_3 rfl)) ?_
                          refine GL.pureG (s := 63) rfl rfl rfl (p_eql rfl rfl) ?_
                          refine GL.pure rfl (p_pick_true rfl rfl) ?_
                          refine GL.pure rfl (p_move rfl) ?_
                          refine GL.split (i := 68) rfl (fun h26 => ?_) (fun h26 => ?_)
                          · try simp only [decide_eq_true_eq, decide_eq_false_iff_not, Bool.not_eq_true', Bool.not_eq_false', Bool.not_true, Bool.not_false, Bool.not_not, ne_eq, Decidable.not_not, Int.not_lt, Int.not_le, gt_iff_lt, ge_iff_le, bool_true_eq_, bool_false_eq_] at h26
                            refine GL.pureG (s := 68) rfl rfl rfl (p_fieldAddr fo_42_3 rfl) ?_
                            refine GL.stepG rfl (s := 68) rfl rfl (t_mem rfl (m_load (i := 0) rfl rfl ag_31 rfl)) ?_
                            refine GL.pureG (s := 68) rfl rfl rfl (p_len Try.underlying31 rfl) ?_
                            refine GL.pureG (s := 68) rfl rfl rfl (p_fieldAddr fo_42_4 rfl) ?_
                            refine GL.stepG rfl (s := 68) rfl rfl (t_mem rfl (m_load (i := 0) rfl rfl ag_31 rfl)) ?_
                            refine GL.pureG (s := 68) rfl rfl rfl (p_len Try.underlying31 rfl) ?_
                            refine GL.pureG (s := 68) rfl rfl rfl (p_add rfl rfl (w64 (by omega) (by omega))) ?_
                            refine GL.pureG (s := 68) rfl rfl rfl (p_eql rfl rfl) ?_
                            refine GL.pure rfl (p_pick_true rfl rfl) ?_
                            refine GL.pure rfl (p_assign rfl) ?_
                            refine GL.nil (?_ : GC _ _ _ _)
                            refine GC.seq' ?_
                            refine GC.seq' ?_
                            refine GC.region ?_
                            refine GL.pure rfl (p_move rfl) ?_
                            refine GL.pure rfl (p_not rfl) ?_
                            refine GL.nil (?_ : GC _ _ _ _)
                            refine GC.cond rfl (fun h27 => ?_) (fun h27 => ?_)
                            · try simp only [decide_eq_true_eq, decide_eq_false_iff_not, Bool.not_eq_true', Bool.not_eq_false', Bool.not_true, Bool.not_false, Bool.not_not, ne_eq, Decidable.not_not, Int.not_lt, Int.not_le, gt_iff_lt, ge_iff_le, bool_true_eq_, bool_false_eq_] at h27
                              refine GC.seq' ?_
                              refine GC.region ?_
                              refine GL.pure rfl (p_assign rfl) ?_
                              refine GL.nil (?_ : GC _ _ _ _)
                              refine GC.ret ?_
                              refine fun a w h => Fin.back (rs := [.tmp 2]) (vs := [_]) (is := []) (js := []) rfl ⟨rfl, trivial⟩ rfl rfl ?_ h
                              clear h
                              refine ⟨congrArg (Value.int .i64) ?_, rfl, rfl⟩; first | (exfalso; omega) | (unfold formE; first | rw [if_pos (by simp only [formP, bareP] at *; omega)] | rw [if_neg (by simp only [formP, bareP] at *; omega)])
                            · try simp only [decide_eq_true_eq, decide_eq_false_iff_not, Bool.not_eq_true', Bool.not_eq_false', Bool.not_true, Bool.not_false, Bool.not_not, ne_eq, Decidable.not_not, Int.not_lt, Int.not_le, gt_iff_lt, ge_iff_le, bool_true_eq_, bool_false_eq_] at h27
                              refine GC.skip (?_ : GC _ _ _ _)
                              refine GC.seq' ?_
                              refine GC.region ?_
                              refine GL.pure rfl (p_assign rfl) ?_
                              refine GL.nil (?_ : GC _ _ _ _)
                              refine GC.ret ?_
                              refine fun a w h => Fin.back (rs := [.tmp 2]) (vs := [_]) (is := []) (js := []) rfl ⟨rfl, trivial⟩ rfl rfl ?_ h
                              clear h
                              refine ⟨congrArg (Value.int .i64) ?_, rfl, rfl⟩; first | (exfalso; omega) | (unfold formE; first | rw [if_pos (by simp only [formP, bareP] at *; omega)] | rw [if_neg (by simp only [formP, bareP] at *; omega)])
                          · try simp only [decide_eq_true_eq, decide_eq_false_iff_not, Bool.not_eq_true', Bool.not_eq_false', Bool.not_true, Bool.not_false, Bool.not_not, ne_eq, Decidable.not_not, Int.not_lt, Int.not_le, gt_iff_lt, ge_iff_le, bool_true_eq_, bool_false_eq_] at h26
                            refine GL.pass (s := 68) rfl rfl rfl ?_
                            refine GL.pass (s := 68) rfl rfl rfl ?_
                            refine GL.pass (s := 68) rfl rfl rfl ?_
                            refine GL.pass (s := 68) rfl rfl rfl ?_
                            refine GL.pass (s := 68) rfl rfl rfl ?_
                            refine GL.pass (s := 68) rfl rfl rfl ?_
                            refine GL.pass (s := 68) rfl rfl rfl ?_
                            refine GL.pass (s := 68) rfl rfl rfl ?_
                            refine GL.pure rfl (p_pick_false rfl rfl) ?_
                            refine GL.pure rfl (p_assign rfl) ?_
                            refine GL.nil (?_ : GC _ _ _ _)
                            refine GC.seq' ?_
                            refine GC.seq' ?_
                            refine GC.region ?_
                            refine GL.pure rfl (p_move rfl) ?_
                            refine GL.pure rfl (p_not rfl) ?_
                            refine GL.nil (?_ : GC _ _ _ _)
                            refine GC.cond_true rfl ?_
                            refine GC.seq' ?_
                            refine GC.region ?_
                            refine GL.pure rfl (p_assign rfl) ?_
                            refine GL.nil (?_ : GC _ _ _ _)
                            refine GC.ret ?_
                            refine fun a w h => Fin.back (rs := [.tmp 2]) (vs := [_]) (is := []) (js := []) rfl ⟨rfl, trivial⟩ rfl rfl ?_ h
                            clear h
                            refine ⟨congrArg (Value.int .i64) ?_, rfl, rfl⟩; first | (exfalso; omega) | (unfold formE; first | rw [if_pos (by simp only [formP, bareP] at *; omega)] | rw [if_neg (by simp only [formP, bareP] at *; omega)])
                        · try simp only [decide_eq_true_eq, decide_eq_false_iff_not, Bool.not_eq_true', Bool.not_eq_false', Bool.not_true, Bool.not_false, Bool.not_not, ne_eq, Decidable.not_not, Int.not_lt, Int.not_le, gt_iff_lt, ge_iff_le, bool_true_eq_, bool_false_eq_] at h25
                          refine GL.pass (s := 63) rfl rfl rfl ?_
                          refine GL.pass (s := 63) rfl rfl rfl ?_
                          refine GL.pass (s := 63) rfl rfl rfl ?_
                          refine GL.pure rfl (p_pick_false rfl rfl) ?_
                          refine GL.pure rfl (p_move rfl) ?_
                          refine GL.pass (s := 68) rfl rfl rfl ?_
                          refine GL.pass (s := 68) rfl rfl rfl ?_
                          refine GL.pass (s := 68) rfl rfl rfl ?_
                          refine GL.pass (s := 68) rfl rfl rfl ?_
                          refine GL.pass (s := 68) rfl rfl rfl ?_
                          refine GL.pass (s := 68) rfl rfl rfl ?_
                          refine GL.pass (s := 68) rfl rfl rfl ?_
                          refine GL.pass (s := 68) rfl rfl rfl ?_
                          refine GL.pure rfl (p_pick_false rfl rfl) ?_
                          refine GL.pure rfl (p_assign rfl) ?_
                          refine GL.nil (?_ : GC _ _ _ _)
                          refine GC.seq' ?_
                          refine GC.seq' ?_
                          refine GC.region ?_
                          refine GL.pure rfl (p_move rfl) ?_
                          refine GL.pure rfl (p_not rfl) ?_
                          refine GL.nil (?_ : GC _ _ _ _)
                          refine GC.cond_true rfl ?_
                          refine GC.seq' ?_
                          refine GC.region ?_
                          refine GL.pure rfl (p_assign rfl) ?_
                          refine GL.nil (?_ : GC _ _ _ _)
                          refine GC.ret ?_
                          refine fun a w h => Fin.back (rs := [.tmp 2]) (vs := [_]) (is := []) (js := []) rfl ⟨rfl, trivial⟩ rfl rfl ?_ h
                          clear h
                          refine ⟨congrArg (Value.int .i64) ?_, rfl, rfl⟩; first | (exfalso; omega) | (unfold formE; first | rw [if_pos (by simp only [formP, bareP] at *; omega)] | rw [if_neg (by simp only [formP, bareP] at *; omega)])
                      · try simp only [decide_eq_true_eq, decide_eq_false_iff_not, Bool.not_eq_true', Bool.not_eq_false', Bool.not_true, Bool.not_false, Bool.not_not, ne_eq, Decidable.not_not, Int.not_lt, Int.not_le, gt_iff_lt, ge_iff_le, bool_true_eq_, bool_false_eq_] at h24
                        refine GC.region ?_
                        refine GL.pure rfl (p_assign rfl) ?_
                        refine GL.nil (?_ : GC _ _ _ _)
                        refine GC.seq' ?_
                        refine GC.seq' ?_
                        refine GC.region ?_
                        refine GL.pure rfl (p_move rfl) ?_
                        refine GL.pure rfl (p_not rfl) ?_
                        refine GL.nil (?_ : GC _ _ _ _)
                        refine GC.cond_true rfl ?_
                        refine GC.seq' ?_
                        refine GC.region ?_
                        refine GL.pure rfl (p_assign rfl) ?_
                        refine GL.nil (?_ : GC _ _ _ _)
                        refine GC.ret ?_
                        refine fun a w h => Fin.back (rs := [.tmp 2]) (vs := [_]) (is := []) (js := []) rfl ⟨rfl, trivial⟩ rfl rfl ?_ h
                        clear h
                        refine ⟨congrArg (Value.int .i64) ?_, rfl, rfl⟩; first | (exfalso; omega) | (unfold formE; first | rw [if_pos (by simp only [formP, bareP] at *; omega)] | rw [if_neg (by simp only [formP, bareP] at *; omega)])
theorem shape_eq (bl sz e : Int) (h : shapeE bl sz = e) : Ct Try.prog 26 [shpV bl sz] [] [] (fun v G Q => v = .int .i64 e ∧ G = [] ∧ Q = []) := h ▸ shape_ct bl sz
theorem shapeR_eq (bl sz e : Int) (h : shapeE bl sz = e) : Ct Try.prog 10 [shpV bl sz] [] [] (fun v G Q => v = .int .i64 e ∧ G = [] ∧ Q = []) := h ▸ shapeR_ct bl sz
theorem mulB {x a y b : Int} (h0 : 0 ≤ x) (h1 : x ≤ a) (h2 : 0 ≤ y) (h3 : y ≤ b) : 0 ≤ x * y ∧ x * y ≤ a * b :=
  ⟨Int.mul_nonneg h0 h2, Int.mul_le_mul h1 h3 h2 (by omega)⟩
theorem tup2 {x y : Int} {p : Int × Int} (h : p = (x, y)) : tupV [.int .u8 x, .int .i64 y] = .tuple #[.int .u8 p.1, .int .i64 p.2] := by subst h; rfl
theorem shapeE_iff (bl sz : Int) : (shapeE bl sz = 0) ↔ shapeOk bl sz := by unfold shapeE; split <;> simp [*]
theorem formE_iff (k a n : Int) (x y : Nat) : (formE k a n x y = 0) ↔ formP k a n x y := by unfold formE; split <;> simp [*]
theorem fit_ct (bl sz kind a_ n : Int) (A : Option Addr) (dl cp : Nat) (B : Option Addr) (ol cq : Nat) : Ct Try.prog 35 [shpV bl sz, opV kind a_ n A dl cp B ol cq] [] [] (fun v G Q => v = .tuple #[.int .u8 (fitF bl sz kind a_ n dl ol).1, .int .i64 (fitF bl sz kind a_ n dl ol).2] ∧ G = [] ∧ Q = []) := by
  refine Ct.intro Try.func35 rfl rfl rfl (fun c hc => ?_)
  refine GC.seq' ?_
  refine GC.region ?_
  refine GL.step rfl (t_box rfl rfl rfl) (GL.ex fun b_t2 => ?_)
  refine GL.step rfl (t_box rfl rfl rfl) (GL.ex fun b_t3 => ?_)
  refine GL.pure rfl (p_assign rfl) ?_
  refine GL.pure rfl (p_assign rfl) ?_
  refine GL.nil (?_ : GC _ _ _ _)
  refine GC.seq' ?_
  refine GC.seq' ?_
  refine GC.region ?_
  refine GL.step rfl (t_mem rfl (m_loadN (i := 1) rfl rfl ag_23 (vs := [_, _]) sz_23 ⟨rfl, rfl, trivial⟩)) ?_
  refine GL.step rfl (t_call rfl fn_26 rfl (is := []) (js := []) rfl rfl (by exact shape_ct _ _)) (GL.ret ?_)
  rintro _ _ _ ⟨rfl, rfl, rfl⟩
  refine GL.pure rfl (p_assign rfl) ?_
  refine GL.nil (?_ : GC _ _ _ _)
  refine GC.seq' ?_
  refine GC.region ?_
  refine GL.pure rfl (p_move rfl) ?_
  refine GL.pure rfl (p_neq rfl rfl) ?_
  refine GL.nil (?_ : GC _ _ _ _)
  refine GC.cond rfl (fun h1 => ?_) (fun h1 => ?_)
  · try simp only [decide_eq_true_eq, decide_eq_false_iff_not, Bool.not_eq_true', Bool.not_eq_false', Bool.not_true, Bool.not_false, Bool.not_not, ne_eq, Decidable.not_not, Int.not_lt, Int.not_le, gt_iff_lt, ge_iff_le, bool_true_eq_, bool_false_eq_] at h1
    first
    | (exfalso; simp only [chgP, decide_eq_true_eq, decide_eq_false_iff_not] at h1; omega)
    | (skip
       refine GC.seq' ?_
       refine GC.region ?_
       refine GL.pure rfl (p_move rfl) ?_
       refine GL.pure rfl (p_assign rfl) ?_
       refine GL.pure rfl (p_assign rfl) ?_
       refine GL.nil (?_ : GC _ _ _ _)
       refine GC.ret ?_
       refine fun a w h => Fin.back (rs := [.tmp 4, .tmp 5]) (vs := [_, _]) (is := []) (js := []) rfl ⟨rfl, rfl, trivial⟩ rfl rfl ?_ h
       clear h
       refine ⟨tup2 ?_, rfl, rfl⟩
       have g1 : ¬ shapeOk bl sz := fun g => h1 ((shapeE_iff bl sz).2 g)
       simp [fitF, shapeE, g1])
  · try simp only [decide_eq_true_eq, decide_eq_false_iff_not, Bool.not_eq_true', Bool.not_eq_false', Bool.not_true, Bool.not_false, Bool.not_not, ne_eq, Decidable.not_not, Int.not_lt, Int.not_le, gt_iff_lt, ge_iff_le, bool_true_eq_, bool_false_eq_] at h1
    first
    | (exfalso; simp only [chgP, decide_eq_true_eq, decide_eq_false_iff_not] at h1; omega)
    | (skip
       refine GC.skip (?_ : GC _ _ _ _)
       refine GC.seq' ?_
       refine GC.seq' ?_
       refine GC.region ?_
       refine GL.step rfl (t_mem rfl (m_loadN (i := 0) rfl rfl ag_42 (vs := [_, _, _, _, _]) sz_42 ⟨rfl, rfl, rfl, rfl, rfl, trivial⟩)) ?_
       refine GL.step rfl (t_call rfl fn_47 rfl (is := []) (js := []) rfl rfl (by exact form_ct _ _ _ _ _ _ _ _ _)) (GL.ret ?_)
       rintro _ _ _ ⟨rfl, rfl, rfl⟩
       refine GL.pure rfl (p_assign rfl) ?_
       refine GL.nil (?_ : GC _ _ _ _)
       refine GC.seq' ?_
       refine GC.region ?_
       refine GL.pure rfl (p_move rfl) ?_
       refine GL.pure rfl (p_neq rfl rfl) ?_
       refine GL.nil (?_ : GC _ _ _ _)
       refine GC.cond rfl (fun h2 => ?_) (fun h2 => ?_)
       · try simp only [decide_eq_true_eq, decide_eq_false_iff_not, Bool.not_eq_true', Bool.not_eq_false', Bool.not_true, Bool.not_false, Bool.not_not, ne_eq, Decidable.not_not, Int.not_lt, Int.not_le, gt_iff_lt, ge_iff_le, bool_true_eq_, bool_false_eq_] at h2
         first
         | (exfalso; simp only [chgP, decide_eq_true_eq, decide_eq_false_iff_not] at h2; omega)
         | (skip
            refine GC.seq' ?_
            refine GC.region ?_
            refine GL.pure rfl (p_move rfl) ?_
            refine GL.pure rfl (p_assign rfl) ?_
            refine GL.pure rfl (p_assign rfl) ?_
            refine GL.nil (?_ : GC _ _ _ _)
            refine GC.ret ?_
            refine fun a w h => Fin.back (rs := [.tmp 4, .tmp 5]) (vs := [_, _]) (is := []) (js := []) rfl ⟨rfl, rfl, trivial⟩ rfl rfl ?_ h
            clear h
            refine ⟨tup2 ?_, rfl, rfl⟩
            have g1 := (shapeE_iff bl sz).1 h1
            have g2 : ¬ formP kind a_ n dl ol := fun g => h2 ((formE_iff kind a_ n dl ol).2 g)
            simp [fitF, formE, g1, g2])
       · try simp only [decide_eq_true_eq, decide_eq_false_iff_not, Bool.not_eq_true', Bool.not_eq_false', Bool.not_true, Bool.not_false, Bool.not_not, ne_eq, Decidable.not_not, Int.not_lt, Int.not_le, gt_iff_lt, ge_iff_le, bool_true_eq_, bool_false_eq_] at h2
         first
         | (exfalso; simp only [chgP, decide_eq_true_eq, decide_eq_false_iff_not] at h2; omega)
         | (skip
            refine GC.skip (?_ : GC _ _ _ _)
            refine GC.seq' ?_
            refine GC.region ?_
            have g1 := (shapeE_iff _ _).1 (by assumption)
            have g2 := (formE_iff _ _ _ _ _).1 (by assumption)
            have k1 := g1
            have k2 := g2
            simp only [shapeOk] at k1
            simp only [formP, bareP] at k2
            refine GL.pure rfl (p_fieldAddr fo_42_2 rfl) ?_
            refine GL.step rfl (t_mem rfl (m_load (i := 0) rfl rfl ag_3 rfl)) ?_
            refine GL.pure rfl (p_assign rfl) ?_
            refine GL.nil (?_ : GC _ _ _ _)
            refine GC.seq' ?_
            refine GC.seq' ?_
            refine GC.region ?_
            refine GL.pure rfl (p_fieldAddr fo_42_0 rfl) ?_
            refine GL.step rfl (t_mem rfl (m_load (i := 0) rfl rfl ag_40 rfl)) ?_
            refine GL.nil (?_ : GC _ _ _ _)
            refine GC.block ?_
            refine GC.seq' ?_
            refine GC.region ?_
            refine GL.pure rfl (p_eql rfl rfl) ?_
            refine GL.pure rfl (p_assign rfl) ?_
            refine GL.nil (?_ : GC _ _ _ _)
            refine GC.cond rfl (fun h3 => ?_) (fun h3 => ?_)
            · try simp only [decide_eq_true_eq, decide_eq_false_iff_not, Bool.not_eq_true', Bool.not_eq_false', Bool.not_true, Bool.not_false, Bool.not_not, ne_eq, Decidable.not_not, Int.not_lt, Int.not_le, gt_iff_lt, ge_iff_le, bool_true_eq_, bool_false_eq_] at h3
              first
              | (exfalso; simp only [chgP, decide_eq_true_eq, decide_eq_false_iff_not] at h3; omega)
              | (skip
                 refine GC.seq' ?_
                 refine GC.region ?_
                 refine GL.pure rfl (p_assign rfl) ?_
                 refine GL.pure rfl (p_assign rfl) ?_
                 refine GL.nil (?_ : GC _ _ _ _)
                 refine GC.ret ?_
                 refine fun a w h => Fin.back (rs := [.tmp 4, .tmp 5]) (vs := [_, _]) (is := []) (js := []) rfl ⟨rfl, rfl, trivial⟩ rfl rfl ?_ h
                 clear h
                 refine ⟨tup2 ?_, rfl, rfl⟩
                 unfold fitF
                 rw [if_neg (fun g => g g1), if_neg (fun g => g g2)]
                 try simp only [chgP, decide_eq_true_eq, decide_eq_false_iff_not] at *
                 (iterate 8 all_goals try split) <;> first | rfl | (exfalso; omega))
            · try simp only [decide_eq_true_eq, decide_eq_false_iff_not, Bool.not_eq_true', Bool.not_eq_false', Bool.not_true, Bool.not_false, Bool.not_not, ne_eq, Decidable.not_not, Int.not_lt, Int.not_le, gt_iff_lt, ge_iff_le, bool_true_eq_, bool_false_eq_] at h3
              first
              | (exfalso; simp only [chgP, decide_eq_true_eq, decide_eq_false_iff_not] at h3; omega)
              | (skip
                 refine GC.seq' ?_
                 refine GC.region ?_
                 refine GL.pure rfl (p_eql rfl rfl) ?_
                 refine GL.pure rfl (p_assign rfl) ?_
                 refine GL.nil (?_ : GC _ _ _ _)
                 refine GC.cond rfl (fun h4 => ?_) (fun h4 => ?_)
                 · try simp only [decide_eq_true_eq, decide_eq_false_iff_not, Bool.not_eq_true', Bool.not_eq_false', Bool.not_true, Bool.not_false, Bool.not_not, ne_eq, Decidable.not_not, Int.not_lt, Int.not_le, gt_iff_lt, ge_iff_le, bool_true_eq_, bool_false_eq_] at h4
                   first
                   | (exfalso; simp only [chgP, decide_eq_true_eq, decide_eq_false_iff_not] at h4; omega)
                   | (skip
                      refine GC.region ?_
                      refine GL.pure rfl (p_assign rfl) ?_
                      refine GL.nil (?_ : GC _ _ _ _)
                      refine GC.seq' ?_
                      refine GC.seq' ?_
                      refine GC.region ?_
                      refine GL.pure rfl (p_move rfl) ?_
                      refine GL.pure rfl (p_lss rfl rfl) ?_
                      refine GL.pure rfl (p_move rfl) ?_
                      refine GL.pureG (s := 29) rfl rfl rfl (p_move rfl) ?_
                      refine GL.pureG (s := 29) rfl rfl rfl (p_gtr rfl rfl) ?_
                      refine GL.pure rfl (p_pick_false rfl rfl) ?_
                      refine GL.pure rfl (p_move rfl) ?_
                      refine GL.pureG (s := 33) rfl rfl rfl (p_fieldAddr fo_42_1 rfl) ?_
                      refine GL.stepG rfl (s := 33) rfl rfl (t_mem rfl (m_load (i := 0) rfl rfl ag_3 rfl)) ?_
                      refine GL.pureG (s := 33) rfl rfl rfl (p_fieldAddr fo_23_0 rfl) ?_
                      refine GL.stepG rfl (s := 33) rfl rfl (t_mem rfl (m_load (i := 1) rfl rfl ag_3 rfl)) ?_
                      refine GL.pureG (s := 33) rfl rfl rfl (p_move rfl) ?_
                      refine GL.pureG (s := 33) rfl rfl rfl (p_sub rfl rfl (w64 (by omega) (by omega))) ?_
                      refine GL.pureG (s := 33) rfl rfl rfl (p_gtr rfl rfl) ?_
                      refine GL.pure rfl (p_pick_false rfl rfl) ?_
                      refine GL.nil (?_ : GC _ _ _ _)
                      refine GC.cond rfl (fun h5 => ?_) (fun h5 => ?_)
                      · try simp only [decide_eq_true_eq, decide_eq_false_iff_not, Bool.not_eq_true', Bool.not_eq_false', Bool.not_true, Bool.not_false, Bool.not_not, ne_eq, Decidable.not_not, Int.not_lt, Int.not_le, gt_iff_lt, ge_iff_le, bool_true_eq_, bool_false_eq_] at h5
                        first
                        | (exfalso; simp only [chgP, decide_eq_true_eq, decide_eq_false_iff_not] at h5; omega)
                        | (skip
                           refine GC.seq' ?_
                           refine GC.region ?_
                           refine GL.pure rfl (p_assign rfl) ?_
                           refine GL.pure rfl (p_assign rfl) ?_
                           refine GL.nil (?_ : GC _ _ _ _)
                           refine GC.ret ?_
                           refine fun a w h => Fin.back (rs := [.tmp 4, .tmp 5]) (vs := [_, _]) (is := []) (js := []) rfl ⟨rfl, rfl, trivial⟩ rfl rfl ?_ h
                           clear h
                           refine ⟨tup2 ?_, rfl, rfl⟩
                           unfold fitF
                           rw [if_neg (fun g => g g1), if_neg (fun g => g g2)]
                           try simp only [chgP, decide_eq_true_eq, decide_eq_false_iff_not] at *
                           (iterate 8 all_goals try split) <;> first | rfl | (exfalso; omega))
                      · try simp only [decide_eq_true_eq, decide_eq_false_iff_not, Bool.not_eq_true', Bool.not_eq_false', Bool.not_true, Bool.not_false, Bool.not_not, ne_eq, Decidable.not_not, Int.not_lt, Int.not_le, gt_iff_lt, ge_iff_le, bool_true_eq_, bool_false_eq_] at h5
                        first
                        | (exfalso; simp only [chgP, decide_eq_true_eq, decide_eq_false_iff_not] at h5; omega)
                        | (skip
                           refine GC.skip (?_ : GC _ _ _ _)
                           refine GC.seq' ?_
                           refine GC.seq' ?_
                           refine GC.region ?_
                           refine GL.step rfl (t_mem rfl (m_loadN (i := 0) rfl rfl ag_42 (vs := [_, _, _, _, _]) sz_42 ⟨rfl, rfl, rfl, rfl, rfl, trivial⟩)) ?_
                           refine GL.step rfl (t_call rfl fn_48 rfl (is := []) (js := []) rfl rfl (by exact chg_ct _ _ _ _ _ _ _ _ _)) (GL.ret ?_)
                           rintro _ _ _ ⟨rfl, rfl, rfl⟩
                           refine GL.pure rfl (p_move rfl) ?_
                           refine GL.split (i := 44) rfl (fun h6 => ?_) (fun h6 => ?_)
                           · try simp only [decide_eq_true_eq, decide_eq_false_iff_not, Bool.not_eq_true', Bool.not_eq_false', Bool.not_true, Bool.not_false, Bool.not_not, ne_eq, Decidable.not_not, Int.not_lt, Int.not_le, gt_iff_lt, ge_iff_le, bool_true_eq_, bool_false_eq_] at h6
                             first
                             | (exfalso; simp only [chgP, decide_eq_true_eq, decide_eq_false_iff_not] at h6; omega)
                             | (skip
                                refine GL.pureG (s := 44) rfl rfl rfl (p_fieldAddr fo_42_0 rfl) ?_
                                refine GL.stepG rfl (s := 44) rfl rfl (t_mem rfl (m_load (i := 0) rfl rfl ag_40 rfl)) ?_
                                refine GL.pureG (s := 44) rfl rfl rfl (p_neq rfl rfl) ?_
                                refine GL.pure rfl (p_pick_true rfl rfl) ?_
                                refine GL.pure rfl (p_move rfl) ?_
                                refine GL.split (i := 49) rfl (fun h7 => ?_) (fun h7 => ?_)
                                · try simp only [decide_eq_true_eq, decide_eq_false_iff_not, Bool.not_eq_true', Bool.not_eq_false', Bool.not_true, Bool.not_false, Bool.not_not, ne_eq, Decidable.not_not, Int.not_lt, Int.not_le, gt_iff_lt, ge_iff_le, bool_true_eq_, bool_false_eq_] at h7
                                  first
                                  | (exfalso; simp only [chgP, decide_eq_true_eq, decide_eq_false_iff_not] at h7; omega)
                                  | (skip
                                     refine GL.pureG (s := 49) rfl rfl rfl (p_fieldAddr fo_42_3 rfl) ?_
                                     refine GL.stepG rfl (s := 49) rfl rfl (t_mem rfl (m_load (i := 0) rfl rfl ag_31 rfl)) ?_
                                     refine GL.pureG (s := 49) rfl rfl rfl (p_len Try.underlying31 rfl) ?_
                                     refine GL.pureG (s := 49) rfl rfl rfl (p_move rfl) ?_
                                     refine GL.pureG (s := 49) rfl rfl rfl (p_fieldAddr fo_23_1 rfl) ?_
                                     refine GL.stepG rfl (s := 49) rfl rfl (t_mem rfl (m_load (i := 1) rfl rfl ag_3 rfl)) ?_
                                     have hm : (n < 1 ∨ 64 < n) ∨ (0 ≤ n * sz ∧ n * sz ≤ 262144) := by
                                       by_cases g : n < 1 ∨ 64 < n
                                       · exact .inl g
                                       · exact .inr (mulB (a := 64) (b := 4096) (by omega) (by omega) (by omega) (by omega))
                                     refine GL.pureG (s := 49) rfl rfl rfl (p_mul rfl rfl (w64 (by omega) (by omega))) ?_
                                     refine GL.pureG (s := 49) rfl rfl rfl (p_neq rfl rfl) ?_
                                     refine GL.pure rfl (p_pick_true rfl rfl) ?_
                                     refine GL.pure rfl (p_move rfl) ?_
                                     refine GL.split (i := 59) rfl (fun h8 => ?_) (fun h8 => ?_)
                                     · try simp only [decide_eq_true_eq, decide_eq_false_iff_not, Bool.not_eq_true', Bool.not_eq_false', Bool.not_true, Bool.not_false, Bool.not_not, ne_eq, Decidable.not_not, Int.not_lt, Int.not_le, gt_iff_lt, ge_iff_le, bool_true_eq_, bool_false_eq_] at h8
                                       first
                                       | (exfalso; simp only [chgP, decide_eq_true_eq, decide_eq_false_iff_not] at h8; omega)
                                       | (skip
                                          refine GL.pass (s := 59) rfl rfl rfl ?_
                                          refine GL.pass (s := 59) rfl rfl rfl ?_
                                          refine GL.pass (s := 59) rfl rfl rfl ?_
                                          refine GL.pass (s := 59) rfl rfl rfl ?_
                                          refine GL.passU (s := 63) rfl rfl rfl ?_
                                          refine GL.passU (s := 63) rfl rfl rfl ?_
                                          refine GL.passU (s := 63) rfl rfl rfl ?_
                                          refine GL.passU (s := 63) rfl rfl rfl ?_
                                          refine GL.passU (s := 63) rfl rfl rfl ?_
                                          refine GL.passU (s := 63) rfl rfl rfl ?_
                                          refine GL.pass (s := 59) rfl rfl rfl ?_
                                          refine GL.pure rfl (p_pick_true rfl rfl) ?_
                                          refine GL.nil (?_ : GC _ _ _ _)
                                          refine GC.cond_true rfl ?_
                                          refine GC.seq' ?_
                                          refine GC.region ?_
                                          refine GL.pure rfl (p_assign rfl) ?_
                                          refine GL.pure rfl (p_assign rfl) ?_
                                          refine GL.nil (?_ : GC _ _ _ _)
                                          refine GC.ret ?_
                                          refine fun a w h => Fin.back (rs := [.tmp 4, .tmp 5]) (vs := [_, _]) (is := []) (js := []) rfl ⟨rfl, rfl, trivial⟩ rfl rfl ?_ h
                                          clear h
                                          refine ⟨tup2 ?_, rfl, rfl⟩
                                          unfold fitF
                                          rw [if_neg (fun g => g g1), if_neg (fun g => g g2)]
                                          try simp only [chgP, decide_eq_true_eq, decide_eq_false_iff_not] at *
                                          (iterate 8 all_goals try split) <;> first | rfl | (exfalso; omega))
                                     · try simp only [decide_eq_true_eq, decide_eq_false_iff_not, Bool.not_eq_true', Bool.not_eq_false', Bool.not_true, Bool.not_false, Bool.not_not, ne_eq, Decidable.not_not, Int.not_lt, Int.not_le, gt_iff_lt, ge_iff_le, bool_true_eq_, bool_false_eq_] at h8
                                       first
                                       | (exfalso; simp only [chgP, decide_eq_true_eq, decide_eq_false_iff_not] at h8; omega)
                                       | (skip
                                          refine GL.pureG (s := 59) rfl rfl rfl (p_fieldAddr fo_42_0 rfl) ?_
                                          refine GL.stepG rfl (s := 59) rfl rfl (t_mem rfl (m_load (i := 0) rfl rfl ag_40 rfl)) ?_
                                          refine GL.pureG (s := 59) rfl rfl rfl (p_eql rfl rfl) ?_
                                          refine GL.pureG (s := 59) rfl rfl rfl (p_move rfl) ?_
                                          refine GL.split (i := 63) rfl (fun h9 => ?_) (fun h9 => ?_)
                                          · try simp only [decide_eq_true_eq, decide_eq_false_iff_not, Bool.not_eq_true', Bool.not_eq_false', Bool.not_true, Bool.not_false, Bool.not_not, ne_eq, Decidable.not_not, Int.not_lt, Int.not_le, gt_iff_lt, ge_iff_le, bool_true_eq_, bool_false_eq_] at h9
                                            first
                                            | (exfalso; simp only [chgP, decide_eq_true_eq, decide_eq_false_iff_not] at h9; omega)
                                            | (skip
                                               refine GL.pureG (s := 63) rfl rfl rfl (p_fieldAddr fo_42_4 rfl) ?_
                                               refine GL.stepG rfl (s := 63) rfl rfl (t_mem rfl (m_load (i := 0) rfl rfl ag_31 rfl)) ?_
                                               refine GL.pureG (s := 63) rfl rfl rfl (p_len Try.underlying31 rfl) ?_
                                               refine GL.pureG (s := 63) rfl rfl rfl (p_fieldAddr fo_23_1 rfl) ?_
                                               refine GL.stepG rfl (s := 63) rfl rfl (t_mem rfl (m_load (i := 1) rfl rfl ag_3 rfl)) ?_
                                               refine GL.pureG (s := 63) rfl rfl rfl (p_neq rfl rfl) ?_
                                               refine GL.pureG (s := 59) rfl rfl rfl (p_pick_true rfl rfl) ?_
                                               refine GL.pure rfl (p_pick_false rfl rfl) ?_
                                               refine GL.nil (?_ : GC _ _ _ _)
                                               refine GC.cond rfl (fun h10 => ?_) (fun h10 => ?_)
                                               · try simp only [decide_eq_true_eq, decide_eq_false_iff_not, Bool.not_eq_true', Bool.not_eq_false', Bool.not_true, Bool.not_false, Bool.not_not, ne_eq, Decidable.not_not, Int.not_lt, Int.not_le, gt_iff_lt, ge_iff_le, bool_true_eq_, bool_false_eq_] at h10
                                                 first
                                                 | (exfalso; simp only [chgP, decide_eq_true_eq, decide_eq_false_iff_not] at h10; omega)
                                                 | (skip
                                                    refine GC.seq' ?_
                                                    refine GC.region ?_
                                                    refine GL.pure rfl (p_assign rfl) ?_
                                                    refine GL.pure rfl (p_assign rfl) ?_
                                                    refine GL.nil (?_ : GC _ _ _ _)
                                                    refine GC.ret ?_
                                                    refine fun a w h => Fin.back (rs := [.tmp 4, .tmp 5]) (vs := [_, _]) (is := []) (js := []) rfl ⟨rfl, rfl, trivial⟩ rfl rfl ?_ h
                                                    clear h
                                                    refine ⟨tup2 ?_, rfl, rfl⟩
                                                    unfold fitF
                                                    rw [if_neg (fun g => g g1), if_neg (fun g => g g2)]
                                                    try simp only [chgP, decide_eq_true_eq, decide_eq_false_iff_not] at *
                                                    (iterate 8 all_goals try split) <;> first | rfl | (exfalso; omega))
                                               · try simp only [decide_eq_true_eq, decide_eq_false_iff_not, Bool.not_eq_true', Bool.not_eq_false', Bool.not_true, Bool.not_false, Bool.not_not, ne_eq, Decidable.not_not, Int.not_lt, Int.not_le, gt_iff_lt, ge_iff_le, bool_true_eq_, bool_false_eq_] at h10
                                                 first
                                                 | (exfalso; simp only [chgP, decide_eq_true_eq, decide_eq_false_iff_not] at h10; omega)
                                                 | (skip
                                                    refine GC.skip (?_ : GC _ _ _ _)
                                                    refine GC.seq' ?_
                                                    refine GC.region ?_
                                                    refine GL.pure rfl (p_assign rfl) ?_
                                                    refine GL.pure rfl (p_assign rfl) ?_
                                                    refine GL.nil (?_ : GC _ _ _ _)
                                                    refine GC.ret ?_
                                                    refine fun a w h => Fin.back (rs := [.tmp 4, .tmp 5]) (vs := [_, _]) (is := []) (js := []) rfl ⟨rfl, rfl, trivial⟩ rfl rfl ?_ h
                                                    clear h
                                                    refine ⟨tup2 ?_, rfl, rfl⟩
                                                    unfold fitF
                                                    rw [if_neg (fun g => g g1), if_neg (fun g => g g2)]
                                                    try simp only [chgP, decide_eq_true_eq, decide_eq_false_iff_not] at *
                                                    (iterate 8 all_goals try split) <;> first | rfl | (exfalso; omega)))
                                          · try simp only [decide_eq_true_eq, decide_eq_false_iff_not, Bool.not_eq_true', Bool.not_eq_false', Bool.not_true, Bool.not_false, Bool.not_not, ne_eq, Decidable.not_not, Int.not_lt, Int.not_le, gt_iff_lt, ge_iff_le, bool_true_eq_, bool_false_eq_] at h9
                                            first
                                            | (exfalso; simp only [chgP, decide_eq_true_eq, decide_eq_false_iff_not] at h9; omega)
                                            | (skip
                                               refine GL.pass (s := 63) rfl rfl rfl ?_
                                               refine GL.pass (s := 63) rfl rfl rfl ?_
                                               refine GL.pass (s := 63) rfl rfl rfl ?_
                                               refine GL.pass (s := 63) rfl rfl rfl ?_
                                               refine GL.pass (s := 63) rfl rfl rfl ?_
                                               refine GL.pass (s := 63) rfl rfl rfl ?_
                                               refine GL.pureG (s := 59) rfl rfl rfl (p_pick_false rfl rfl) ?_
                                               refine GL.pure rfl (p_pick_false rfl rfl) ?_
                                               refine GL.nil (?_ : GC _ _ _ _)
                                               refine GC.cond_false rfl ?_
                                               refine GC.skip (?_ : GC _ _ _ _)
                                               refine GC.seq' ?_
                                               refine GC.region ?_
                                               refine GL.pure rfl (p_assign rfl) ?_
                                               refine GL.pure rfl (p_assign rfl) ?_
                                               refine GL.nil (?_ : GC _ _ _ _)
                                               refine GC.ret ?_
                                               refine fun a w h => Fin.back (rs := [.tmp 4, .tmp 5]) (vs := [_, _]) (is := []) (js := []) rfl ⟨rfl, rfl, trivial⟩ rfl rfl ?_ h
                                               clear h
                                               refine ⟨tup2 ?_, rfl, rfl⟩
                                               unfold fitF
                                               rw [if_neg (fun g => g g1), if_neg (fun g => g g2)]
                                               try simp only [chgP, decide_eq_true_eq, decide_eq_false_iff_not] at *
                                               (iterate 8 all_goals try split) <;> first | rfl | (exfalso; omega))))
                                · try simp only [decide_eq_true_eq, decide_eq_false_iff_not, Bool.not_eq_true', Bool.not_eq_false', Bool.not_true, Bool.not_false, Bool.not_not, ne_eq, Decidable.not_not, Int.not_lt, Int.not_le, gt_iff_lt, ge_iff_le, bool_true_eq_, bool_false_eq_] at h7
                                  first
                                  | (exfalso; simp only [chgP, decide_eq_true_eq, decide_eq_false_iff_not] at h7; omega)
                                  | (skip
                                     refine GL.pass (s := 49) rfl rfl rfl ?_
                                     refine GL.pass (s := 49) rfl rfl rfl ?_
                                     refine GL.pass (s := 49) rfl rfl rfl ?_
                                     refine GL.pass (s := 49) rfl rfl rfl ?_
                                     refine GL.pass (s := 49) rfl rfl rfl ?_
                                     refine GL.pass (s := 49) rfl rfl rfl ?_
                                     have hm : (n < 1 ∨ 64 < n) ∨ (0 ≤ n * sz ∧ n * sz ≤ 262144) := by
                                       by_cases g : n < 1 ∨ 64 < n
                                       · exact .inl g
                                       · exact .inr (mulB (a := 64) (b := 4096) (by omega) (by omega) (by omega) (by omega))
                                     refine GL.pass (s := 49) rfl rfl rfl ?_
                                     refine GL.pass (s := 49) rfl rfl rfl ?_
                                     refine GL.pure rfl (p_pick_false rfl rfl) ?_
                                     refine GL.pure rfl (p_move rfl) ?_
                                     refine GL.pureG (s := 59) rfl rfl rfl (p_fieldAddr fo_42_0 rfl) ?_
                                     refine GL.stepG rfl (s := 59) rfl rfl (t_mem rfl (m_load (i := 0) rfl rfl ag_40 rfl)) ?_
                                     refine GL.pureG (s := 59) rfl rfl rfl (p_eql rfl rfl) ?_
                                     refine GL.pureG (s := 59) rfl rfl rfl (p_move rfl) ?_
                                     refine GL.split (i := 63) rfl (fun h11 => ?_) (fun h11 => ?_)
                                     · try simp only [decide_eq_true_eq, decide_eq_false_iff_not, Bool.not_eq_true', Bool.not_eq_false', Bool.not_true, Bool.not_false, Bool.not_not, ne_eq, Decidable.not_not, Int.not_lt, Int.not_le, gt_iff_lt, ge_iff_le, bool_true_eq_, bool_false_eq_] at h11
                                       first
                                       | (exfalso; simp only [chgP, decide_eq_true_eq, decide_eq_false_iff_not] at h11; omega)
                                       | (skip
                                          refine GL.pureG (s := 63) rfl rfl rfl (p_fieldAddr fo_42_4 rfl) ?_
                                          refine GL.stepG rfl (s := 63) rfl rfl (t_mem rfl (m_load (i := 0) rfl rfl ag_31 rfl)) ?_
                                          refine GL.pureG (s := 63) rfl rfl rfl (p_len Try.underlying31 rfl) ?_
                                          refine GL.pureG (s := 63) rfl rfl rfl (p_fieldAddr fo_23_1 rfl) ?_
                                          refine GL.stepG rfl (s := 63) rfl rfl (t_mem rfl (m_load (i := 1) rfl rfl ag_3 rfl)) ?_
                                          refine GL.pureG (s := 63) rfl rfl rfl (p_neq rfl rfl) ?_
                                          refine GL.pureG (s := 59) rfl rfl rfl (p_pick_true rfl rfl) ?_
                                          refine GL.pure rfl (p_pick_false rfl rfl) ?_
                                          refine GL.nil (?_ : GC _ _ _ _)
                                          refine GC.cond rfl (fun h12 => ?_) (fun h12 => ?_)
                                          · try simp only [decide_eq_true_eq, decide_eq_false_iff_not, Bool.not_eq_true', Bool.not_eq_false', Bool.not_true, Bool.not_false, Bool.not_not, ne_eq, Decidable.not_not, Int.not_lt, Int.not_le, gt_iff_lt, ge_iff_le, bool_true_eq_, bool_false_eq_] at h12
                                            first
                                            | (exfalso; simp only [chgP, decide_eq_true_eq, decide_eq_false_iff_not] at h12; omega)
                                            | (skip
                                               refine GC.seq' ?_
                                               refine GC.region ?_
                                               refine GL.pure rfl (p_assign rfl) ?_
                                               refine GL.pure rfl (p_assign rfl) ?_
                                               refine GL.nil (?_ : GC _ _ _ _)
                                               refine GC.ret ?_
                                               refine fun a w h => Fin.back (rs := [.tmp 4, .tmp 5]) (vs := [_, _]) (is := []) (js := []) rfl ⟨rfl, rfl, trivial⟩ rfl rfl ?_ h
                                               clear h
                                               refine ⟨tup2 ?_, rfl, rfl⟩
                                               unfold fitF
                                               rw [if_neg (fun g => g g1), if_neg (fun g => g g2)]
                                               try simp only [chgP, decide_eq_true_eq, decide_eq_false_iff_not] at *
                                               (iterate 8 all_goals try split) <;> first | rfl | (exfalso; omega))
                                          · try simp only [decide_eq_true_eq, decide_eq_false_iff_not, Bool.not_eq_true', Bool.not_eq_false', Bool.not_true, Bool.not_false, Bool.not_not, ne_eq, Decidable.not_not, Int.not_lt, Int.not_le, gt_iff_lt, ge_iff_le, bool_true_eq_, bool_false_eq_] at h12
                                            first
                                            | (exfalso; simp only [chgP, decide_eq_true_eq, decide_eq_false_iff_not] at h12; omega)
                                            | (skip
                                               refine GC.skip (?_ : GC _ _ _ _)
                                               refine GC.seq' ?_
                                               refine GC.region ?_
                                               refine GL.pure rfl (p_assign rfl) ?_
                                               refine GL.pure rfl (p_assign rfl) ?_
                                               refine GL.nil (?_ : GC _ _ _ _)
                                               refine GC.ret ?_
                                               refine fun a w h => Fin.back (rs := [.tmp 4, .tmp 5]) (vs := [_, _]) (is := []) (js := []) rfl ⟨rfl, rfl, trivial⟩ rfl rfl ?_ h
                                               clear h
                                               refine ⟨tup2 ?_, rfl, rfl⟩
                                               unfold fitF
                                               rw [if_neg (fun g => g g1), if_neg (fun g => g g2)]
                                               try simp only [chgP, decide_eq_true_eq, decide_eq_false_iff_not] at *
                                               (iterate 8 all_goals try split) <;> first | rfl | (exfalso; omega)))
                                     · try simp only [decide_eq_true_eq, decide_eq_false_iff_not, Bool.not_eq_true', Bool.not_eq_false', Bool.not_true, Bool.not_false, Bool.not_not, ne_eq, Decidable.not_not, Int.not_lt, Int.not_le, gt_iff_lt, ge_iff_le, bool_true_eq_, bool_false_eq_] at h11
                                       first
                                       | (exfalso; simp only [chgP, decide_eq_true_eq, decide_eq_false_iff_not] at h11; omega)
                                       | (skip
                                          refine GL.pass (s := 63) rfl rfl rfl ?_
                                          refine GL.pass (s := 63) rfl rfl rfl ?_
                                          refine GL.pass (s := 63) rfl rfl rfl ?_
                                          refine GL.pass (s := 63) rfl rfl rfl ?_
                                          refine GL.pass (s := 63) rfl rfl rfl ?_
                                          refine GL.pass (s := 63) rfl rfl rfl ?_
                                          refine GL.pureG (s := 59) rfl rfl rfl (p_pick_false rfl rfl) ?_
                                          refine GL.pure rfl (p_pick_false rfl rfl) ?_
                                          refine GL.nil (?_ : GC _ _ _ _)
                                          refine GC.cond_false rfl ?_
                                          refine GC.skip (?_ : GC _ _ _ _)
                                          refine GC.seq' ?_
                                          refine GC.region ?_
                                          refine GL.pure rfl (p_assign rfl) ?_
                                          refine GL.pure rfl (p_assign rfl) ?_
                                          refine GL.nil (?_ : GC _ _ _ _)
                                          refine GC.ret ?_
                                          refine fun a w h => Fin.back (rs := [.tmp 4, .tmp 5]) (vs := [_, _]) (is := []) (js := []) rfl ⟨rfl, rfl, trivial⟩ rfl rfl ?_ h
                                          clear h
                                          refine ⟨tup2 ?_, rfl, rfl⟩
                                          unfold fitF
                                          rw [if_neg (fun g => g g1), if_neg (fun g => g g2)]
                                          try simp only [chgP, decide_eq_true_eq, decide_eq_false_iff_not] at *
                                          (iterate 8 all_goals try split) <;> first | rfl | (exfalso; omega))))
                           · try simp only [decide_eq_true_eq, decide_eq_false_iff_not, Bool.not_eq_true', Bool.not_eq_false', Bool.not_true, Bool.not_false, Bool.not_not, ne_eq, Decidable.not_not, Int.not_lt, Int.not_le, gt_iff_lt, ge_iff_le, bool_true_eq_, bool_false_eq_] at h6
                             first
                             | (exfalso; simp only [chgP, decide_eq_true_eq, decide_eq_false_iff_not] at h6; omega)
                             | (skip
                                refine GL.pass (s := 44) rfl rfl rfl ?_
                                refine GL.pass (s := 44) rfl rfl rfl ?_
                                refine GL.pass (s := 44) rfl rfl rfl ?_
                                refine GL.pure rfl (p_pick_false rfl rfl) ?_
                                refine GL.pure rfl (p_move rfl) ?_
                                refine GL.pass (s := 49) rfl rfl rfl ?_
                                refine GL.pass (s := 49) rfl rfl rfl ?_
                                refine GL.pass (s := 49) rfl rfl rfl ?_
                                refine GL.pass (s := 49) rfl rfl rfl ?_
                                refine GL.pass (s := 49) rfl rfl rfl ?_
                                refine GL.pass (s := 49) rfl rfl rfl ?_
                                have hm : (n < 1 ∨ 64 < n) ∨ (0 ≤ n * sz ∧ n * sz ≤ 262144) := by
                                  by_cases g : n < 1 ∨ 64 < n
                                  · exact .inl g
                                  · exact .inr (mulB (a := 64) (b := 4096) (by omega) (by omega) (by omega) (by omega))
                                refine GL.pass (s := 49) rfl rfl rfl ?_
                                refine GL.pass (s := 49) rfl rfl rfl ?_
                                refine GL.pure rfl (p_pick_false rfl rfl) ?_
                                refine GL.pure rfl (p_move rfl) ?_
                                refine GL.pureG (s := 59) rfl rfl rfl (p_fieldAddr fo_42_0 rfl) ?_
                                refine GL.stepG rfl (s := 59) rfl rfl (t_mem rfl (m_load (i := 0) rfl rfl ag_40 rfl)) ?_
                                refine GL.pureG (s := 59) rfl rfl rfl (p_eql rfl rfl) ?_
                                refine GL.pureG (s := 59) rfl rfl rfl (p_move rfl) ?_
                                refine GL.split (i := 63) rfl (fun h13 => ?_) (fun h13 => ?_)
                                · try simp only [decide_eq_true_eq, decide_eq_false_iff_not, Bool.not_eq_true', Bool.not_eq_false', Bool.not_true, Bool.not_false, Bool.not_not, ne_eq, Decidable.not_not, Int.not_lt, Int.not_le, gt_iff_lt, ge_iff_le, bool_true_eq_, bool_false_eq_] at h13
                                  first
                                  | (exfalso; simp only [chgP, decide_eq_true_eq, decide_eq_false_iff_not] at h13; omega)
                                  | (skip
                                     refine GL.pureG (s := 63) rfl rfl rfl (p_fieldAddr fo_42_4 rfl) ?_
                                     refine GL.stepG rfl (s := 63) rfl rfl (t_mem rfl (m_load (i := 0) rfl rfl ag_31 rfl)) ?_
                                     refine GL.pureG (s := 63) rfl rfl rfl (p_len Try.underlying31 rfl) ?_
                                     refine GL.pureG (s := 63) rfl rfl rfl (p_fieldAddr fo_23_1 rfl) ?_
                                     refine GL.stepG rfl (s := 63) rfl rfl (t_mem rfl (m_load (i := 1) rfl rfl ag_3 rfl)) ?_
                                     refine GL.pureG (s := 63) rfl rfl rfl (p_neq rfl rfl) ?_
                                     refine GL.pureG (s := 59) rfl rfl rfl (p_pick_true rfl rfl) ?_
                                     refine GL.pure rfl (p_pick_false rfl rfl) ?_
                                     refine GL.nil (?_ : GC _ _ _ _)
                                     refine GC.cond rfl (fun h14 => ?_) (fun h14 => ?_)
                                     · try simp only [decide_eq_true_eq, decide_eq_false_iff_not, Bool.not_eq_true', Bool.not_eq_false', Bool.not_true, Bool.not_false, Bool.not_not, ne_eq, Decidable.not_not, Int.not_lt, Int.not_le, gt_iff_lt, ge_iff_le, bool_true_eq_, bool_false_eq_] at h14
                                       first
                                       | (exfalso; simp only [chgP, decide_eq_true_eq, decide_eq_false_iff_not] at h14; omega)
                                       | (skip
                                          refine GC.seq' ?_
                                          refine GC.region ?_
                                          refine GL.pure rfl (p_assign rfl) ?_
                                          refine GL.pure rfl (p_assign rfl) ?_
                                          refine GL.nil (?_ : GC _ _ _ _)
                                          refine GC.ret ?_
                                          refine fun a w h => Fin.back (rs := [.tmp 4, .tmp 5]) (vs := [_, _]) (is := []) (js := []) rfl ⟨rfl, rfl, trivial⟩ rfl rfl ?_ h
                                          clear h
                                          refine ⟨tup2 ?_, rfl, rfl⟩
                                          unfold fitF
                                          rw [if_neg (fun g => g g1), if_neg (fun g => g g2)]
                                          try simp only [chgP, decide_eq_true_eq, decide_eq_false_iff_not] at *
                                          (iterate 8 all_goals try split) <;> first | rfl | (exfalso; omega))
                                     · try simp only [decide_eq_true_eq, decide_eq_false_iff_not, Bool.not_eq_true', Bool.not_eq_false', Bool.not_true, Bool.not_false, Bool.not_not, ne_eq, Decidable.not_not, Int.not_lt, Int.not_le, gt_iff_lt, ge_iff_le, bool_true_eq_, bool_false_eq_] at h14
                                       first
                                       | (exfalso; simp only [chgP, decide_eq_true_eq, decide_eq_false_iff_not] at h14; omega)
                                       | (skip
                                          refine GC.skip (?_ : GC _ _ _ _)
                                          refine GC.seq' ?_
                                          refine GC.region ?_
                                          refine GL.pure rfl (p_assign rfl) ?_
                                          refine GL.pure rfl (p_assign rfl) ?_
                                          refine GL.nil (?_ : GC _ _ _ _)
                                          refine GC.ret ?_
                                          refine fun a w h => Fin.back (rs := [.tmp 4, .tmp 5]) (vs := [_, _]) (is := []) (js := []) rfl ⟨rfl, rfl, trivial⟩ rfl rfl ?_ h
                                          clear h
                                          refine ⟨tup2 ?_, rfl, rfl⟩
                                          unfold fitF
                                          rw [if_neg (fun g => g g1), if_neg (fun g => g g2)]
                                          try simp only [chgP, decide_eq_true_eq, decide_eq_false_iff_not] at *
                                          (iterate 8 all_goals try split) <;> first | rfl | (exfalso; omega)))
                                · try simp only [decide_eq_true_eq, decide_eq_false_iff_not, Bool.not_eq_true', Bool.not_eq_false', Bool.not_true, Bool.not_false, Bool.not_not, ne_eq, Decidable.not_not, Int.not_lt, Int.not_le, gt_iff_lt, ge_iff_le, bool_true_eq_, bool_false_eq_] at h13
                                  first
                                  | (exfalso; simp only [chgP, decide_eq_true_eq, decide_eq_false_iff_not] at h13; omega)
                                  | (skip
                                     refine GL.pass (s := 63) rfl rfl rfl ?_
                                     refine GL.pass (s := 63) rfl rfl rfl ?_
                                     refine GL.pass (s := 63) rfl rfl rfl ?_
                                     refine GL.pass (s := 63) rfl rfl rfl ?_
                                     refine GL.pass (s := 63) rfl rfl rfl ?_
                                     refine GL.pass (s := 63) rfl rfl rfl ?_
                                     refine GL.pureG (s := 59) rfl rfl rfl (p_pick_false rfl rfl) ?_
                                     refine GL.pure rfl (p_pick_false rfl rfl) ?_
                                     refine GL.nil (?_ : GC _ _ _ _)
                                     refine GC.cond_false rfl ?_
                                     refine GC.skip (?_ : GC _ _ _ _)
                                     refine GC.seq' ?_
                                     refine GC.region ?_
                                     refine GL.pure rfl (p_assign rfl) ?_
                                     refine GL.pure rfl (p_assign rfl) ?_
                                     refine GL.nil (?_ : GC _ _ _ _)
                                     refine GC.ret ?_
                                     refine fun a w h => Fin.back (rs := [.tmp 4, .tmp 5]) (vs := [_, _]) (is := []) (js := []) rfl ⟨rfl, rfl, trivial⟩ rfl rfl ?_ h
                                     clear h
                                     refine ⟨tup2 ?_, rfl, rfl⟩
                                     unfold fitF
                                     rw [if_neg (fun g => g g1), if_neg (fun g => g g2)]
                                     try simp only [chgP, decide_eq_true_eq, decide_eq_false_iff_not] at *
                                     (iterate 8 all_goals try split) <;> first | rfl | (exfalso; omega)))))
                 · try simp only [decide_eq_true_eq, decide_eq_false_iff_not, Bool.not_eq_true', Bool.not_eq_false', Bool.not_true, Bool.not_false, Bool.not_not, ne_eq, Decidable.not_not, Int.not_lt, Int.not_le, gt_iff_lt, ge_iff_le, bool_true_eq_, bool_false_eq_] at h4
                   first
                   | (exfalso; simp only [chgP, decide_eq_true_eq, decide_eq_false_iff_not] at h4; omega)
                   | (skip
                      refine GC.skip (?_ : GC _ _ _ _)
                      refine GC.seq' ?_
                      refine GC.seq' ?_
                      refine GC.region ?_
                      refine GL.pure rfl (p_move rfl) ?_
                      refine GL.pure rfl (p_lss rfl rfl) ?_
                      refine GL.pure rfl (p_move rfl) ?_
                      refine GL.split (i := 29) rfl (fun h15 => ?_) (fun h15 => ?_)
                      · try simp only [decide_eq_true_eq, decide_eq_false_iff_not, Bool.not_eq_true', Bool.not_eq_false', Bool.not_true, Bool.not_false, Bool.not_not, ne_eq, Decidable.not_not, Int.not_lt, Int.not_le, gt_iff_lt, ge_iff_le, bool_true_eq_, bool_false_eq_] at h15
                        first
                        | (exfalso; simp only [chgP, decide_eq_true_eq, decide_eq_false_iff_not] at h15; omega)
                        | (skip
                           refine GL.pass (s := 29) rfl rfl rfl ?_
                           refine GL.pass (s := 29) rfl rfl rfl ?_
                           refine GL.pure rfl (p_pick_true rfl rfl) ?_
                           refine GL.pure rfl (p_move rfl) ?_
                           refine GL.pass (s := 33) rfl rfl rfl ?_
                           refine GL.pass (s := 33) rfl rfl rfl ?_
                           refine GL.pass (s := 33) rfl rfl rfl ?_
                           refine GL.pass (s := 33) rfl rfl rfl ?_
                           refine GL.pass (s := 33) rfl rfl rfl ?_
                           refine GL.pass (s := 33) rfl rfl rfl ?_
                           refine GL.pass (s := 33) rfl rfl rfl ?_
                           refine GL.pure rfl (p_pick_true rfl rfl) ?_
                           refine GL.nil (?_ : GC _ _ _ _)
                           refine GC.cond_true rfl ?_
                           refine GC.seq' ?_
                           refine GC.region ?_
                           refine GL.pure rfl (p_assign rfl) ?_
                           refine GL.pure rfl (p_assign rfl) ?_
                           refine GL.nil (?_ : GC _ _ _ _)
                           refine GC.ret ?_
                           refine fun a w h => Fin.back (rs := [.tmp 4, .tmp 5]) (vs := [_, _]) (is := []) (js := []) rfl ⟨rfl, rfl, trivial⟩ rfl rfl ?_ h
                           clear h
                           refine ⟨tup2 ?_, rfl, rfl⟩
                           unfold fitF
                           rw [if_neg (fun g => g g1), if_neg (fun g => g g2)]
                           try simp only [chgP, decide_eq_true_eq, decide_eq_false_iff_not] at *
                           (iterate 8 all_goals try split) <;> first | rfl | (exfalso; omega))
                      · try simp only [decide_eq_true_eq, decide_eq_false_iff_not, Bool.not_eq_true', Bool.not_eq_false', Bool.not_true, Bool.not_false, Bool.not_not, ne_eq, Decidable.not_not, Int.not_lt, Int.not_le, gt_iff_lt, ge_iff_le, bool_true_eq_, bool_false_eq_] at h15
                        first
                        | (exfalso; simp only [chgP, decide_eq_true_eq, decide_eq_false_iff_not] at h15; omega)
                        | (skip
                           refine GL.pureG (s := 29) rfl rfl rfl (p_move rfl) ?_
                           refine GL.pureG (s := 29) rfl rfl rfl (p_gtr rfl rfl) ?_
                           refine GL.pure rfl (p_pick_false rfl rfl) ?_
                           refine GL.pure rfl (p_move rfl) ?_
                           refine GL.split (i := 33) rfl (fun h16 => ?_) (fun h16 => ?_)
                           · try simp only [decide_eq_true_eq, decide_eq_false_iff_not, Bool.not_eq_true', Bool.not_eq_false', Bool.not_true, Bool.not_false, Bool.not_not, ne_eq, Decidable.not_not, Int.not_lt, Int.not_le, gt_iff_lt, ge_iff_le, bool_true_eq_, bool_false_eq_] at h16
                             first
                             | (exfalso; simp only [chgP, decide_eq_true_eq, decide_eq_false_iff_not] at h16; omega)
                             | (skip
                                refine GL.pass (s := 33) rfl rfl rfl ?_
                                refine GL.pass (s := 33) rfl rfl rfl ?_
                                refine GL.pass (s := 33) rfl rfl rfl ?_
                                refine GL.pass (s := 33) rfl rfl rfl ?_
                                refine GL.pass (s := 33) rfl rfl rfl ?_
                                refine GL.pass (s := 33) rfl rfl rfl ?_
                                refine GL.pass (s := 33) rfl rfl rfl ?_
                                refine GL.pure rfl (p_pick_true rfl rfl) ?_
                                refine GL.nil (?_ : GC _ _ _ _)
                                refine GC.cond_true rfl ?_
                                refine GC.seq' ?_
                                refine GC.region ?_
                                refine GL.pure rfl (p_assign rfl) ?_
                                refine GL.pure rfl (p_assign rfl) ?_
                                refine GL.nil (?_ : GC _ _ _ _)
                                refine GC.ret ?_
                                refine fun a w h => Fin.back (rs := [.tmp 4, .tmp 5]) (vs := [_, _]) (is := []) (js := []) rfl ⟨rfl, rfl, trivial⟩ rfl rfl ?_ h
                                clear h
                                refine ⟨tup2 ?_, rfl, rfl⟩
                                unfold fitF
                                rw [if_neg (fun g => g g1), if_neg (fun g => g g2)]
                                try simp only [chgP, decide_eq_true_eq, decide_eq_false_iff_not] at *
                                (iterate 8 all_goals try split) <;> first | rfl | (exfalso; omega))
                           · try simp only [decide_eq_true_eq, decide_eq_false_iff_not, Bool.not_eq_true', Bool.not_eq_false', Bool.not_true, Bool.not_false, Bool.not_not, ne_eq, Decidable.not_not, Int.not_lt, Int.not_le, gt_iff_lt, ge_iff_le, bool_true_eq_, bool_false_eq_] at h16
                             first
                             | (exfalso; simp only [chgP, decide_eq_true_eq, decide_eq_false_iff_not] at h16; omega)
                             | (skip
                                refine GL.pureG (s := 33) rfl rfl rfl (p_fieldAddr fo_42_1 rfl) ?_
                                refine GL.stepG rfl (s := 33) rfl rfl (t_mem rfl (m_load (i := 0) rfl rfl ag_3 rfl)) ?_
                                refine GL.pureG (s := 33) rfl rfl rfl (p_fieldAddr fo_23_0 rfl) ?_
                                refine GL.stepG rfl (s := 33) rfl rfl (t_mem rfl (m_load (i := 1) rfl rfl ag_3 rfl)) ?_
                                refine GL.pureG (s := 33) rfl rfl rfl (p_move rfl) ?_
                                refine GL.pureG (s := 33) rfl rfl rfl (p_sub rfl rfl (w64 (by omega) (by omega))) ?_
                                refine GL.pureG (s := 33) rfl rfl rfl (p_gtr rfl rfl) ?_
                                refine GL.pure rfl (p_pick_false rfl rfl) ?_
                                refine GL.nil (?_ : GC _ _ _ _)
                                refine GC.cond rfl (fun h17 => ?_) (fun h17 => ?_)
                                · try simp only [decide_eq_true_eq, decide_eq_false_iff_not, Bool.not_eq_true', Bool.not_eq_false', Bool.not_true, Bool.not_false, Bool.not_not, ne_eq, Decidable.not_not, Int.not_lt, Int.not_le, gt_iff_lt, ge_iff_le, bool_true_eq_, bool_false_eq_] at h17
                                  first
                                  | (exfalso; simp only [chgP, decide_eq_true_eq, decide_eq_false_iff_not] at h17; omega)
                                  | (skip
                                     refine GC.seq' ?_
                                     refine GC.region ?_
                                     refine GL.pure rfl (p_assign rfl) ?_
                                     refine GL.pure rfl (p_assign rfl) ?_
                                     refine GL.nil (?_ : GC _ _ _ _)
                                     refine GC.ret ?_
                                     refine fun a w h => Fin.back (rs := [.tmp 4, .tmp 5]) (vs := [_, _]) (is := []) (js := []) rfl ⟨rfl, rfl, trivial⟩ rfl rfl ?_ h
                                     clear h
                                     refine ⟨tup2 ?_, rfl, rfl⟩
                                     unfold fitF
                                     rw [if_neg (fun g => g g1), if_neg (fun g => g g2)]
                                     try simp only [chgP, decide_eq_true_eq, decide_eq_false_iff_not] at *
                                     (iterate 8 all_goals try split) <;> first | rfl | (exfalso; omega))
                                · try simp only [decide_eq_true_eq, decide_eq_false_iff_not, Bool.not_eq_true', Bool.not_eq_false', Bool.not_true, Bool.not_false, Bool.not_not, ne_eq, Decidable.not_not, Int.not_lt, Int.not_le, gt_iff_lt, ge_iff_le, bool_true_eq_, bool_false_eq_] at h17
                                  first
                                  | (exfalso; simp only [chgP, decide_eq_true_eq, decide_eq_false_iff_not] at h17; omega)
                                  | (skip
                                     refine GC.skip (?_ : GC _ _ _ _)
                                     refine GC.seq' ?_
                                     refine GC.seq' ?_
                                     refine GC.region ?_
                                     refine GL.step rfl (t_mem rfl (m_loadN (i := 0) rfl rfl ag_42 (vs := [_, _, _, _, _]) sz_42 ⟨rfl, rfl, rfl, rfl, rfl, trivial⟩)) ?_
                                     refine GL.step rfl (t_call rfl fn_48 rfl (is := []) (js := []) rfl rfl (by exact chg_ct _ _ _ _ _ _ _ _ _)) (GL.ret ?_)
                                     rintro _ _ _ ⟨rfl, rfl, rfl⟩
                                     refine GL.pure rfl (p_move rfl) ?_
                                     refine GL.split (i := 44) rfl (fun h18 => ?_) (fun h18 => ?_)
                                     · try simp only [decide_eq_true_eq, decide_eq_false_iff_not, Bool.not_eq_true', Bool.not_eq_false', Bool.not_true, Bool.not_false, Bool.not_not, ne_eq, Decidable.not_not, Int.not_lt, Int.not_le, gt_iff_lt, ge_iff_le, bool_true_eq_, bool_false_eq_] at h18
                                       first
                                       | (exfalso; simp only [chgP, decide_eq_true_eq, decide_eq_false_iff_not] at h18; omega)
                                       | (skip
                                          refine GL.pureG (s := 44) rfl rfl rfl (p_fieldAddr fo_42_0 rfl) ?_
                                          refine GL.stepG rfl (s := 44) rfl rfl (t_mem rfl (m_load (i := 0) rfl rfl ag_40 rfl)) ?_
                                          refine GL.pureG (s := 44) rfl rfl rfl (p_neq rfl rfl) ?_
                                          refine GL.pure rfl (p_pick_true rfl rfl) ?_
                                          refine GL.pure rfl (p_move rfl) ?_
                                          refine GL.split (i := 49) rfl (fun h19 => ?_) (fun h19 => ?_)
                                          · try simp only [decide_eq_true_eq, decide_eq_false_iff_not, Bool.not_eq_true', Bool.not_eq_false', Bool.not_true, Bool.not_false, Bool.not_not, ne_eq, Decidable.not_not, Int.not_lt, Int.not_le, gt_iff_lt, ge_iff_le, bool_true_eq_, bool_false_eq_] at h19
                                            first
                                            | (exfalso; simp only [chgP, decide_eq_true_eq, decide_eq_false_iff_not] at h19; omega)
                                            | (skip
                                               refine GL.pureG (s := 49) rfl rfl rfl (p_fieldAddr fo_42_3 rfl) ?_
                                               refine GL.stepG rfl (s := 49) rfl rfl (t_mem rfl (m_load (i := 0) rfl rfl ag_31 rfl)) ?_
                                               refine GL.pureG (s := 49) rfl rfl rfl (p_len Try.underlying31 rfl) ?_
                                               refine GL.pureG (s := 49) rfl rfl rfl (p_move rfl) ?_
                                               refine GL.pureG (s := 49) rfl rfl rfl (p_fieldAddr fo_23_1 rfl) ?_
                                               refine GL.stepG rfl (s := 49) rfl rfl (t_mem rfl (m_load (i := 1) rfl rfl ag_3 rfl)) ?_
                                               have hm : (n < 1 ∨ 64 < n) ∨ (0 ≤ n * sz ∧ n * sz ≤ 262144) := by
                                                 by_cases g : n < 1 ∨ 64 < n
                                                 · exact .inl g
                                                 · exact .inr (mulB (a := 64) (b := 4096) (by omega) (by omega) (by omega) (by omega))
                                               refine GL.pureG (s := 49) rfl rfl rfl (p_mul rfl rfl (w64 (by omega) (by omega))) ?_
                                               refine GL.pureG (s := 49) rfl rfl rfl (p_neq rfl rfl) ?_
                                               refine GL.pure rfl (p_pick_true rfl rfl) ?_
                                               refine GL.pure rfl (p_move rfl) ?_
                                               refine GL.split (i := 59) rfl (fun h20 => ?_) (fun h20 => ?_)
                                               · try simp only [decide_eq_true_eq, decide_eq_false_iff_not, Bool.not_eq_true', Bool.not_eq_false', Bool.not_true, Bool.not_false, Bool.not_not, ne_eq, Decidable.not_not, Int.not_lt, Int.not_le, gt_iff_lt, ge_iff_le, bool_true_eq_, bool_false_eq_] at h20
                                                 first
                                                 | (exfalso; simp only [chgP, decide_eq_true_eq, decide_eq_false_iff_not] at h20; omega)
                                                 | (skip
                                                    refine GL.pass (s := 59) rfl rfl rfl ?_
                                                    refine GL.pass (s := 59) rfl rfl rfl ?_
                                                    refine GL.pass (s := 59) rfl rfl rfl ?_
                                                    refine GL.pass (s := 59) rfl rfl rfl ?_
                                                    refine GL.passU (s := 63) rfl rfl rfl ?_
                                                    refine GL.passU (s := 63) rfl rfl rfl ?_
                                                    refine GL.passU (s := 63) rfl rfl rfl ?_
                                                    refine GL.passU (s := 63) rfl rfl rfl ?_
                                                    refine GL.passU (s := 63) rfl rfl rfl ?_
                                                    refine GL.passU (s := 63) rfl rfl rfl ?_
                                                    refine GL.pass (s := 59) rfl rfl rfl ?_
                                                    refine GL.pure rfl (p_pick_true rfl rfl) ?_
                                                    refine GL.nil (?_ : GC _ _ _ _)
                                                    refine GC.cond_true rfl ?_
                                                    refine GC.seq' ?_
                                                    refine GC.region ?_
                                                    refine GL.pure rfl (p_assign rfl) ?_
                                                    refine GL.pure rfl (p_assign rfl) ?_
                                                    refine GL.nil (?_ : GC _ _ _ _)
                                                    refine GC.ret ?_
                                                    refine fun a w h => Fin.back (rs := [.tmp 4, .tmp 5]) (vs := [_, _]) (is := []) (js := []) rfl ⟨rfl, rfl, trivial⟩ rfl rfl ?_ h
                                                    clear h
                                                    refine ⟨tup2 ?_, rfl, rfl⟩
                                                    unfold fitF
                                                    rw [if_neg (fun g => g g1), if_neg (fun g => g g2)]
                                                    try simp only [chgP, decide_eq_true_eq, decide_eq_false_iff_not] at *
                                                    (iterate 8 all_goals try split) <;> first | rfl | (exfalso; omega))
                                               · try simp only [decide_eq_true_eq, decide_eq_false_iff_not, Bool.not_eq_true', Bool.not_eq_false', Bool.not_true, Bool.not_false, Bool.not_not, ne_eq, Decidable.not_not, Int.not_lt, Int.not_le, gt_iff_lt, ge_iff_le, bool_true_eq_, bool_false_eq_] at h20
                                                 first
                                                 | (exfalso; simp only [chgP, decide_eq_true_eq, decide_eq_false_iff_not] at h20; omega)
                                                 | (skip
                                                    refine GL.pureG (s := 59) rfl rfl rfl (p_fieldAddr fo_42_0 rfl) ?_
                                                    refine GL.stepG rfl (s := 59) rfl rfl (t_mem rfl (m_load (i := 0) rfl rfl ag_40 rfl)) ?_
                                                    refine GL.pureG (s := 59) rfl rfl rfl (p_eql rfl rfl) ?_
                                                    refine GL.pureG (s := 59) rfl rfl rfl (p_move rfl) ?_
                                                    refine GL.split (i := 63) rfl (fun h21 => ?_) (fun h21 => ?_)
                                                    · try simp only [decide_eq_true_eq, decide_eq_false_iff_not, Bool.not_eq_true', Bool.not_eq_false', Bool.not_true, Bool.not_false, Bool.not_not, ne_eq, Decidable.not_not, Int.not_lt, Int.not_le, gt_iff_lt, ge_iff_le, bool_true_eq_, bool_false_eq_] at h21
                                                      first
                                                      | (exfalso; simp only [chgP, decide_eq_true_eq, decide_eq_false_iff_not] at h21; omega)
                                                      | (skip
                                                         refine GL.pureG (s := 63) rfl rfl rfl (p_fieldAddr fo_42_4 rfl) ?_
                                                         refine GL.stepG rfl (s := 63) rfl rfl (t_mem rfl (m_load (i := 0) rfl rfl ag_31 rfl)) ?_
                                                         refine GL.pureG (s := 63) rfl rfl rfl (p_len Try.underlying31 rfl) ?_
                                                         refine GL.pureG (s := 63) rfl rfl rfl (p_fieldAddr fo_23_1 rfl) ?_
                                                         refine GL.stepG rfl (s := 63) rfl rfl (t_mem rfl (m_load (i := 1) rfl rfl ag_3 rfl)) ?_
                                                         refine GL.pureG (s := 63) rfl rfl rfl (p_neq rfl rfl) ?_
                                                         refine GL.pureG (s := 59) rfl rfl rfl (p_pick_true rfl rfl) ?_
                                                         refine GL.pure rfl (p_pick_false rfl rfl) ?_
                                                         refine GL.nil (?_ : GC _ _ _ _)
                                                         refine GC.cond rfl (fun h22 => ?_) (fun h22 => ?_)
                                                         · try simp only [decide_eq_true_eq, decide_eq_false_iff_not, Bool.not_eq_true', Bool.not_eq_false', Bool.not_true, Bool.not_false, Bool.not_not, ne_eq, Decidable.not_not, Int.not_lt, Int.not_le, gt_iff_lt, ge_iff_le, bool_true_eq_, bool_false_eq_] at h22
                                                           first
                                                           | (exfalso; simp only [chgP, decide_eq_true_eq, decide_eq_false_iff_not] at h22; omega)
                                                           | (skip
                                                              refine GC.seq' ?_
                                                              refine GC.region ?_
                                                              refine GL.pure rfl (p_assign rfl) ?_
                                                              refine GL.pure rfl (p_assign rfl) ?_
                                                              refine GL.nil (?_ : GC _ _ _ _)
                                                              refine GC.ret ?_
                                                              refine fun a w h => Fin.back (rs := [.tmp 4, .tmp 5]) (vs := [_, _]) (is := []) (js := []) rfl ⟨rfl, rfl, trivial⟩ rfl rfl ?_ h
                                                              clear h
                                                              refine ⟨tup2 ?_, rfl, rfl⟩
                                                              unfold fitF
                                                              rw [if_neg (fun g => g g1), if_neg (fun g => g g2)]
                                                              try simp only [chgP, decide_eq_true_eq, decide_eq_false_iff_not] at *
                                                              (iterate 8 all_goals try split) <;> first | rfl | (exfalso; omega))
                                                         · try simp only [decide_eq_true_eq, decide_eq_false_iff_not, Bool.not_eq_true', Bool.not_eq_false', Bool.not_true, Bool.not_false, Bool.not_not, ne_eq, Decidable.not_not, Int.not_lt, Int.not_le, gt_iff_lt, ge_iff_le, bool_true_eq_, bool_false_eq_] at h22
                                                           first
                                                           | (exfalso; simp only [chgP, decide_eq_true_eq, decide_eq_false_iff_not] at h22; omega)
                                                           | (skip
                                                              refine GC.skip (?_ : GC _ _ _ _)
                                                              refine GC.seq' ?_
                                                              refine GC.region ?_
                                                              refine GL.pure rfl (p_assign rfl) ?_
                                                              refine GL.pure rfl (p_assign rfl) ?_
                                                              refine GL.nil (?_ : GC _ _ _ _)
                                                              refine GC.ret ?_
                                                              refine fun a w h => Fin.back (rs := [.tmp 4, .tmp 5]) (vs := [_, _]) (is := []) (js := []) rfl ⟨rfl, rfl, trivial⟩ rfl rfl ?_ h
                                                              clear h
                                                              refine ⟨tup2 ?_, rfl, rfl⟩
                                                              unfold fitF
                                                              rw [if_neg (fun g => g g1), if_neg (fun g => g g2)]
                                                              try simp only [chgP, decide_eq_true_eq, decide_eq_false_iff_not] at *
                                                              (iterate 8 all_goals try split) <;> first | rfl | (exfalso; omega)))
                                                    · try simp only [decide_eq_true_eq, decide_eq_false_iff_not, Bool.not_eq_true', Bool.not_eq_false', Bool.not_true, Bool.not_false, Bool.not_not, ne_eq, Decidable.not_not, Int.not_lt, Int.not_le, gt_iff_lt, ge_iff_le, bool_true_eq_, bool_false_eq_] at h21
                                                      first
                                                      | (exfalso; simp only [chgP, decide_eq_true_eq, decide_eq_false_iff_not] at h21; omega)
                                                      | (skip
                                                         refine GL.pass (s := 63) rfl rfl rfl ?_
                                                         refine GL.pass (s := 63) rfl rfl rfl ?_
                                                         refine GL.pass (s := 63) rfl rfl rfl ?_
                                                         refine GL.pass (s := 63) rfl rfl rfl ?_
                                                         refine GL.pass (s := 63) rfl rfl rfl ?_
                                                         refine GL.pass (s := 63) rfl rfl rfl ?_
                                                         refine GL.pureG (s := 59) rfl rfl rfl (p_pick_false rfl rfl) ?_
                                                         refine GL.pure rfl (p_pick_false rfl rfl) ?_
                                                         refine GL.nil (?_ : GC _ _ _ _)
                                                         refine GC.cond_false rfl ?_
                                                         refine GC.skip (?_ : GC _ _ _ _)
                                                         refine GC.seq' ?_
                                                         refine GC.region ?_
                                                         refine GL.pure rfl (p_assign rfl) ?_
                                                         refine GL.pure rfl (p_assign rfl) ?_
                                                         refine GL.nil (?_ : GC _ _ _ _)
                                                         refine GC.ret ?_
                                                         refine fun a w h => Fin.back (rs := [.tmp 4, .tmp 5]) (vs := [_, _]) (is := []) (js := []) rfl ⟨rfl, rfl, trivial⟩ rfl rfl ?_ h
                                                         clear h
                                                         refine ⟨tup2 ?_, rfl, rfl⟩
                                                         unfold fitF
                                                         rw [if_neg (fun g => g g1), if_neg (fun g => g g2)]
                                                         try simp only [chgP, decide_eq_true_eq, decide_eq_false_iff_not] at *
                                                         (iterate 8 all_goals try split) <;> first | rfl | (exfalso; omega))))
                                          · try simp only [decide_eq_true_eq, decide_eq_false_iff_not, Bool.not_eq_true', Bool.not_eq_false', Bool.not_true, Bool.not_false, Bool.not_not, ne_eq, Decidable.not_not, Int.not_lt, Int.not_le, gt_iff_lt, ge_iff_le, bool_true_eq_, bool_false_eq_] at h19
                                            first
                                            | (exfalso; simp only [chgP, decide_eq_true_eq, decide_eq_false_iff_not] at h19; omega)
                                            | (skip
                                               refine GL.pass (s := 49) rfl rfl rfl ?_
                                               refine GL.pass (s := 49) rfl rfl rfl ?_
                                               refine GL.pass (s := 49) rfl rfl rfl ?_
                                               refine GL.pass (s := 49) rfl rfl rfl ?_
                                               refine GL.pass (s := 49) rfl rfl rfl ?_
                                               refine GL.pass (s := 49) rfl rfl rfl ?_
                                               have hm : (n < 1 ∨ 64 < n) ∨ (0 ≤ n * sz ∧ n * sz ≤ 262144) := by
                                                 by_cases g : n < 1 ∨ 64 < n
                                                 · exact .inl g
                                                 · exact .inr (mulB (a := 64) (b := 4096) (by omega) (by omega) (by omega) (by omega))
                                               refine GL.pass (s := 49) rfl rfl rfl ?_
                                               refine GL.pass (s := 49) rfl rfl rfl ?_
                                               refine GL.pure rfl (p_pick_false rfl rfl) ?_
                                               refine GL.pure rfl (p_move rfl) ?_
                                               refine GL.pureG (s := 59) rfl rfl rfl (p_fieldAddr fo_42_0 rfl) ?_
                                               refine GL.stepG rfl (s := 59) rfl rfl (t_mem rfl (m_load (i := 0) rfl rfl ag_40 rfl)) ?_
                                               refine GL.pureG (s := 59) rfl rfl rfl (p_eql rfl rfl) ?_
                                               refine GL.pureG (s := 59) rfl rfl rfl (p_move rfl) ?_
                                               refine GL.split (i := 63) rfl (fun h23 => ?_) (fun h23 => ?_)
                                               · try simp only [decide_eq_true_eq, decide_eq_false_iff_not, Bool.not_eq_true', Bool.not_eq_false', Bool.not_true, Bool.not_false, Bool.not_not, ne_eq, Decidable.not_not, Int.not_lt, Int.not_le, gt_iff_lt, ge_iff_le, bool_true_eq_, bool_false_eq_] at h23
                                                 first
                                                 | (exfalso; simp only [chgP, decide_eq_true_eq, decide_eq_false_iff_not] at h23; omega)
                                                 | (skip
                                                    refine GL.pureG (s := 63) rfl rfl rfl (p_fieldAddr fo_42_4 rfl) ?_
                                                    refine GL.stepG rfl (s := 63) rfl rfl (t_mem rfl (m_load (i := 0) rfl rfl ag_31 rfl)) ?_
                                                    refine GL.pureG (s := 63) rfl rfl rfl (p_len Try.underlying31 rfl) ?_
                                                    refine GL.pureG (s := 63) rfl rfl rfl (p_fieldAddr fo_23_1 rfl) ?_
                                                    refine GL.stepG rfl (s := 63) rfl rfl (t_mem rfl (m_load (i := 1) rfl rfl ag_3 rfl)) ?_
                                                    refine GL.pureG (s := 63) rfl rfl rfl (p_neq rfl rfl) ?_
                                                    refine GL.pureG (s := 59) rfl rfl rfl (p_pick_true rfl rfl) ?_
                                                    refine GL.pure rfl (p_pick_false rfl rfl) ?_
                                                    refine GL.nil (?_ : GC _ _ _ _)
                                                    refine GC.cond rfl (fun h24 => ?_) (fun h24 => ?_)
                                                    · try simp only [decide_eq_true_eq, decide_eq_false_iff_not, Bool.not_eq_true', Bool.not_eq_false', Bool.not_true, Bool.not_false, Bool.not_not, ne_eq, Decidable.not_not, Int.not_lt, Int.not_le, gt_iff_lt, ge_iff_le, bool_true_eq_, bool_false_eq_] at h24
                                                      first
                                                      | (exfalso; simp only [chgP, decide_eq_true_eq, decide_eq_false_iff_not] at h24; omega)
                                                      | (skip
                                                         refine GC.seq' ?_
                                                         refine GC.region ?_
                                                         refine GL.pure rfl (p_assign rfl) ?_
                                                         refine GL.pure rfl (p_assign rfl) ?_
                                                         refine GL.nil (?_ : GC _ _ _ _)
                                                         refine GC.ret ?_
                                                         refine fun a w h => Fin.back (rs := [.tmp 4, .tmp 5]) (vs := [_, _]) (is := []) (js := []) rfl ⟨rfl, rfl, trivial⟩ rfl rfl ?_ h
                                                         clear h
                                                         refine ⟨tup2 ?_, rfl, rfl⟩
                                                         unfold fitF
                                                         rw [if_neg (fun g => g g1), if_neg (fun g => g g2)]
                                                         try simp only [chgP, decide_eq_true_eq, decide_eq_false_iff_not] at *
                                                         (iterate 8 all_goals try split) <;> first | rfl | (exfalso; omega))
                                                    · try simp only [decide_eq_true_eq, decide_eq_false_iff_not, Bool.not_eq_true', Bool.not_eq_false', Bool.not_true, Bool.not_false, Bool.not_not, ne_eq, Decidable.not_not, Int.not_lt, Int.not_le, gt_iff_lt, ge_iff_le, bool_true_eq_, bool_false_eq_] at h24
                                                      first
                                                      | (exfalso; simp only [chgP, decide_eq_true_eq, decide_eq_false_iff_not] at h24; omega)
                                                      | (skip
                                                         refine GC.skip (?_ : GC _ _ _ _)
                                                         refine GC.seq' ?_
                                                         refine GC.region ?_
                                                         refine GL.pure rfl (p_assign rfl) ?_
                                                         refine GL.pure rfl (p_assign rfl) ?_
                                                         refine GL.nil (?_ : GC _ _ _ _)
                                                         refine GC.ret ?_
                                                         refine fun a w h => Fin.back (rs := [.tmp 4, .tmp 5]) (vs := [_, _]) (is := []) (js := []) rfl ⟨rfl, rfl, trivial⟩ rfl rfl ?_ h
                                                         clear h
                                                         refine ⟨tup2 ?_, rfl, rfl⟩
                                                         unfold fitF
                                                         rw [if_neg (fun g => g g1), if_neg (fun g => g g2)]
                                                         try simp only [chgP, decide_eq_true_eq, decide_eq_false_iff_not] at *
                                                         (iterate 8 all_goals try split) <;> first | rfl | (exfalso; omega)))
                                               · try simp only [decide_eq_true_eq, decide_eq_false_iff_not, Bool.not_eq_true', Bool.not_eq_false', Bool.not_true, Bool.not_false, Bool.not_not, ne_eq, Decidable.not_not, Int.not_lt, Int.not_le, gt_iff_lt, ge_iff_le, bool_true_eq_, bool_false_eq_] at h23
                                                 first
                                                 | (exfalso; simp only [chgP, decide_eq_true_eq, decide_eq_false_iff_not] at h23; omega)
                                                 | (skip
                                                    refine GL.pass (s := 63) rfl rfl rfl ?_
                                                    refine GL.pass (s := 63) rfl rfl rfl ?_
                                                    refine GL.pass (s := 63) rfl rfl rfl ?_
                                                    refine GL.pass (s := 63) rfl rfl rfl ?_
                                                    refine GL.pass (s := 63) rfl rfl rfl ?_
                                                    refine GL.pass (s := 63) rfl rfl rfl ?_
                                                    refine GL.pureG (s := 59) rfl rfl rfl (p_pick_false rfl rfl) ?_
                                                    refine GL.pure rfl (p_pick_false rfl rfl) ?_
                                                    refine GL.nil (?_ : GC _ _ _ _)
                                                    refine GC.cond_false rfl ?_
                                                    refine GC.skip (?_ : GC _ _ _ _)
                                                    refine GC.seq' ?_
                                                    refine GC.region ?_
                                                    refine GL.pure rfl (p_assign rfl) ?_
                                                    refine GL.pure rfl (p_assign rfl) ?_
                                                    refine GL.nil (?_ : GC _ _ _ _)
                                                    refine GC.ret ?_
                                                    refine fun a w h => Fin.back (rs := [.tmp 4, .tmp 5]) (vs := [_, _]) (is := []) (js := []) rfl ⟨rfl, rfl, trivial⟩ rfl rfl ?_ h
                                                    clear h
                                                    refine ⟨tup2 ?_, rfl, rfl⟩
                                                    unfold fitF
                                                    rw [if_neg (fun g => g g1), if_neg (fun g => g g2)]
                                                    try simp only [chgP, decide_eq_true_eq, decide_eq_false_iff_not] at *
                                                    (iterate 8 all_goals try split) <;> first | rfl | (exfalso; omega))))
                                     · try simp only [decide_eq_true_eq, decide_eq_false_iff_not, Bool.not_eq_true', Bool.not_eq_false', Bool.not_true, Bool.not_false, Bool.not_not, ne_eq, Decidable.not_not, Int.not_lt, Int.not_le, gt_iff_lt, ge_iff_le, bool_true_eq_, bool_false_eq_] at h18
                                       first
                                       | (exfalso; simp only [chgP, decide_eq_true_eq, decide_eq_false_iff_not] at h18; omega)
                                       | (skip
                                          refine GL.pass (s := 44) rfl rfl rfl ?_
                                          refine GL.pass (s := 44) rfl rfl rfl ?_
                                          refine GL.pass (s := 44) rfl rfl rfl ?_
                                          refine GL.pure rfl (p_pick_false rfl rfl) ?_
                                          refine GL.pure rfl (p_move rfl) ?_
                                          refine GL.pass (s := 49) rfl rfl rfl ?_
                                          refine GL.pass (s := 49) rfl rfl rfl ?_
                                          refine GL.pass (s := 49) rfl rfl rfl ?_
                                          refine GL.pass (s := 49) rfl rfl rfl ?_
                                          refine GL.pass (s := 49) rfl rfl rfl ?_
                                          refine GL.pass (s := 49) rfl rfl rfl ?_
                                          have hm : (n < 1 ∨ 64 < n) ∨ (0 ≤ n * sz ∧ n * sz ≤ 262144) := by
                                            by_cases g : n < 1 ∨ 64 < n
                                            · exact .inl g
                                            · exact .inr (mulB (a := 64) (b := 4096) (by omega) (by omega) (by omega) (by omega))
                                          refine GL.pass (s := 49) rfl rfl rfl ?_
                                          refine GL.pass (s := 49) rfl rfl rfl ?_
                                          refine GL.pure rfl (p_pick_false rfl rfl) ?_
                                          refine GL.pure rfl (p_move rfl) ?_
                                          refine GL.pureG (s := 59) rfl rfl rfl (p_fieldAddr fo_42_0 rfl) ?_
                                          refine GL.stepG rfl (s := 59) rfl rfl (t_mem rfl (m_load (i := 0) rfl rfl ag_40 rfl)) ?_
                                          refine GL.pureG (s := 59) rfl rfl rfl (p_eql rfl rfl) ?_
                                          refine GL.pureG (s := 59) rfl rfl rfl (p_move rfl) ?_
                                          refine GL.split (i := 63) rfl (fun h25 => ?_) (fun h25 => ?_)
                                          · try simp only [decide_eq_true_eq, decide_eq_false_iff_not, Bool.not_eq_true', Bool.not_eq_false', Bool.not_true, Bool.not_false, Bool.not_not, ne_eq, Decidable.not_not, Int.not_lt, Int.not_le, gt_iff_lt, ge_iff_le, bool_true_eq_, bool_false_eq_] at h25
                                            first
                                            | (exfalso; simp only [chgP, decide_eq_true_eq, decide_eq_false_iff_not] at h25; omega)
                                            | (skip
                                               refine GL.pureG (s := 63) rfl rfl rfl (p_fieldAddr fo_42_4 rfl) ?_
                                               refine GL.stepG rfl (s := 63) rfl rfl (t_mem rfl (m_load (i := 0) rfl rfl ag_31 rfl)) ?_
                                               refine GL.pureG (s := 63) rfl rfl rfl (p_len Try.underlying31 rfl) ?_
                                               refine GL.pureG (s := 63) rfl rfl rfl (p_fieldAddr fo_23_1 rfl) ?_
                                               refine GL.stepG rfl (s := 63) rfl rfl (t_mem rfl (m_load (i := 1) rfl rfl ag_3 rfl)) ?_
                                               refine GL.pureG (s := 63) rfl rfl rfl (p_neq rfl rfl) ?_
                                               refine GL.pureG (s := 59) rfl rfl rfl (p_pick_true rfl rfl) ?_
                                               refine GL.pure rfl (p_pick_false rfl rfl) ?_
                                               refine GL.nil (?_ : GC _ _ _ _)
                                               refine GC.cond rfl (fun h26 => ?_) (fun h26 => ?_)
                                               · try simp only [decide_eq_true_eq, decide_eq_false_iff_not, Bool.not_eq_true', Bool.not_eq_false', Bool.not_true, Bool.not_false, Bool.not_not, ne_eq, Decidable.not_not, Int.not_lt, Int.not_le, gt_iff_lt, ge_iff_le, bool_true_eq_, bool_false_eq_] at h26
                                                 first
                                                 | (exfalso; simp only [chgP, decide_eq_true_eq, decide_eq_false_iff_not] at h26; omega)
                                                 | (skip
                                                    refine GC.seq' ?_
                                                    refine GC.region ?_
                                                    refine GL.pure rfl (p_assign rfl) ?_
                                                    refine GL.pure rfl (p_assign rfl) ?_
                                                    refine GL.nil (?_ : GC _ _ _ _)
                                                    refine GC.ret ?_
                                                    refine fun a w h => Fin.back (rs := [.tmp 4, .tmp 5]) (vs := [_, _]) (is := []) (js := []) rfl ⟨rfl, rfl, trivial⟩ rfl rfl ?_ h
                                                    clear h
                                                    refine ⟨tup2 ?_, rfl, rfl⟩
                                                    unfold fitF
                                                    rw [if_neg (fun g => g g1), if_neg (fun g => g g2)]
                                                    try simp only [chgP, decide_eq_true_eq, decide_eq_false_iff_not] at *
                                                    (iterate 8 all_goals try split) <;> first | rfl | (exfalso; omega))
                                               · try simp only [decide_eq_true_eq, decide_eq_false_iff_not, Bool.not_eq_true', Bool.not_eq_false', Bool.not_true, Bool.not_false, Bool.not_not, ne_eq, Decidable.not_not, Int.not_lt, Int.not_le, gt_iff_lt, ge_iff_le, bool_true_eq_, bool_false_eq_] at h26
                                                 first
                                                 | (exfalso; simp only [chgP, decide_eq_true_eq, decide_eq_false_iff_not] at h26; omega)
                                                 | (skip
                                                    refine GC.skip (?_ : GC _ _ _ _)
                                                    refine GC.seq' ?_
                                                    refine GC.region ?_
                                                    refine GL.pure rfl (p_assign rfl) ?_
                                                    refine GL.pure rfl (p_assign rfl) ?_
                                                    refine GL.nil (?_ : GC _ _ _ _)
                                                    refine GC.ret ?_
                                                    refine fun a w h => Fin.back (rs := [.tmp 4, .tmp 5]) (vs := [_, _]) (is := []) (js := []) rfl ⟨rfl, rfl, trivial⟩ rfl rfl ?_ h
                                                    clear h
                                                    refine ⟨tup2 ?_, rfl, rfl⟩
                                                    unfold fitF
                                                    rw [if_neg (fun g => g g1), if_neg (fun g => g g2)]
                                                    try simp only [chgP, decide_eq_true_eq, decide_eq_false_iff_not] at *
                                                    (iterate 8 all_goals try split) <;> first | rfl | (exfalso; omega)))
                                          · try simp only [decide_eq_true_eq, decide_eq_false_iff_not, Bool.not_eq_true', Bool.not_eq_false', Bool.not_true, Bool.not_false, Bool.not_not, ne_eq, Decidable.not_not, Int.not_lt, Int.not_le, gt_iff_lt, ge_iff_le, bool_true_eq_, bool_false_eq_] at h25
                                            first
                                            | (exfalso; simp only [chgP, decide_eq_true_eq, decide_eq_false_iff_not] at h25; omega)
                                            | (skip
                                               refine GL.pass (s := 63) rfl rfl rfl ?_
                                               refine GL.pass (s := 63) rfl rfl rfl ?_
                                               refine GL.pass (s := 63) rfl rfl rfl ?_
                                               refine GL.pass (s := 63) rfl rfl rfl ?_
                                               refine GL.pass (s := 63) rfl rfl rfl ?_
                                               refine GL.pass (s := 63) rfl rfl rfl ?_
                                               refine GL.pureG (s := 59) rfl rfl rfl (p_pick_false rfl rfl) ?_
                                               refine GL.pure rfl (p_pick_false rfl rfl) ?_
                                               refine GL.nil (?_ : GC _ _ _ _)
                                               refine GC.cond_false rfl ?_
                                               refine GC.skip (?_ : GC _ _ _ _)
                                               refine GC.seq' ?_
                                               refine GC.region ?_
                                               refine GL.pure rfl (p_assign rfl) ?_
                                               refine GL.pure rfl (p_assign rfl) ?_
                                               refine GL.nil (?_ : GC _ _ _ _)
                                               refine GC.ret ?_
                                               refine fun a w h => Fin.back (rs := [.tmp 4, .tmp 5]) (vs := [_, _]) (is := []) (js := []) rfl ⟨rfl, rfl, trivial⟩ rfl rfl ?_ h
                                               clear h
                                               refine ⟨tup2 ?_, rfl, rfl⟩
                                               unfold fitF
                                               rw [if_neg (fun g => g g1), if_neg (fun g => g g2)]
                                               try simp only [chgP, decide_eq_true_eq, decide_eq_false_iff_not] at *
                                               (iterate 8 all_goals try split) <;> first | rfl | (exfalso; omega))))))))))
end Go.Proofs.Ytihhpkbbhfcdcaa
