/- THE VOLUME: a read tells what was written last, and nothing else changed: the walk of the law. -/
import Derived.Test.YtihhpkbbhfcdcaaVm1
set_option linter.unusedVariables false
set_option linter.unusedSimpArgs false
set_option maxRecDepth 100000
namespace Go.Proofs.Ytihhpkbbhfcdcaa
open Go Go.Sx Go.Proofs
theorem volumeReads_ct (bl sz : Int) (A : Option Addr) (steps : List Step) (cp : Nat) (o : OpD) (Bo : Option Addr) (cb : Nat) (Co : Option Addr) (cc : Nat) (hl : steps.length ≤ 140737488351232) (hst : ∀ x ∈ steps, okStep x) :
    Ct Try.prog 5 [shpV bl sz, .slice A steps.length cp, opV o.kind o.at_ o.n Bo o.data.length cb Co o.old.length cc] [] [Pers.row kStep A steps, Pers.row Kd.u8 Bo o.data, Pers.row Kd.u8 Co o.old] (fun v G Q => v = .bool true ∧ G = [] ∧ Q = []) := by
  by_cases hs : shapeOk bl sz
  · have h0 : VolOk (loadV bl sz []) := loadV_ok hs rfl
    refine Ct.intro Try.func5 rfl rfl rfl (fun c hc => ?_)
    refine GC.know (q := Pers.row Kd.u8 none []) (fun _ _ _ => .inl rfl) ?_
    refine GC.know (q := Pers.row kPage none []) (fun _ _ _ => .inl rfl) ?_
    refine GC.seq' ?_
    refine GC.region ?_
    refine GL.step rfl (t_box rfl rfl rfl) (GL.ex fun b_t3 => ?_)
    refine GL.step rfl (t_box rfl rfl rfl) (GL.ex fun b_t5 => ?_)
    refine GL.pure rfl (p_assign rfl) ?_
    refine GL.nil (?_ : GC _ _ _ _)
    refine GC.seq' ?_
    refine GC.seq' ?_
    refine GC.region ?_
    refine GL.step rfl (t_call rfl fn_12 rfl (is := []) (js := []) rfl rfl (by exact awake_ct)) (GL.ret ?_)
    rintro _ _ _ ⟨rfl, rfl, rfl⟩
    refine GL.pure rfl (p_not rfl) ?_
    refine GL.nil (?_ : GC _ _ _ _)
    refine GC.cond_false rfl ?_
    refine GC.skip (?_ : GC _ _ _ _)
    refine GC.seq' ?_
    refine GC.region ?_
    refine GL.step rfl (t_mem rfl (m_loadN (i := 1) rfl rfl ag_23 (vs := [_, _]) sz_23 ⟨rfl, rfl, trivial⟩)) ?_
    refine GL.step rfl (t_call rfl fn_15 rfl (is := []) (js := [0]) rfl rfl (by exact begin_ok _ _ none [] 0 hs (by decide) (by simp) rfl)) (GL.ret ?_)
    rintro _ _ _ ⟨vp25, vb25, vv25, rp25, rB25, rV25, rc125, rc225, sp25, spv25, cs25, rfl, rfl, rfl⟩
    refine GL.pure rfl (p_move rfl) ?_
    refine GL.pure rfl (p_extract rfl rfl) ?_
    refine GL.pure rfl (p_extract rfl rfl) ?_
    refine GL.pure rfl (p_extract rfl rfl) ?_
    refine GL.pure rfl (p_assign rfl) ?_
    refine GL.pure rfl (p_assign rfl) ?_
    refine GL.pure rfl (p_assign rfl) ?_
    refine GL.nil (?_ : GC _ _ _ _)
    refine GC.seq' ?_
    refine GC.seq' ?_
    refine GC.region ?_
    refine GL.pure rfl (p_move rfl) ?_
    refine GL.pure rfl (p_not rfl) ?_
    refine GL.pure rfl (p_move rfl) ?_
    refine GL.pureG (s := 31) rfl rfl rfl (p_move rfl) ?_
    refine GL.pureG (s := 31) rfl rfl rfl (p_pnil_eql Try.underlying36 rfl rfl) ?_
    refine GL.pure rfl (p_pick_false rfl rfl) ?_
    refine GL.pure rfl (p_move rfl) ?_
    refine GL.stepG rfl (s := 35) rfl rfl (t_mem rfl (m_loadN (i := 7) rfl rfl ag_23 (vs := [_, _]) sz_23 ⟨rfl, rfl, trivial⟩)) ?_
    refine GL.stepG rfl (s := 35) rfl rfl (t_call rfl fn_11 rfl (is := []) (js := []) rfl rfl (by exact small_ct _ _)) (GL.ret ?_)
    rintro _ _ _ ⟨rfl, rfl, rfl⟩
    refine GL.pureG (s := 35) rfl rfl rfl (p_not rfl) ?_
    refine GL.pure rfl (p_pick_false rfl rfl) ?_
    refine GL.nil (?_ : GC _ _ _ _)
    refine GC.cond rfl (fun h1 => ?_) (fun h1 => ?_)
    · try simp only [decide_eq_true_eq, decide_eq_false_iff_not, Bool.not_eq_true', Bool.not_eq_false', Bool.not_true, Bool.not_false, Bool.not_not, ne_eq, Decidable.not_not, Int.not_lt, Int.not_le, gt_iff_lt, ge_iff_le, bool_true_eq_, bool_false_eq_, str_eq] at h1
      first
      | (exfalso; first | omega | (simp at h1; done))
      | (skip
         refine GC.seq' ?_
         refine GC.region ?_
         refine GL.pure rfl (p_move rfl) ?_
         refine GL.pure rfl (p_assign rfl) ?_
         refine GL.nil (?_ : GC _ _ _ _)
         refine GC.ret ?_
         refine fun a w h => Fin.back (rs := [.tmp 6]) (vs := [_]) (is := []) (js := []) rfl ⟨rfl, trivial⟩ rfl rfl ?_ h
         clear h
         first | exact ⟨rfl, rfl, rfl⟩ | (refine ⟨congrArg Value.bool (decide_eq_true ?_), rfl, rfl⟩; rw [doF_keep (fun g => by first | exact absurd g.1 (by assumption) | exact absurd g.2.1 (by assumption) | exact absurd g.2.2 (by assumption))]))
    · try simp only [decide_eq_true_eq, decide_eq_false_iff_not, Bool.not_eq_true', Bool.not_eq_false', Bool.not_true, Bool.not_false, Bool.not_not, ne_eq, Decidable.not_not, Int.not_lt, Int.not_le, gt_iff_lt, ge_iff_le, bool_true_eq_, bool_false_eq_, str_eq] at h1
      first
      | (exfalso; first | omega | (simp at h1; done))
      | (skip
         refine GC.skip (?_ : GC _ _ _ _)
         refine GC.seq' ?_
         refine GC.seq' ?_
         refine GC.region ?_
         refine GL.pure rfl (p_assign rfl) ?_
         refine GL.nil (?_ : GC _ _ _ _)
         refine GC.block ?_
         refine GC.imp (fun a w h => (⟨⟨by simp, h0, rfl, rfl⟩, h.cut (is := [7, 6, 0, 0, 0, 0, 0, 0]) (js := [3, 4, 5, 2, 0]) ⟨rfl, rfl, rfl, rfl, rfl, rfl, trivial⟩ rfl rfl⟩ : (fun (y : Nat × Vol × List Value) (a : Act) (w : World) => (y.1 ≤ 200 ∧ VolOk y.2.1 ∧ y.2.1.bl = bl ∧ y.2.1.sz = sz) ∧ St c 153 [(1, .slice A steps.length cp), (3, .pointer (some ⟨b_t3, 0, none⟩)), (5, .pointer (some ⟨b_t5, 0, none⟩)), (7, .pointer (some ⟨vp25, 0, none⟩)), (8, .pointer (some ⟨rp25, 0, none⟩)), (10, .int .i64 (y.1 : Int))] [.cells b_t3 [.int .i64 bl, .int .i64 sz] 23, .cells b_t5 [.int .u8 o.kind, .int .i64 o.at_, .int .i64 o.n, .slice Bo o.data.length cb, .slice Co o.old.length cc] 42, .cells vp25 [.int .i64 y.2.1.bl, .int .i64 y.2.1.sz, .slice (some ⟨vb25, 0, none⟩) (y.2.1.bl * y.2.1.sz).toNat (y.2.1.bl * y.2.1.sz).toNat, .slice (some ⟨vv25, 0, none⟩) y.2.1.bl.toNat y.2.1.bl.toNat, .int .i64 y.2.1.last] 58, .cells vb25 (y.2.1.b.map u8v) 5, .cells vv25 (y.2.1.vs.map (Value.int .i64)) 3, .cells rp25 [.int .i64 y.2.1.bl, .int .i64 y.2.1.sz, .slice (some ⟨rB25, 0, none⟩) y.2.1.bl.toNat rc125, .slice (some ⟨rV25, 0, none⟩) y.2.1.bl.toNat rc225, .int .i64 y.2.1.last] 79, .cells rB25 (y.2.2 ++ sp25) 31, .cells rV25 (y.2.1.vs.map (Value.int .i64) ++ spv25) 3] [Pers.row kStep A steps, Pers.row Kd.u8 Bo o.data, Pers.row Kd.u8 Co o.old, Pers.row Kd.u8 none [], Pers.reps kBytes (chV y.2.1) y.2.2] a w) (0, loadV bl sz [], _) a w)) (GC.loop (fun (y : Nat × Vol × List Value) (a : Act) (w : World) => (y.1 ≤ 200 ∧ VolOk y.2.1 ∧ y.2.1.bl = bl ∧ y.2.1.sz = sz) ∧ St c 153 [(1, .slice A steps.length cp), (3, .pointer (some ⟨b_t3, 0, none⟩)), (5, .pointer (some ⟨b_t5, 0, none⟩)), (7, .pointer (some ⟨vp25, 0, none⟩)), (8, .pointer (some ⟨rp25, 0, none⟩)), (10, .int .i64 (y.1 : Int))] [.cells b_t3 [.int .i64 bl, .int .i64 sz] 23, .cells b_t5 [.int .u8 o.kind, .int .i64 o.at_, .int .i64 o.n, .slice Bo o.data.length cb, .slice Co o.old.length cc] 42, .cells vp25 [.int .i64 y.2.1.bl, .int .i64 y.2.1.sz, .slice (some ⟨vb25, 0, none⟩) (y.2.1.bl * y.2.1.sz).toNat (y.2.1.bl * y.2.1.sz).toNat, .slice (some ⟨vv25, 0, none⟩) y.2.1.bl.toNat y.2.1.bl.toNat, .int .i64 y.2.1.last] 58, .cells vb25 (y.2.1.b.map u8v) 5, .cells vv25 (y.2.1.vs.map (Value.int .i64)) 3, .cells rp25 [.int .i64 y.2.1.bl, .int .i64 y.2.1.sz, .slice (some ⟨rB25, 0, none⟩) y.2.1.bl.toNat rc125, .slice (some ⟨rV25, 0, none⟩) y.2.1.bl.toNat rc225, .int .i64 y.2.1.last] 79, .cells rB25 (y.2.2 ++ sp25) 31, .cells rV25 (y.2.1.vs.map (Value.int .i64) ++ spv25) 3] [Pers.row kStep A steps, Pers.row Kd.u8 Bo o.data, Pers.row Kd.u8 Co o.old, Pers.row Kd.u8 none [], Pers.reps kBytes (chV y.2.1) y.2.2] a w) (fun y => 200 - y.1) (0, loadV bl sz [], _) ?_)
         intro y
         refine GC.and fun hk => ?_
         obtain ⟨i, u, cs⟩ := y
         dsimp only at hk ⊢
         obtain ⟨hk, hu, hbl, hsz⟩ := hk
         refine GC.seq' ?_
         refine GC.seq' ?_
         refine GC.region ?_
         refine GL.pure rfl (p_move rfl) ?_
         refine GL.pure rfl (p_move rfl) ?_
         refine GL.pure rfl (p_len Try.underlying35 rfl) ?_
         refine GL.pure rfl (p_lss rfl rfl) ?_
         refine GL.pure rfl (p_move rfl) ?_
         refine GL.split (i := 45) rfl (fun h2 => ?_) (fun h2 => ?_)
         · try simp only [decide_eq_true_eq, decide_eq_false_iff_not, Bool.not_eq_true', Bool.not_eq_false', Bool.not_true, Bool.not_false, Bool.not_not, ne_eq, Decidable.not_not, Int.not_lt, Int.not_le, gt_iff_lt, ge_iff_le, bool_true_eq_, bool_false_eq_, str_eq] at h2
           first
           | (exfalso; first | omega | (simp at h2; done))
           | (skip
              refine GL.pureG (s := 45) rfl rfl rfl (p_move rfl) ?_
              refine GL.pureG (s := 45) rfl rfl rfl (p_lss rfl rfl) ?_
              refine GL.pure rfl (p_pick_true rfl rfl) ?_
              refine GL.nil (?_ : GC _ _ _ _)
              refine GC.cond rfl (fun h3 => ?_) (fun h3 => ?_)
              · try simp only [decide_eq_true_eq, decide_eq_false_iff_not, Bool.not_eq_true', Bool.not_eq_false', Bool.not_true, Bool.not_false, Bool.not_not, ne_eq, Decidable.not_not, Int.not_lt, Int.not_le, gt_iff_lt, ge_iff_le, bool_true_eq_, bool_false_eq_, str_eq] at h3
                first
                | (exfalso; first | omega | (simp at h3; done))
                | (skip
                   refine GC.skip (?_ : GC _ _ _ _)
                   refine GC.seq' ?_
                   refine GC.block ?_
                   refine GC.region ?_
                   refine GL.pure rfl (p_move rfl) ?_
                   refine GL.pure rfl (p_move rfl) ?_
                   refine GL.pure rfl (p_move rfl) ?_
                   refine GL.pure rfl (p_move rfl) ?_
                   refine GL.step rfl (t_index (i := 0) rfl rfl rfl rfl Try.underlying35 sz_44 (by omega) (gt_ok (by omega) (by omega))) (GL.ex fun p_x55 => GL.ex fun r_x55 => GL.and fun ok_x55 => ?_)
                   rcases r_x55 with ⟨⟨_, ⟨_, ⟨_, ⟨⟨Ax55_0, cpx55_0⟩, ⟨Ax55_1, cpx55_1⟩⟩⟩⟩⟩, ⟨_, ⟨Ax55_2, cpx55_2⟩⟩⟩
                   refine GL.step rfl (t_mem rfl (m_loadPN (i := 0) rfl rfl ag_44 (vs := [_, _, _, _, _, _, _]) sz_44 ⟨rfl, rfl, rfl, rfl, rfl, rfl, rfl, trivial⟩)) ?_
                   refine GL.step rfl (t_call rfl fn_16 rfl (is := [2, 2, 2, 2, 2, 2]) (js := [8, 1, 2, 3]) rfl rfl (by exact step_ct _ _ _ _ _ _ _ _ _ _ _ u (gt steps (i : Int)) _ _ _ _ _ _ hu (StepOk.of (hst _ (gt_mem (l := steps) (k := i) (by omega)))) ok_x55.1.2.2.2.1.1)) (GL.ret ?_)
                   rintro _ _ _ ⟨cs57, rfl, rfl, rfl⟩
                   refine GL.nil (?_ : GC _ _ _ _)
                   refine GC.region ?_
                   refine GL.pure rfl (p_move rfl) ?_
                   refine GL.pure rfl (p_add rfl rfl (w64 (by omega) (by omega))) ?_
                   refine GL.pure rfl (p_assign rfl) ?_
                   refine GL.nil ?_
                   exact fun a w h => ⟨(i + 1, stepF u (gt steps (i : Int)), cs57), (by simp only; omega), ⟨by simp only; omega, stepF_ok hu _, (stepF_shape _ _).1.trans hbl, (stepF_shape _ _).2.trans hsz⟩, h.cut (is := [6, 6, 0, 0, 0, 0, 0, 0]) (js := [5, 6, 7, 8, 0]) ⟨rfl, rfl, rfl, rfl, rfl, rfl, trivial⟩ rfl rfl⟩)
              · try simp only [decide_eq_true_eq, decide_eq_false_iff_not, Bool.not_eq_true', Bool.not_eq_false', Bool.not_true, Bool.not_false, Bool.not_not, ne_eq, Decidable.not_not, Int.not_lt, Int.not_le, gt_iff_lt, ge_iff_le, bool_true_eq_, bool_false_eq_, str_eq] at h3
                first
                | (exfalso; first | omega | (simp at h3; done))
                | (skip
                   refine GC.exit (?_ : GC _ _ _ _)
                   refine GC.seq' ?_
                   refine GC.region ?_
                   subst hsz
                   subst hbl
                   have hu2 := doF_ok hu o 4611686018427387904
                   refine GL.pure rfl (p_move rfl) ?_
                   refine GL.step rfl (t_call rfl fn_13 rfl (is := [2, 2, 2]) (js := []) rfl rfl (by exact bytes_ct _ _ _ u hu)) (GL.ret ?_)
                   rintro _ _ _ ⟨A59, cp59, l59, k59, rfl, rfl, rfl⟩
                   refine GL.pure rfl (p_assign rfl) ?_
                   refine GL.nil (?_ : GC _ _ _ _)
                   refine GC.seq' ?_
                   refine GC.region ?_
                   refine GL.freezeB (i := 0) rfl ?_
                   refine GL.pure rfl (p_move rfl) ?_
                   refine GL.step rfl (t_mem rfl (m_loadN (i := 4) rfl rfl ag_42 (vs := [_, _, _, _, _]) sz_42 ⟨rfl, rfl, rfl, rfl, rfl, trivial⟩)) ?_
                   refine GL.step rfl (t_call rfl fn_19 rfl (is := [0, 0, 0]) (js := [2, 3]) rfl rfl (by exact do_ct _ _ _ u o _ _ _ _ _ hu)) (GL.ret ?_)
                   rintro _ _ _ ⟨A63, cp63, l63, k63, rfl, rfl, rfl⟩
                   refine GL.pure rfl (p_move rfl) ?_
                   refine GL.pure rfl (p_extract rfl rfl) ?_
                   refine GL.pure rfl (p_extract rfl rfl) ?_
                   refine GL.step rfl (t_alloc rfl ze_49) (GL.ex fun b_t12 => ?_)
                   refine GL.step rfl (t_storeN (i := 0) rfl rfl rfl sz_49 rfl rfl rfl) ?_
                   refine GL.pure rfl (p_assign rfl) ?_
                   refine GL.nil (?_ : GC _ _ _ _)
                   refine GC.seq' ?_
                   refine GC.region ?_
                   refine GL.pure rfl (p_move rfl) ?_
                   refine GL.step rfl (t_call rfl fn_13 rfl (is := [1, 1, 1]) (js := []) rfl rfl (by exact bytes_ct _ _ _ (doF u o 4611686018427387904).2 hu2)) (GL.ret ?_)
                   rintro _ _ _ ⟨A67, cp67, l67, k67, rfl, rfl, rfl⟩
                   refine GL.pure rfl (p_assign rfl) ?_
                   refine GL.nil (?_ : GC _ _ _ _)
                   refine GC.seq' ?_
                   refine GC.seq' ?_
                   refine GC.region ?_
                   refine GL.freezeB (i := 0) rfl ?_
                   refine GL.pure rfl (p_move rfl) ?_
                   refine GL.pure rfl (p_neq rfl rfl) ?_
                   refine GL.pure rfl (p_move rfl) ?_
                   refine GL.split (i := 70) rfl (fun h4 => ?_) (fun h4 => ?_)
                   · try simp only [decide_eq_true_eq, decide_eq_false_iff_not, Bool.not_eq_true', Bool.not_eq_false', Bool.not_true, Bool.not_false, Bool.not_not, ne_eq, Decidable.not_not, Int.not_lt, Int.not_le, gt_iff_lt, ge_iff_le, bool_true_eq_, bool_false_eq_, str_eq] at h4
                     first
                     | (exfalso; first | omega | (simp at h4; done))
                     | (skip
                        refine GL.pass (s := 70) rfl rfl rfl ?_
                        refine GL.pass (s := 70) rfl rfl rfl ?_
                        refine GL.pass (s := 70) rfl rfl rfl ?_
                        refine GL.pure rfl (p_pick_true rfl rfl) ?_
                        refine GL.pure rfl (p_move rfl) ?_
                        refine GL.pass (s := 75) rfl rfl rfl ?_
                        refine GL.pass (s := 75) rfl rfl rfl ?_
                        refine GL.pass (s := 75) rfl rfl rfl ?_
                        refine GL.pure rfl (p_pick_true rfl rfl) ?_
                        refine GL.nil (?_ : GC _ _ _ _)
                        refine GC.cond_true rfl ?_
                        refine GC.seq' ?_
                        refine GC.region ?_
                        refine GL.pure rfl (p_move rfl) ?_
                        refine GL.step rfl (t_mem rfl (m_str (i := 2) rfl rfl Try.underlying31 Try.underlying5 Try.underlying9)) ?_
                        refine GL.pure rfl (p_move rfl) ?_
                        refine GL.step rfl (t_mem rfl (m_str (i := 0) rfl rfl Try.underlying31 Try.underlying5 Try.underlying9)) ?_
                        refine GL.pure rfl (p_seql rfl rfl) ?_
                        refine GL.pure rfl (p_assign rfl) ?_
                        refine GL.nil (?_ : GC _ _ _ _)
                        refine GC.ret ?_
                        refine fun a w h => Fin.back (rs := [.tmp 6]) (vs := [_]) (is := []) (js := []) rfl ⟨rfl, trivial⟩ rfl rfl ?_ h
                        clear h
                        first | exact ⟨rfl, rfl, rfl⟩ | (refine ⟨congrArg Value.bool (decide_eq_true ?_), rfl, rfl⟩; rw [doF_keep (fun g => by first | exact absurd g.1 (by assumption) | exact absurd g.2.1 (by assumption) | exact absurd g.2.2 (by assumption))]))
                   · try simp only [decide_eq_true_eq, decide_eq_false_iff_not, Bool.not_eq_true', Bool.not_eq_false', Bool.not_true, Bool.not_false, Bool.not_not, ne_eq, Decidable.not_not, Int.not_lt, Int.not_le, gt_iff_lt, ge_iff_le, bool_true_eq_, bool_false_eq_, str_eq] at h4
                     first
                     | (exfalso; first | omega | (simp at h4; done))
                     | (skip
                        refine GL.pureG (s := 70) rfl rfl rfl (p_fieldAddr fo_49_0 rfl) ?_
                        refine GL.stepG rfl (s := 70) rfl rfl (t_mem rfl (m_load (i := 3) rfl rfl ag_47 rfl)) ?_
                        refine GL.pureG (s := 70) rfl rfl rfl (p_neq rfl rfl) ?_
                        refine GL.pure rfl (p_pick_false rfl rfl) ?_
                        refine GL.pure rfl (p_move rfl) ?_
                        refine GL.split (i := 75) rfl (fun h5 => ?_) (fun h5 => ?_)
                        · try simp only [decide_eq_true_eq, decide_eq_false_iff_not, Bool.not_eq_true', Bool.not_eq_false', Bool.not_true, Bool.not_false, Bool.not_not, ne_eq, Decidable.not_not, Int.not_lt, Int.not_le, gt_iff_lt, ge_iff_le, bool_true_eq_, bool_false_eq_, str_eq] at h5
                          first
                          | (exfalso; first | omega | (simp at h5; done))
                          | (skip
                             refine GL.pass (s := 75) rfl rfl rfl ?_
                             refine GL.pass (s := 75) rfl rfl rfl ?_
                             refine GL.pass (s := 75) rfl rfl rfl ?_
                             refine GL.pure rfl (p_pick_true rfl rfl) ?_
                             refine GL.nil (?_ : GC _ _ _ _)
                             refine GC.cond_true rfl ?_
                             refine GC.seq' ?_
                             refine GC.region ?_
                             refine GL.pure rfl (p_move rfl) ?_
                             refine GL.step rfl (t_mem rfl (m_str (i := 2) rfl rfl Try.underlying31 Try.underlying5 Try.underlying9)) ?_
                             refine GL.pure rfl (p_move rfl) ?_
                             refine GL.step rfl (t_mem rfl (m_str (i := 0) rfl rfl Try.underlying31 Try.underlying5 Try.underlying9)) ?_
                             refine GL.pure rfl (p_seql rfl rfl) ?_
                             refine GL.pure rfl (p_assign rfl) ?_
                             refine GL.nil (?_ : GC _ _ _ _)
                             refine GC.ret ?_
                             refine fun a w h => Fin.back (rs := [.tmp 6]) (vs := [_]) (is := []) (js := []) rfl ⟨rfl, trivial⟩ rfl rfl ?_ h
                             clear h
                             first | exact ⟨rfl, rfl, rfl⟩ | (refine ⟨congrArg Value.bool (decide_eq_true ?_), rfl, rfl⟩; rw [doF_keep (fun g => by first | exact absurd g.1 (by assumption) | exact absurd g.2.1 (by assumption) | exact absurd g.2.2 (by assumption))]))
                        · try simp only [decide_eq_true_eq, decide_eq_false_iff_not, Bool.not_eq_true', Bool.not_eq_false', Bool.not_true, Bool.not_false, Bool.not_not, ne_eq, Decidable.not_not, Int.not_lt, Int.not_le, gt_iff_lt, ge_iff_le, bool_true_eq_, bool_false_eq_, str_eq] at h5
                          first
                          | (exfalso; first | omega | (simp at h5; done))
                          | (skip
                             refine GL.stepG rfl (s := 75) rfl rfl (t_mem rfl (m_loadN (i := 5) rfl rfl ag_42 (vs := [_, _, _, _, _]) sz_42 ⟨rfl, rfl, rfl, rfl, rfl, trivial⟩)) ?_
                             refine GL.stepG rfl (s := 75) rfl rfl (t_call rfl fn_20 rfl (is := []) (js := []) rfl rfl (by exact chgR_ct _ _ _ _ _ _ _ _ _)) (GL.ret ?_)
                             rintro _ _ _ ⟨rfl, rfl, rfl⟩
                             refine GL.pureG (s := 75) rfl rfl rfl (p_not rfl) ?_
                             refine GL.pure rfl (p_pick_false rfl rfl) ?_
                             refine GL.nil (?_ : GC _ _ _ _)
                             refine GC.cond rfl (fun h6 => ?_) (fun h6 => ?_)
                             · try simp only [decide_eq_true_eq, decide_eq_false_iff_not, Bool.not_eq_true', Bool.not_eq_false', Bool.not_true, Bool.not_false, Bool.not_not, ne_eq, Decidable.not_not, Int.not_lt, Int.not_le, gt_iff_lt, ge_iff_le, bool_true_eq_, bool_false_eq_, str_eq] at h6
                               first
                               | (exfalso; first | omega | (simp at h6; done))
                               | (skip
                                  refine GC.seq' ?_
                                  refine GC.region ?_
                                  refine GL.pure rfl (p_move rfl) ?_
                                  refine GL.step rfl (t_mem rfl (m_str (i := 2) rfl rfl Try.underlying31 Try.underlying5 Try.underlying9)) ?_
                                  refine GL.pure rfl (p_move rfl) ?_
                                  refine GL.step rfl (t_mem rfl (m_str (i := 0) rfl rfl Try.underlying31 Try.underlying5 Try.underlying9)) ?_
                                  refine GL.pure rfl (p_seql rfl rfl) ?_
                                  refine GL.pure rfl (p_assign rfl) ?_
                                  refine GL.nil (?_ : GC _ _ _ _)
                                  refine GC.ret ?_
                                  refine fun a w h => Fin.back (rs := [.tmp 6]) (vs := [_]) (is := []) (js := []) rfl ⟨rfl, trivial⟩ rfl rfl ?_ h
                                  clear h
                                  first | exact ⟨rfl, rfl, rfl⟩ | (refine ⟨congrArg Value.bool (decide_eq_true ?_), rfl, rfl⟩; rw [doF_keep (fun g => by first | exact absurd g.1 (by assumption) | exact absurd g.2.1 (by assumption) | exact absurd g.2.2 (by assumption))]))
                             · try simp only [decide_eq_true_eq, decide_eq_false_iff_not, Bool.not_eq_true', Bool.not_eq_false', Bool.not_true, Bool.not_false, Bool.not_not, ne_eq, Decidable.not_not, Int.not_lt, Int.not_le, gt_iff_lt, ge_iff_le, bool_true_eq_, bool_false_eq_, str_eq] at h6
                               first
                               | (exfalso; first | omega | (simp at h6; done))
                               | (skip
                                  refine GC.skip (?_ : GC _ _ _ _)
                                  refine GC.seq' ?_
                                  refine GC.region ?_
                                  have hc := doF_chg hu (by assumption) (by assumption) (by assumption)
                                  have c1 := hc.at0
                                  have c2 := hc.at1
                                  have c3 := hc.n0
                                  have c4 := hc.n1
                                  have c5 := hc.fit
                                  have c6 := hc.len
                                  have hsh := hu.shp
                                  simp only [shapeOk] at hsh
                                  have hB := atB hu.shp c1 c3 c5
                                  have hlb := hu.lb
                                  have eT : (o.at_ + spanOf o) * u.sz = o.at_ * u.sz + spanOf o * u.sz := Int.add_mul _ _ _
                                  have hfit : (o.at_ * u.sz).toNat + (wantOf u.sz o).length ≤ u.b.length := by omega
                                  have hnl : (doF u o 4611686018427387904).2.b.length = u.b.length := by rw [hc.b, laid_length hfit]
                                  refine GL.pure rfl (p_fieldAddr fo_42_2 rfl) ?_
                                  refine GL.step rfl (t_mem rfl (m_load (i := 5) rfl rfl ag_3 rfl)) ?_
                                  refine GL.pure rfl (p_assign rfl) ?_
                                  refine GL.nil (?_ : GC _ _ _ _)
                                  refine GC.seq' ?_
                                  refine GC.seq' ?_
                                  refine GC.region ?_
                                  refine GL.pure rfl (p_fieldAddr fo_42_0 rfl) ?_
                                  refine GL.step rfl (t_mem rfl (m_load (i := 5) rfl rfl ag_40 rfl)) ?_
                                  refine GL.pure rfl (p_eql rfl rfl) ?_
                                  refine GL.nil (?_ : GC _ _ _ _)
                                  refine GC.cond rfl (fun h7 => ?_) (fun h7 => ?_)
                                  · try simp only [decide_eq_true_eq, decide_eq_false_iff_not, Bool.not_eq_true', Bool.not_eq_false', Bool.not_true, Bool.not_false, Bool.not_not, ne_eq, Decidable.not_not, Int.not_lt, Int.not_le, gt_iff_lt, ge_iff_le, bool_true_eq_, bool_false_eq_, str_eq] at h7
                                    first
                                    | (exfalso; first | omega | (simp at h7; done))
                                    | (skip
                                       refine GC.region ?_
                                       refine GL.pure rfl (p_assign rfl) ?_
                                       refine GL.nil (?_ : GC _ _ _ _)
                                       refine GC.seq' ?_
                                       refine GC.region ?_
                                       have es : spanOf o = 1 := by unfold spanOf; rw [if_pos (by assumption)]
                                       rw [es] at c3 c4 c5 c6 hB eT
                                       refine GL.pure rfl (p_move rfl) ?_
                                       refine GL.pure rfl (p_fieldAddr fo_42_1 rfl) ?_
                                       refine GL.step rfl (t_mem rfl (m_load (i := 5) rfl rfl ag_3 rfl)) ?_
                                       refine GL.pure rfl (p_move rfl) ?_
                                       refine GL.pure rfl (p_build ze_42 of_42 rfl rfl) ?_
                                       refine GL.step rfl (t_call rfl fn_19 rfl (is := [0, 0, 0]) (js := [6, 6]) rfl rfl (by exact do_eq _ _ _ _ _ none 0 none 0 _ hu2 _ _ _ (read_at hu hc es))) (GL.ret ?_)
                                       rintro _ _ _ ⟨A96, cp96, l96, k96, rfl, rfl, rfl⟩
                                       refine GL.pure rfl (p_move rfl) ?_
                                       refine GL.pure rfl (p_extract rfl rfl) ?_
                                       refine GL.pure rfl (p_extract rfl rfl) ?_
                                       refine GL.step rfl (t_alloc rfl ze_49) (GL.ex fun b_t16 => ?_)
                                       refine GL.step rfl (t_storeN (i := 0) rfl rfl rfl sz_49 rfl rfl rfl) ?_
                                       refine GL.pure rfl (p_assign rfl) ?_
                                       refine GL.nil (?_ : GC _ _ _ _)
                                       refine GC.seq' ?_
                                       refine GC.region ?_
                                       refine GL.pure rfl (p_fieldAddr fo_42_3 rfl) ?_
                                       refine GL.step rfl (t_mem rfl (m_load (i := 6) rfl rfl ag_31 rfl)) ?_
                                       refine GL.pure rfl (p_assign rfl) ?_
                                       refine GL.nil (?_ : GC _ _ _ _)
                                       refine GC.seq' ?_
                                       refine GC.seq' ?_
                                       refine GC.region ?_
                                       refine GL.pure rfl (p_fieldAddr fo_42_0 rfl) ?_
                                       refine GL.step rfl (t_mem rfl (m_load (i := 6) rfl rfl ag_40 rfl)) ?_
                                       refine GL.pure rfl (p_eql rfl rfl) ?_
                                       refine GL.nil (?_ : GC _ _ _ _)
                                       refine GC.cond rfl (fun h8 => ?_) (fun h8 => ?_)
                                       · try simp only [decide_eq_true_eq, decide_eq_false_iff_not, Bool.not_eq_true', Bool.not_eq_false', Bool.not_true, Bool.not_false, Bool.not_not, ne_eq, Decidable.not_not, Int.not_lt, Int.not_le, gt_iff_lt, ge_iff_le, bool_true_eq_, bool_false_eq_, str_eq] at h8
                                         first
                                         | (exfalso; first | omega | (simp at h8; done))
                                         | (skip
                                            refine GC.region ?_
                                            refine GL.pure rfl (p_move rfl) ?_
                                            refine GL.pure rfl (p_fieldAddr fo_23_1 rfl) ?_
                                            refine GL.step rfl (t_mem rfl (m_load (i := 5) rfl rfl ag_3 rfl)) ?_
                                            refine GL.pure rfl (p_mul rfl rfl (w64 (by omega) (by omega))) ?_
                                            refine GL.step rfl (t_make rfl el_31 rfl rfl (by omega) (by omega)) (GL.ex fun b_t108 => ?_)
                                            rw [reps_u8]
                                            obtain ⟨z, hz⟩ : ∃ z, z = List.replicate (o.n * u.sz).toNat (0 : UInt8) := ⟨_, rfl⟩
                                            rw [← hz, show (o.n * u.sz).toNat = z.length by simp [hz]]
                                            refine GL.freezeC (h1 := fun _ => rfl) (i := 0) rfl ?_
                                            refine GL.pure rfl (p_assign rfl) ?_
                                            refine GL.nil (?_ : GC _ _ _ _)
                                            refine GC.seq' ?_
                                            skip
                                            refine GC.regionQ wide_ (by kernel_rfl) ?_
                                            refine GQ.step rfl (q_pure (p_fieldAddr fo_42_1 rfl)) ?_
                                            refine GQ.step rfl (q_mem (m_load (i := 6) rfl rfl ag_3 rfl)) ?_
                                            refine GQ.step rfl (q_pure (p_fieldAddr fo_23_1 rfl)) ?_
                                            refine GQ.step rfl (q_mem (m_load (i := 5) rfl rfl ag_3 rfl)) ?_
                                            refine GQ.step rfl (q_pure (p_mul rfl rfl (w64 (by omega) (by omega)))) ?_
                                            refine GQ.step rfl (q_pure (p_fieldAddr fo_42_1 rfl)) ?_
                                            refine GQ.step rfl (q_mem (m_load (i := 6) rfl rfl ag_3 rfl)) ?_
                                            refine GQ.step rfl (q_pure (p_move rfl)) ?_
                                            refine GQ.step rfl (q_pure (p_add rfl rfl (w64 (by omega) (by omega)))) ?_
                                            refine GQ.step rfl (q_pure (p_fieldAddr fo_23_1 rfl)) ?_
                                            refine GQ.step rfl (q_mem (m_load (i := 5) rfl rfl ag_3 rfl)) ?_
                                            refine GQ.step rfl (q_pure (p_mul rfl rfl (w64 (by omega) (by omega)))) ?_
                                            refine GQ.step rfl (q_pure (p_assign rfl)) ?_
                                            refine GQ.step rfl (q_pure (p_assign rfl)) ?_
                                            refine GQ.nil (?_ : GC _ _ _ _)
                                            refine GC.seq' ?_
                                            refine GC.know (q := Pers.row Kd.u8 (slA A67 1 0 cp67) (seg (doF u o 4611686018427387904).2.b 0 (o.at_ * u.sz).toNat)) (fun w S hp => row_sub (kd := Kd.u8) (hp _ (nthO_mem (i := 2) rfl)) (by first | exact Nat.le_refl _ | omega) (by omega)) ?_
                                            refine GC.know (q := Pers.row Kd.u8 (slA A59 1 0 cp59) (seg u.b 0 (o.at_ * u.sz).toNat)) (fun w S hp => row_sub (kd := Kd.u8) (hp _ (nthO_mem (i := 5) rfl)) (by first | exact Nat.le_refl _ | omega) (by omega)) ?_
                                            refine GC.know (q := Pers.row Kd.u8 (slA A67 1 ((o.at_ + 1) * u.sz).toNat cp67) (seg (doF u o 4611686018427387904).2.b ((o.at_ + 1) * u.sz).toNat ((doF u o 4611686018427387904).2.b).length)) (fun w S hp => row_sub (kd := Kd.u8) (hp _ (nthO_mem (i := 4) rfl)) (by first | exact Nat.le_refl _ | omega) (by omega)) ?_
                                            refine GC.know (q := Pers.row Kd.u8 (slA A59 1 ((o.at_ + 1) * u.sz).toNat cp59) (seg u.b ((o.at_ + 1) * u.sz).toNat (u.b).length)) (fun w S hp => row_sub (kd := Kd.u8) (hp _ (nthO_mem (i := 7) rfl)) (by first | exact Nat.le_refl _ | omega) (by omega)) ?_
                                            refine GC.regionQ wide_ (by kernel_rfl) ?_
                                            refine GQ.step rfl (q_pure (p_move rfl)) ?_
                                            refine GQ.step rfl (q_pure (p_eql rfl rfl)) ?_
                                            refine GQ.step rfl (q_pure (p_move rfl)) ?_
                                            refine GQ.stepG (s := 123) rfl rfl rfl (q_pure (p_fieldAddr fo_49_1 rfl)) ?_
                                            refine GQ.stepG (s := 123) rfl rfl rfl (q_mem (m_load (i := 0) rfl rfl ag_31 rfl)) ?_
                                            refine GQ.stepG (s := 123) rfl rfl rfl (q_mem (m_str (i := 5) rfl rfl Try.underlying31 Try.underlying5 Try.underlying9)) ?_
                                            refine GQ.stepG (s := 123) rfl rfl rfl (q_pure (p_move rfl)) ?_
                                            refine GQ.stepG (s := 123) rfl rfl rfl (q_mem (m_str (i := 4) rfl rfl Try.underlying31 Try.underlying5 Try.underlying9)) ?_
                                            refine GQ.stepG (s := 123) rfl rfl rfl (q_pure (p_seqT rfl rfl (by rw [ew]))) ?_
                                            refine GQ.step rfl (q_pure (p_pick_true rfl rfl)) ?_
                                            refine GQ.step rfl (q_pure (p_move rfl)) ?_
                                            refine GQ.stepG (s := 131) rfl rfl rfl (q_pure (p_move rfl)) ?_
                                            refine GQ.stepG (s := 131) rfl rfl rfl (q_pure (p_move rfl)) ?_
                                            refine GQ.stepG (s := 131) rfl rfl rfl (q_pure (p_cut_h rfl rfl Try.underlying31 sz_5 (by omega) (by omega) (seg_length (xs := (doF u o 4611686018427387904).2.b) (by omega)).symm rfl rfl)) ?_
                                            refine GQ.stepG (s := 131) rfl rfl rfl (q_mem (m_str (i := 3) rfl rfl Try.underlying31 Try.underlying5 Try.underlying9)) ?_
                                            refine GQ.stepG (s := 131) rfl rfl rfl (q_pure (p_move rfl)) ?_
                                            refine GQ.stepG (s := 131) rfl rfl rfl (q_pure (p_move rfl)) ?_
                                            refine GQ.stepG (s := 131) rfl rfl rfl (q_pure (p_cut_h rfl rfl Try.underlying31 sz_5 (by omega) (by omega) (seg_length (xs := u.b) (by omega)).symm rfl rfl)) ?_
                                            refine GQ.stepG (s := 131) rfl rfl rfl (q_mem (m_str (i := 2) rfl rfl Try.underlying31 Try.underlying5 Try.underlying9)) ?_
                                            refine GQ.stepG (s := 131) rfl rfl rfl (q_pure (p_seqT rfl rfl (by rw [hc.b, laid_before hfit]))) ?_
                                            refine GQ.step rfl (q_pure (p_pick_true rfl rfl)) ?_
                                            refine GQ.step rfl (q_pure (p_move rfl)) ?_
                                            refine GQ.stepG (s := 142) rfl rfl rfl (q_pure (p_move rfl)) ?_
                                            refine GQ.stepG (s := 142) rfl rfl rfl (q_pure (p_move rfl)) ?_
                                            refine GQ.stepG (s := 142) rfl rfl rfl (q_pure (p_cut_l rfl rfl Try.underlying31 sz_5 (by omega) (by omega) (seg_length (xs := (doF u o 4611686018427387904).2.b) (Nat.le_refl _)).symm rfl rfl)) ?_
                                            refine GQ.stepG (s := 142) rfl rfl rfl (q_mem (m_str (i := 1) rfl rfl Try.underlying31 Try.underlying5 Try.underlying9)) ?_
                                            refine GQ.stepG (s := 142) rfl rfl rfl (q_pure (p_move rfl)) ?_
                                            refine GQ.stepG (s := 142) rfl rfl rfl (q_pure (p_move rfl)) ?_
                                            refine GQ.stepG (s := 142) rfl rfl rfl (q_pure (p_cut_l rfl rfl Try.underlying31 sz_5 (by omega) (by omega) (seg_length (xs := u.b) (Nat.le_refl _)).symm rfl rfl)) ?_
                                            refine GQ.stepG (s := 142) rfl rfl rfl (q_mem (m_str (i := 0) rfl rfl Try.underlying31 Try.underlying5 Try.underlying9)) ?_
                                            refine GQ.stepG (s := 142) rfl rfl rfl (q_pure (p_seqT rfl rfl (by rw [hc.b, laid_behind hfit (by omega)]))) ?_
                                            refine GQ.step rfl (q_pure (p_pick_true rfl rfl)) ?_
                                            refine GQ.step rfl (q_pure (p_assign rfl)) ?_
                                            refine GQ.nil (?_ : GC _ _ _ _)
                                            refine GC.ret ?_
                                            refine fun a w h => Fin.back (rs := [.tmp 6]) (vs := [_]) (is := []) (js := []) rfl ⟨rfl, trivial⟩ rfl rfl ?_ h
                                            clear h
                                            first | exact ⟨rfl, rfl, rfl⟩ | (refine ⟨congrArg Value.bool (decide_eq_true ?_), rfl, rfl⟩; rw [doF_keep (fun g => by first | exact absurd g.1 (by assumption) | exact absurd g.2.1 (by assumption) | exact absurd g.2.2 (by assumption))]))
                                       · try simp only [decide_eq_true_eq, decide_eq_false_iff_not, Bool.not_eq_true', Bool.not_eq_false', Bool.not_true, Bool.not_false, Bool.not_not, ne_eq, Decidable.not_not, Int.not_lt, Int.not_le, gt_iff_lt, ge_iff_le, bool_true_eq_, bool_false_eq_, str_eq] at h8
                                         first
                                         | (exfalso; first | omega | (simp at h8; done))
                                         | (skip
                                            refine GC.skip (?_ : GC _ _ _ _)
                                            refine GC.seq' ?_
                                            have ew : wantOf u.sz o = o.data := by unfold wantOf; rw [if_neg (by omega)]
                                            refine GC.regionQ wide_ (by kernel_rfl) ?_
                                            refine GQ.step rfl (q_pure (p_fieldAddr fo_42_1 rfl)) ?_
                                            refine GQ.step rfl (q_mem (m_load (i := 6) rfl rfl ag_3 rfl)) ?_
                                            refine GQ.step rfl (q_pure (p_fieldAddr fo_23_1 rfl)) ?_
                                            refine GQ.step rfl (q_mem (m_load (i := 5) rfl rfl ag_3 rfl)) ?_
                                            refine GQ.step rfl (q_pure (p_mul rfl rfl (w64 (by omega) (by omega)))) ?_
                                            refine GQ.step rfl (q_pure (p_fieldAddr fo_42_1 rfl)) ?_
                                            refine GQ.step rfl (q_mem (m_load (i := 6) rfl rfl ag_3 rfl)) ?_
                                            refine GQ.step rfl (q_pure (p_move rfl)) ?_
                                            refine GQ.step rfl (q_pure (p_add rfl rfl (w64 (by omega) (by omega)))) ?_
                                            refine GQ.step rfl (q_pure (p_fieldAddr fo_23_1 rfl)) ?_
                                            refine GQ.step rfl (q_mem (m_load (i := 5) rfl rfl ag_3 rfl)) ?_
                                            refine GQ.step rfl (q_pure (p_mul rfl rfl (w64 (by omega) (by omega)))) ?_
                                            refine GQ.step rfl (q_pure (p_assign rfl)) ?_
                                            refine GQ.step rfl (q_pure (p_assign rfl)) ?_
                                            refine GQ.nil (?_ : GC _ _ _ _)
                                            refine GC.seq' ?_
                                            refine GC.know (q := Pers.row Kd.u8 (slA A67 1 0 cp67) (seg (doF u o 4611686018427387904).2.b 0 (o.at_ * u.sz).toNat)) (fun w S hp => row_sub (kd := Kd.u8) (hp _ (nthO_mem (i := 1) rfl)) (by first | exact Nat.le_refl _ | omega) (by omega)) ?_
                                            refine GC.know (q := Pers.row Kd.u8 (slA A59 1 0 cp59) (seg u.b 0 (o.at_ * u.sz).toNat)) (fun w S hp => row_sub (kd := Kd.u8) (hp _ (nthO_mem (i := 4) rfl)) (by first | exact Nat.le_refl _ | omega) (by omega)) ?_
                                            refine GC.know (q := Pers.row Kd.u8 (slA A67 1 ((o.at_ + 1) * u.sz).toNat cp67) (seg (doF u o 4611686018427387904).2.b ((o.at_ + 1) * u.sz).toNat ((doF u o 4611686018427387904).2.b).length)) (fun w S hp => row_sub (kd := Kd.u8) (hp _ (nthO_mem (i := 3) rfl)) (by first | exact Nat.le_refl _ | omega) (by omega)) ?_
                                            refine GC.know (q := Pers.row Kd.u8 (slA A59 1 ((o.at_ + 1) * u.sz).toNat cp59) (seg u.b ((o.at_ + 1) * u.sz).toNat (u.b).length)) (fun w S hp => row_sub (kd := Kd.u8) (hp _ (nthO_mem (i := 6) rfl)) (by first | exact Nat.le_refl _ | omega) (by omega)) ?_
                                            refine GC.regionQ wide_ (by kernel_rfl) ?_
                                            refine GQ.step rfl (q_pure (p_move rfl)) ?_
                                            refine GQ.step rfl (q_pure (p_eql rfl rfl)) ?_
                                            refine GQ.step rfl (q_pure (p_move rfl)) ?_
                                            refine GQ.stepG (s := 123) rfl rfl rfl (q_pure (p_fieldAddr fo_49_1 rfl)) ?_
                                            refine GQ.stepG (s := 123) rfl rfl rfl (q_mem (m_load (i := 0) rfl rfl ag_31 rfl)) ?_
                                            refine GQ.stepG (s := 123) rfl rfl rfl (q_mem (m_str (i := 4) rfl rfl Try.underlying31 Try.underlying5 Try.underlying9)) ?_
                                            refine GQ.stepG (s := 123) rfl rfl rfl (q_pure (p_move rfl)) ?_
                                            refine GQ.stepG (s := 123) rfl rfl rfl (q_mem (m_str (i := 9) rfl rfl Try.underlying31 Try.underlying5 Try.underlying9)) ?_
                                            refine GQ.stepG (s := 123) rfl rfl rfl (q_pure (p_seqT rfl rfl (by rw [ew]))) ?_
                                            refine GQ.step rfl (q_pure (p_pick_true rfl rfl)) ?_
                                            refine GQ.step rfl (q_pure (p_move rfl)) ?_
                                            refine GQ.stepG (s := 131) rfl rfl rfl (q_pure (p_move rfl)) ?_
                                            refine GQ.stepG (s := 131) rfl rfl rfl (q_pure (p_move rfl)) ?_
                                            refine GQ.stepG (s := 131) rfl rfl rfl (q_pure (p_cut_h rfl rfl Try.underlying31 sz_5 (by omega) (by omega) (seg_length (xs := (doF u o 4611686018427387904).2.b) (by omega)).symm rfl rfl)) ?_
                                            refine GQ.stepG (s := 131) rfl rfl rfl (q_mem (m_str (i := 3) rfl rfl Try.underlying31 Try.underlying5 Try.underlying9)) ?_
                                            refine GQ.stepG (s := 131) rfl rfl rfl (q_pure (p_move rfl)) ?_
                                            refine GQ.stepG (s := 131) rfl rfl rfl (q_pure (p_move rfl)) ?_
                                            refine GQ.stepG (s := 131) rfl rfl rfl (q_pure (p_cut_h rfl rfl Try.underlying31 sz_5 (by omega) (by omega) (seg_length (xs := u.b) (by omega)).symm rfl rfl)) ?_
                                            refine GQ.stepG (s := 131) rfl rfl rfl (q_mem (m_str (i := 2) rfl rfl Try.underlying31 Try.underlying5 Try.underlying9)) ?_
                                            refine GQ.stepG (s := 131) rfl rfl rfl (q_pure (p_seqT rfl rfl (by rw [hc.b, laid_before hfit]))) ?_
                                            refine GQ.step rfl (q_pure (p_pick_true rfl rfl)) ?_
                                            refine GQ.step rfl (q_pure (p_move rfl)) ?_
                                            refine GQ.stepG (s := 142) rfl rfl rfl (q_pure (p_move rfl)) ?_
                                            refine GQ.stepG (s := 142) rfl rfl rfl (q_pure (p_move rfl)) ?_
                                            refine GQ.stepG (s := 142) rfl rfl rfl (q_pure (p_cut_l rfl rfl Try.underlying31 sz_5 (by omega) (by omega) (seg_length (xs := (doF u o 4611686018427387904).2.b) (Nat.le_refl _)).symm rfl rfl)) ?_
                                            refine GQ.stepG (s := 142) rfl rfl rfl (q_mem (m_str (i := 1) rfl rfl Try.underlying31 Try.underlying5 Try.underlying9)) ?_
                                            refine GQ.stepG (s := 142) rfl rfl rfl (q_pure (p_move rfl)) ?_
                                            refine GQ.stepG (s := 142) rfl rfl rfl (q_pure (p_move rfl)) ?_
                                            refine GQ.stepG (s := 142) rfl rfl rfl (q_pure (p_cut_l rfl rfl Try.underlying31 sz_5 (by omega) (by omega) (seg_length (xs := u.b) (Nat.le_refl _)).symm rfl rfl)) ?_
                                            refine GQ.stepG (s := 142) rfl rfl rfl (q_mem (m_str (i := 0) rfl rfl Try.underlying31 Try.underlying5 Try.underlying9)) ?_
                                            refine GQ.stepG (s := 142) rfl rfl rfl (q_pure (p_seqT rfl rfl (by rw [hc.b, laid_behind hfit (by omega)]))) ?_
                                            refine GQ.step rfl (q_pure (p_pick_true rfl rfl)) ?_
                                            refine GQ.step rfl (q_pure (p_assign rfl)) ?_
                                            refine GQ.nil (?_ : GC _ _ _ _)
                                            refine GC.ret ?_
                                            refine fun a w h => Fin.back (rs := [.tmp 6]) (vs := [_]) (is := []) (js := []) rfl ⟨rfl, trivial⟩ rfl rfl ?_ h
                                            clear h
                                            first | exact ⟨rfl, rfl, rfl⟩ | (refine ⟨congrArg Value.bool (decide_eq_true ?_), rfl, rfl⟩; rw [doF_keep (fun g => by first | exact absurd g.1 (by assumption) | exact absurd g.2.1 (by assumption) | exact absurd g.2.2 (by assumption))])))
                                  · try simp only [decide_eq_true_eq, decide_eq_false_iff_not, Bool.not_eq_true', Bool.not_eq_false', Bool.not_true, Bool.not_false, Bool.not_not, ne_eq, Decidable.not_not, Int.not_lt, Int.not_le, gt_iff_lt, ge_iff_le, bool_true_eq_, bool_false_eq_, str_eq] at h7
                                    first
                                    | (exfalso; first | omega | (simp at h7; done))
                                    | (skip
                                       refine GC.skip (?_ : GC _ _ _ _)
                                       refine GC.seq' ?_
                                       refine GC.region ?_
                                       have es : spanOf o = o.n := by unfold spanOf; rw [if_neg (by assumption)]
                                       rw [es] at c3 c4 c5 c6 hB eT
                                       refine GL.pure rfl (p_move rfl) ?_
                                       refine GL.pure rfl (p_fieldAddr fo_42_1 rfl) ?_
                                       refine GL.step rfl (t_mem rfl (m_load (i := 5) rfl rfl ag_3 rfl)) ?_
                                       refine GL.pure rfl (p_move rfl) ?_
                                       refine GL.pure rfl (p_build ze_42 of_42 rfl rfl) ?_
                                       refine GL.step rfl (t_call rfl fn_19 rfl (is := [0, 0, 0]) (js := [6, 6]) rfl rfl (by exact do_eq _ _ _ _ _ none 0 none 0 _ hu2 _ _ _ (read_at hu hc es))) (GL.ret ?_)
                                       rintro _ _ _ ⟨A96, cp96, l96, k96, rfl, rfl, rfl⟩
                                       refine GL.pure rfl (p_move rfl) ?_
                                       refine GL.pure rfl (p_extract rfl rfl) ?_
                                       refine GL.pure rfl (p_extract rfl rfl) ?_
                                       refine GL.step rfl (t_alloc rfl ze_49) (GL.ex fun b_t16 => ?_)
                                       refine GL.step rfl (t_storeN (i := 0) rfl rfl rfl sz_49 rfl rfl rfl) ?_
                                       refine GL.pure rfl (p_assign rfl) ?_
                                       refine GL.nil (?_ : GC _ _ _ _)
                                       refine GC.seq' ?_
                                       refine GC.region ?_
                                       refine GL.pure rfl (p_fieldAddr fo_42_3 rfl) ?_
                                       refine GL.step rfl (t_mem rfl (m_load (i := 6) rfl rfl ag_31 rfl)) ?_
                                       refine GL.pure rfl (p_assign rfl) ?_
                                       refine GL.nil (?_ : GC _ _ _ _)
                                       refine GC.seq' ?_
                                       refine GC.seq' ?_
                                       refine GC.region ?_
                                       refine GL.pure rfl (p_fieldAddr fo_42_0 rfl) ?_
                                       refine GL.step rfl (t_mem rfl (m_load (i := 6) rfl rfl ag_40 rfl)) ?_
                                       refine GL.pure rfl (p_eql rfl rfl) ?_
                                       refine GL.nil (?_ : GC _ _ _ _)
                                       refine GC.cond rfl (fun h9 => ?_) (fun h9 => ?_)
                                       · try simp only [decide_eq_true_eq, decide_eq_false_iff_not, Bool.not_eq_true', Bool.not_eq_false', Bool.not_true, Bool.not_false, Bool.not_not, ne_eq, Decidable.not_not, Int.not_lt, Int.not_le, gt_iff_lt, ge_iff_le, bool_true_eq_, bool_false_eq_, str_eq] at h9
                                         first
                                         | (exfalso; first | omega | (simp at h9; done))
                                         | (skip
                                            refine GC.region ?_
                                            refine GL.pure rfl (p_move rfl) ?_
                                            refine GL.pure rfl (p_fieldAddr fo_23_1 rfl) ?_
                                            refine GL.step rfl (t_mem rfl (m_load (i := 5) rfl rfl ag_3 rfl)) ?_
                                            refine GL.pure rfl (p_mul rfl rfl (w64 (by omega) (by omega))) ?_
                                            refine GL.step rfl (t_make rfl el_31 rfl rfl (by omega) (by omega)) (GL.ex fun b_t108 => ?_)
                                            rw [reps_u8]
                                            obtain ⟨z, hz⟩ : ∃ z, z = List.replicate (o.n * u.sz).toNat (0 : UInt8) := ⟨_, rfl⟩
                                            rw [← hz, show (o.n * u.sz).toNat = z.length by simp [hz]]
                                            refine GL.freezeC (h1 := fun _ => rfl) (i := 0) rfl ?_
                                            refine GL.pure rfl (p_assign rfl) ?_
                                            refine GL.nil (?_ : GC _ _ _ _)
                                            refine GC.seq' ?_
                                            have ew : wantOf u.sz o = z := by unfold wantOf; rw [if_pos (by omega), es]; exact hz.symm
                                            refine GC.regionQ wide_ (by kernel_rfl) ?_
                                            refine GQ.step rfl (q_pure (p_fieldAddr fo_42_1 rfl)) ?_
                                            refine GQ.step rfl (q_mem (m_load (i := 6) rfl rfl ag_3 rfl)) ?_
                                            refine GQ.step rfl (q_pure (p_fieldAddr fo_23_1 rfl)) ?_
                                            refine GQ.step rfl (q_mem (m_load (i := 5) rfl rfl ag_3 rfl)) ?_
                                            refine GQ.step rfl (q_pure (p_mul rfl rfl (w64 (by omega) (by omega)))) ?_
                                            refine GQ.step rfl (q_pure (p_fieldAddr fo_42_1 rfl)) ?_
                                            refine GQ.step rfl (q_mem (m_load (i := 6) rfl rfl ag_3 rfl)) ?_
                                            refine GQ.step rfl (q_pure (p_move rfl)) ?_
                                            refine GQ.step rfl (q_pure (p_add rfl rfl (w64 (by omega) (by omega)))) ?_
                                            refine GQ.step rfl (q_pure (p_fieldAddr fo_23_1 rfl)) ?_
                                            refine GQ.step rfl (q_mem (m_load (i := 5) rfl rfl ag_3 rfl)) ?_
                                            refine GQ.step rfl (q_pure (p_mul rfl rfl (w64 (by omega) (by omega)))) ?_
                                            refine GQ.step rfl (q_pure (p_assign rfl)) ?_
                                            refine GQ.step rfl (q_pure (p_assign rfl)) ?_
                                            refine GQ.nil (?_ : GC _ _ _ _)
                                            refine GC.seq' ?_
                                            refine GC.know (q := Pers.row Kd.u8 (slA A67 1 0 cp67) (seg (doF u o 4611686018427387904).2.b 0 (o.at_ * u.sz).toNat)) (fun w S hp => row_sub (kd := Kd.u8) (hp _ (nthO_mem (i := 2) rfl)) (by first | exact Nat.le_refl _ | omega) (by omega)) ?_
                                            refine GC.know (q := Pers.row Kd.u8 (slA A59 1 0 cp59) (seg u.b 0 (o.at_ * u.sz).toNat)) (fun w S hp => row_sub (kd := Kd.u8) (hp _ (nthO_mem (i := 5) rfl)) (by first | exact Nat.le_refl _ | omega) (by omega)) ?_
                                            refine GC.know (q := Pers.row Kd.u8 (slA A67 1 ((o.at_ + o.n) * u.sz).toNat cp67) (seg (doF u o 4611686018427387904).2.b ((o.at_ + o.n) * u.sz).toNat ((doF u o 4611686018427387904).2.b).length)) (fun w S hp => row_sub (kd := Kd.u8) (hp _ (nthO_mem (i := 4) rfl)) (by first | exact Nat.le_refl _ | omega) (by omega)) ?_
                                            refine GC.know (q := Pers.row Kd.u8 (slA A59 1 ((o.at_ + o.n) * u.sz).toNat cp59) (seg u.b ((o.at_ + o.n) * u.sz).toNat (u.b).length)) (fun w S hp => row_sub (kd := Kd.u8) (hp _ (nthO_mem (i := 7) rfl)) (by first | exact Nat.le_refl _ | omega) (by omega)) ?_
                                            refine GC.regionQ wide_ (by kernel_rfl) ?_
                                            refine GQ.step rfl (q_pure (p_move rfl)) ?_
                                            refine GQ.step rfl (q_pure (p_eql rfl rfl)) ?_
                                            refine GQ.step rfl (q_pure (p_move rfl)) ?_
                                            refine GQ.stepG (s := 123) rfl rfl rfl (q_pure (p_fieldAddr fo_49_1 rfl)) ?_
                                            refine GQ.stepG (s := 123) rfl rfl rfl (q_mem (m_load (i := 0) rfl rfl ag_31 rfl)) ?_
                                            refine GQ.stepG (s := 123) rfl rfl rfl (q_mem (m_str (i := 5) rfl rfl Try.underlying31 Try.underlying5 Try.underlying9)) ?_
                                            refine GQ.stepG (s := 123) rfl rfl rfl (q_pure (p_move rfl)) ?_
                                            refine GQ.stepG (s := 123) rfl rfl rfl (q_mem (m_str (i := 4) rfl rfl Try.underlying31 Try.underlying5 Try.underlying9)) ?_
                                            refine GQ.stepG (s := 123) rfl rfl rfl (q_pure (p_seqT rfl rfl (by rw [ew]))) ?_
                                            refine GQ.step rfl (q_pure (p_pick_true rfl rfl)) ?_
                                            refine GQ.step rfl (q_pure (p_move rfl)) ?_
                                            refine GQ.stepG (s := 131) rfl rfl rfl (q_pure (p_move rfl)) ?_
                                            refine GQ.stepG (s := 131) rfl rfl rfl (q_pure (p_move rfl)) ?_
                                            refine GQ.stepG (s := 131) rfl rfl rfl (q_pure (p_cut_h rfl rfl Try.underlying31 sz_5 (by omega) (by omega) (seg_length (xs := (doF u o 4611686018427387904).2.b) (by omega)).symm rfl rfl)) ?_
                                            refine GQ.stepG (s := 131) rfl rfl rfl (q_mem (m_str (i := 3) rfl rfl Try.underlying31 Try.underlying5 Try.underlying9)) ?_
                                            refine GQ.stepG (s := 131) rfl rfl rfl (q_pure (p_move rfl)) ?_
                                            refine GQ.stepG (s := 131) rfl rfl rfl (q_pure (p_move rfl)) ?_
                                            refine GQ.stepG (s := 131) rfl rfl rfl (q_pure (p_cut_h rfl rfl Try.underlying31 sz_5 (by omega) (by omega) (seg_length (xs := u.b) (by omega)).symm rfl rfl)) ?_
                                            refine GQ.stepG (s := 131) rfl rfl rfl (q_mem (m_str (i := 2) rfl rfl Try.underlying31 Try.underlying5 Try.underlying9)) ?_
                                            refine GQ.stepG (s := 131) rfl rfl rfl (q_pure (p_seqT rfl rfl (by rw [hc.b, laid_before hfit]))) ?_
                                            refine GQ.step rfl (q_pure (p_pick_true rfl rfl)) ?_
                                            refine GQ.step rfl (q_pure (p_move rfl)) ?_
                                            refine GQ.stepG (s := 142) rfl rfl rfl (q_pure (p_move rfl)) ?_
                                            refine GQ.stepG (s := 142) rfl rfl rfl (q_pure (p_move rfl)) ?_
                                            refine GQ.stepG (s := 142) rfl rfl rfl (q_pure (p_cut_l rfl rfl Try.underlying31 sz_5 (by omega) (by omega) (seg_length (xs := (doF u o 4611686018427387904).2.b) (Nat.le_refl _)).symm rfl rfl)) ?_
                                            refine GQ.stepG (s := 142) rfl rfl rfl (q_mem (m_str (i := 1) rfl rfl Try.underlying31 Try.underlying5 Try.underlying9)) ?_
                                            refine GQ.stepG (s := 142) rfl rfl rfl (q_pure (p_move rfl)) ?_
                                            refine GQ.stepG (s := 142) rfl rfl rfl (q_pure (p_move rfl)) ?_
                                            refine GQ.stepG (s := 142) rfl rfl rfl (q_pure (p_cut_l rfl rfl Try.underlying31 sz_5 (by omega) (by omega) (seg_length (xs := u.b) (Nat.le_refl _)).symm rfl rfl)) ?_
                                            refine GQ.stepG (s := 142) rfl rfl rfl (q_mem (m_str (i := 0) rfl rfl Try.underlying31 Try.underlying5 Try.underlying9)) ?_
                                            refine GQ.stepG (s := 142) rfl rfl rfl (q_pure (p_seqT rfl rfl (by rw [hc.b, laid_behind hfit (by omega)]))) ?_
                                            refine GQ.step rfl (q_pure (p_pick_true rfl rfl)) ?_
                                            refine GQ.step rfl (q_pure (p_assign rfl)) ?_
                                            refine GQ.nil (?_ : GC _ _ _ _)
                                            refine GC.ret ?_
                                            refine fun a w h => Fin.back (rs := [.tmp 6]) (vs := [_]) (is := []) (js := []) rfl ⟨rfl, trivial⟩ rfl rfl ?_ h
                                            clear h
                                            first | exact ⟨rfl, rfl, rfl⟩ | (refine ⟨congrArg Value.bool (decide_eq_true ?_), rfl, rfl⟩; rw [doF_keep (fun g => by first | exact absurd g.1 (by assumption) | exact absurd g.2.1 (by assumption) | exact absurd g.2.2 (by assumption))]))
                                       · try simp only [decide_eq_true_eq, decide_eq_false_iff_not, Bool.not_eq_true', Bool.not_eq_false', Bool.not_true, Bool.not_false, Bool.not_not, ne_eq, Decidable.not_not, Int.not_lt, Int.not_le, gt_iff_lt, ge_iff_le, bool_true_eq_, bool_false_eq_, str_eq] at h9
                                         first
                                         | (exfalso; first | omega | (simp at h9; done))
                                         | (skip
                                            refine GC.skip (?_ : GC _ _ _ _)
                                            refine GC.seq' ?_
                                            have ew : wantOf u.sz o = o.data := by unfold wantOf; rw [if_neg (by omega)]
                                            refine GC.regionQ wide_ (by kernel_rfl) ?_
                                            refine GQ.step rfl (q_pure (p_fieldAddr fo_42_1 rfl)) ?_
                                            refine GQ.step rfl (q_mem (m_load (i := 6) rfl rfl ag_3 rfl)) ?_
                                            refine GQ.step rfl (q_pure (p_fieldAddr fo_23_1 rfl)) ?_
                                            refine GQ.step rfl (q_mem (m_load (i := 5) rfl rfl ag_3 rfl)) ?_
                                            refine GQ.step rfl (q_pure (p_mul rfl rfl (w64 (by omega) (by omega)))) ?_
                                            refine GQ.step rfl (q_pure (p_fieldAddr fo_42_1 rfl)) ?_
                                            refine GQ.step rfl (q_mem (m_load (i := 6) rfl rfl ag_3 rfl)) ?_
                                            refine GQ.step rfl (q_pure (p_move rfl)) ?_
                                            refine GQ.step rfl (q_pure (p_add rfl rfl (w64 (by omega) (by omega)))) ?_
                                            refine GQ.step rfl (q_pure (p_fieldAddr fo_23_1 rfl)) ?_
                                            refine GQ.step rfl (q_mem (m_load (i := 5) rfl rfl ag_3 rfl)) ?_
                                            refine GQ.step rfl (q_pure (p_mul rfl rfl (w64 (by omega) (by omega)))) ?_
                                            refine GQ.step rfl (q_pure (p_assign rfl)) ?_
                                            refine GQ.step rfl (q_pure (p_assign rfl)) ?_
                                            refine GQ.nil (?_ : GC _ _ _ _)
                                            refine GC.seq' ?_
                                            refine GC.know (q := Pers.row Kd.u8 (slA A67 1 0 cp67) (seg (doF u o 4611686018427387904).2.b 0 (o.at_ * u.sz).toNat)) (fun w S hp => row_sub (kd := Kd.u8) (hp _ (nthO_mem (i := 1) rfl)) (by first | exact Nat.le_refl _ | omega) (by omega)) ?_
                                            refine GC.know (q := Pers.row Kd.u8 (slA A59 1 0 cp59) (seg u.b 0 (o.at_ * u.sz).toNat)) (fun w S hp => row_sub (kd := Kd.u8) (hp _ (nthO_mem (i := 4) rfl)) (by first | exact Nat.le_refl _ | omega) (by omega)) ?_
                                            refine GC.know (q := Pers.row Kd.u8 (slA A67 1 ((o.at_ + o.n) * u.sz).toNat cp67) (seg (doF u o 4611686018427387904).2.b ((o.at_ + o.n) * u.sz).toNat ((doF u o 4611686018427387904).2.b).length)) (fun w S hp => row_sub (kd := Kd.u8) (hp _ (nthO_mem (i := 3) rfl)) (by first | exact Nat.le_refl _ | omega) (by omega)) ?_
                                            refine GC.know (q := Pers.row Kd.u8 (slA A59 1 ((o.at_ + o.n) * u.sz).toNat cp59) (seg u.b ((o.at_ + o.n) * u.sz).toNat (u.b).length)) (fun w S hp => row_sub (kd := Kd.u8) (hp _ (nthO_mem (i := 6) rfl)) (by first | exact Nat.le_refl _ | omega) (by omega)) ?_
                                            refine GC.regionQ wide_ (by kernel_rfl) ?_
                                            refine GQ.step rfl (q_pure (p_move rfl)) ?_
                                            refine GQ.step rfl (q_pure (p_eql rfl rfl)) ?_
                                            refine GQ.step rfl (q_pure (p_move rfl)) ?_
                                            refine GQ.stepG (s := 123) rfl rfl rfl (q_pure (p_fieldAddr fo_49_1 rfl)) ?_
                                            refine GQ.stepG (s := 123) rfl rfl rfl (q_mem (m_load (i := 0) rfl rfl ag_31 rfl)) ?_
                                            refine GQ.stepG (s := 123) rfl rfl rfl (q_mem (m_str (i := 4) rfl rfl Try.underlying31 Try.underlying5 Try.underlying9)) ?_
                                            refine GQ.stepG (s := 123) rfl rfl rfl (q_pure (p_move rfl)) ?_
                                            refine GQ.stepG (s := 123) rfl rfl rfl (q_mem (m_str (i := 9) rfl rfl Try.underlying31 Try.underlying5 Try.underlying9)) ?_
                                            refine GQ.stepG (s := 123) rfl rfl rfl (q_pure (p_seqT rfl rfl (by rw [ew]))) ?_
                                            refine GQ.step rfl (q_pure (p_pick_true rfl rfl)) ?_
                                            refine GQ.step rfl (q_pure (p_move rfl)) ?_
                                            refine GQ.stepG (s := 131) rfl rfl rfl (q_pure (p_move rfl)) ?_
                                            refine GQ.stepG (s := 131) rfl rfl rfl (q_pure (p_move rfl)) ?_
                                            refine GQ.stepG (s := 131) rfl rfl rfl (q_pure (p_cut_h rfl rfl Try.underlying31 sz_5 (by omega) (by omega) (seg_length (xs := (doF u o 4611686018427387904).2.b) (by omega)).symm rfl rfl)) ?_
                                            refine GQ.stepG (s := 131) rfl rfl rfl (q_mem (m_str (i := 3) rfl rfl Try.underlying31 Try.underlying5 Try.underlying9)) ?_
                                            refine GQ.stepG (s := 131) rfl rfl rfl (q_pure (p_move rfl)) ?_
                                            refine GQ.stepG (s := 131) rfl rfl rfl (q_pure (p_move rfl)) ?_
                                            refine GQ.stepG (s := 131) rfl rfl rfl (q_pure (p_cut_h rfl rfl Try.underlying31 sz_5 (by omega) (by omega) (seg_length (xs := u.b) (by omega)).symm rfl rfl)) ?_
                                            refine GQ.stepG (s := 131) rfl rfl rfl (q_mem (m_str (i := 2) rfl rfl Try.underlying31 Try.underlying5 Try.underlying9)) ?_
                                            refine GQ.stepG (s := 131) rfl rfl rfl (q_pure (p_seqT rfl rfl (by rw [hc.b, laid_before hfit]))) ?_
                                            refine GQ.step rfl (q_pure (p_pick_true rfl rfl)) ?_
                                            refine GQ.step rfl (q_pure (p_move rfl)) ?_
                                            refine GQ.stepG (s := 142) rfl rfl rfl (q_pure (p_move rfl)) ?_
                                            refine GQ.stepG (s := 142) rfl rfl rfl (q_pure (p_move rfl)) ?_
                                            refine GQ.stepG (s := 142) rfl rfl rfl (q_pure (p_cut_l rfl rfl Try.underlying31 sz_5 (by omega) (by omega) (seg_length (xs := (doF u o 4611686018427387904).2.b) (Nat.le_refl _)).symm rfl rfl)) ?_
                                            refine GQ.stepG (s := 142) rfl rfl rfl (q_mem (m_str (i := 1) rfl rfl Try.underlying31 Try.underlying5 Try.underlying9)) ?_
                                            refine GQ.stepG (s := 142) rfl rfl rfl (q_pure (p_move rfl)) ?_
                                            refine GQ.stepG (s := 142) rfl rfl rfl (q_pure (p_move rfl)) ?_
                                            refine GQ.stepG (s := 142) rfl rfl rfl (q_pure (p_cut_l rfl rfl Try.underlying31 sz_5 (by omega) (by omega) (seg_length (xs := u.b) (Nat.le_refl _)).symm rfl rfl)) ?_
                                            refine GQ.stepG (s := 142) rfl rfl rfl (q_mem (m_str (i := 0) rfl rfl Try.underlying31 Try.underlying5 Try.underlying9)) ?_
                                            refine GQ.stepG (s := 142) rfl rfl rfl (q_pure (p_seqT rfl rfl (by rw [hc.b, laid_behind hfit (by omega)]))) ?_
                                            refine GQ.step rfl (q_pure (p_pick_true rfl rfl)) ?_
                                            refine GQ.step rfl (q_pure (p_assign rfl)) ?_
                                            refine GQ.nil (?_ : GC _ _ _ _)
                                            refine GC.ret ?_
                                            refine fun a w h => Fin.back (rs := [.tmp 6]) (vs := [_]) (is := []) (js := []) rfl ⟨rfl, trivial⟩ rfl rfl ?_ h
                                            clear h
                                            first | exact ⟨rfl, rfl, rfl⟩ | (refine ⟨congrArg Value.bool (decide_eq_true ?_), rfl, rfl⟩; rw [doF_keep (fun g => by first | exact absurd g.1 (by assumption) | exact absurd g.2.1 (by assumption) | exact absurd g.2.2 (by assumption))]))))))))
         · try simp only [decide_eq_true_eq, decide_eq_false_iff_not, Bool.not_eq_true', Bool.not_eq_false', Bool.not_true, Bool.not_false, Bool.not_not, ne_eq, Decidable.not_not, Int.not_lt, Int.not_le, gt_iff_lt, ge_iff_le, bool_true_eq_, bool_false_eq_, str_eq] at h2
           first
           | (exfalso; first | omega | (simp at h2; done))
           | (skip
              refine GL.pass (s := 45) rfl rfl rfl ?_
              refine GL.pass (s := 45) rfl rfl rfl ?_
              refine GL.pure rfl (p_pick_false rfl rfl) ?_
              refine GL.nil (?_ : GC _ _ _ _)
              refine GC.cond_false rfl ?_
              refine GC.exit (?_ : GC _ _ _ _)
              refine GC.seq' ?_
              refine GC.region ?_
              subst hsz
              subst hbl
              have hu2 := doF_ok hu o 4611686018427387904
              refine GL.pure rfl (p_move rfl) ?_
              refine GL.step rfl (t_call rfl fn_13 rfl (is := [2, 2, 2]) (js := []) rfl rfl (by exact bytes_ct _ _ _ u hu)) (GL.ret ?_)
              rintro _ _ _ ⟨A59, cp59, l59, k59, rfl, rfl, rfl⟩
              refine GL.pure rfl (p_assign rfl) ?_
              refine GL.nil (?_ : GC _ _ _ _)
              refine GC.seq' ?_
              refine GC.region ?_
              refine GL.freezeB (i := 0) rfl ?_
              refine GL.pure rfl (p_move rfl) ?_
              refine GL.step rfl (t_mem rfl (m_loadN (i := 4) rfl rfl ag_42 (vs := [_, _, _, _, _]) sz_42 ⟨rfl, rfl, rfl, rfl, rfl, trivial⟩)) ?_
              refine GL.step rfl (t_call rfl fn_19 rfl (is := [0, 0, 0]) (js := [2, 3]) rfl rfl (by exact do_ct _ _ _ u o _ _ _ _ _ hu)) (GL.ret ?_)
              rintro _ _ _ ⟨A63, cp63, l63, k63, rfl, rfl, rfl⟩
              refine GL.pure rfl (p_move rfl) ?_
              refine GL.pure rfl (p_extract rfl rfl) ?_
              refine GL.pure rfl (p_extract rfl rfl) ?_
              refine GL.step rfl (t_alloc rfl ze_49) (GL.ex fun b_t12 => ?_)
              refine GL.step rfl (t_storeN (i := 0) rfl rfl rfl sz_49 rfl rfl rfl) ?_
              refine GL.pure rfl (p_assign rfl) ?_
              refine GL.nil (?_ : GC _ _ _ _)
              refine GC.seq' ?_
              refine GC.region ?_
              refine GL.pure rfl (p_move rfl) ?_
              refine GL.step rfl (t_call rfl fn_13 rfl (is := [1, 1, 1]) (js := []) rfl rfl (by exact bytes_ct _ _ _ (doF u o 4611686018427387904).2 hu2)) (GL.ret ?_)
              rintro _ _ _ ⟨A67, cp67, l67, k67, rfl, rfl, rfl⟩
              refine GL.pure rfl (p_assign rfl) ?_
              refine GL.nil (?_ : GC _ _ _ _)
              refine GC.seq' ?_
              refine GC.seq' ?_
              refine GC.region ?_
              refine GL.freezeB (i := 0) rfl ?_
              refine GL.pure rfl (p_move rfl) ?_
              refine GL.pure rfl (p_neq rfl rfl) ?_
              refine GL.pure rfl (p_move rfl) ?_
              refine GL.split (i := 70) rfl (fun h10 => ?_) (fun h10 => ?_)
              · try simp only [decide_eq_true_eq, decide_eq_false_iff_not, Bool.not_eq_true', Bool.not_eq_false', Bool.not_true, Bool.not_false, Bool.not_not, ne_eq, Decidable.not_not, Int.not_lt, Int.not_le, gt_iff_lt, ge_iff_le, bool_true_eq_, bool_false_eq_, str_eq] at h10
                first
                | (exfalso; first | omega | (simp at h10; done))
                | (skip
                   refine GL.pass (s := 70) rfl rfl rfl ?_
                   refine GL.pass (s := 70) rfl rfl rfl ?_
                   refine GL.pass (s := 70) rfl rfl rfl ?_
                   refine GL.pure rfl (p_pick_true rfl rfl) ?_
                   refine GL.pure rfl (p_move rfl) ?_
                   refine GL.pass (s := 75) rfl rfl rfl ?_
                   refine GL.pass (s := 75) rfl rfl rfl ?_
                   refine GL.pass (s := 75) rfl rfl rfl ?_
                   refine GL.pure rfl (p_pick_true rfl rfl) ?_
                   refine GL.nil (?_ : GC _ _ _ _)
                   refine GC.cond_true rfl ?_
                   refine GC.seq' ?_
                   refine GC.region ?_
                   refine GL.pure rfl (p_move rfl) ?_
                   refine GL.step rfl (t_mem rfl (m_str (i := 2) rfl rfl Try.underlying31 Try.underlying5 Try.underlying9)) ?_
                   refine GL.pure rfl (p_move rfl) ?_
                   refine GL.step rfl (t_mem rfl (m_str (i := 0) rfl rfl Try.underlying31 Try.underlying5 Try.underlying9)) ?_
                   refine GL.pure rfl (p_seql rfl rfl) ?_
                   refine GL.pure rfl (p_assign rfl) ?_
                   refine GL.nil (?_ : GC _ _ _ _)
                   refine GC.ret ?_
                   refine fun a w h => Fin.back (rs := [.tmp 6]) (vs := [_]) (is := []) (js := []) rfl ⟨rfl, trivial⟩ rfl rfl ?_ h
                   clear h
                   first | exact ⟨rfl, rfl, rfl⟩ | (refine ⟨congrArg Value.bool (decide_eq_true ?_), rfl, rfl⟩; rw [doF_keep (fun g => by first | exact absurd g.1 (by assumption) | exact absurd g.2.1 (by assumption) | exact absurd g.2.2 (by assumption))]))
              · try simp only [decide_eq_true_eq, decide_eq_false_iff_not, Bool.not_eq_true', Bool.not_eq_false', Bool.not_true, Bool.not_false, Bool.not_not, ne_eq, Decidable.not_not, Int.not_lt, Int.not_le, gt_iff_lt, ge_iff_le, bool_true_eq_, bool_false_eq_, str_eq] at h10
                first
                | (exfalso; first | omega | (simp at h10; done))
                | (skip
                   refine GL.pureG (s := 70) rfl rfl rfl (p_fieldAddr fo_49_0 rfl) ?_
                   refine GL.stepG rfl (s := 70) rfl rfl (t_mem rfl (m_load (i := 3) rfl rfl ag_47 rfl)) ?_
                   refine GL.pureG (s := 70) rfl rfl rfl (p_neq rfl rfl) ?_
                   refine GL.pure rfl (p_pick_false rfl rfl) ?_
                   refine GL.pure rfl (p_move rfl) ?_
                   refine GL.split (i := 75) rfl (fun h11 => ?_) (fun h11 => ?_)
                   · try simp only [decide_eq_true_eq, decide_eq_false_iff_not, Bool.not_eq_true', Bool.not_eq_false', Bool.not_true, Bool.not_false, Bool.not_not, ne_eq, Decidable.not_not, Int.not_lt, Int.not_le, gt_iff_lt, ge_iff_le, bool_true_eq_, bool_false_eq_, str_eq] at h11
                     first
                     | (exfalso; first | omega | (simp at h11; done))
                     | (skip
                        refine GL.pass (s := 75) rfl rfl rfl ?_
                        refine GL.pass (s := 75) rfl rfl rfl ?_
                        refine GL.pass (s := 75) rfl rfl rfl ?_
                        refine GL.pure rfl (p_pick_true rfl rfl) ?_
                        refine GL.nil (?_ : GC _ _ _ _)
                        refine GC.cond_true rfl ?_
                        refine GC.seq' ?_
                        refine GC.region ?_
                        refine GL.pure rfl (p_move rfl) ?_
                        refine GL.step rfl (t_mem rfl (m_str (i := 2) rfl rfl Try.underlying31 Try.underlying5 Try.underlying9)) ?_
                        refine GL.pure rfl (p_move rfl) ?_
                        refine GL.step rfl (t_mem rfl (m_str (i := 0) rfl rfl Try.underlying31 Try.underlying5 Try.underlying9)) ?_
                        refine GL.pure rfl (p_seql rfl rfl) ?_
                        refine GL.pure rfl (p_assign rfl) ?_
                        refine GL.nil (?_ : GC _ _ _ _)
                        refine GC.ret ?_
                        refine fun a w h => Fin.back (rs := [.tmp 6]) (vs := [_]) (is := []) (js := []) rfl ⟨rfl, trivial⟩ rfl rfl ?_ h
                        clear h
                        first | exact ⟨rfl, rfl, rfl⟩ | (refine ⟨congrArg Value.bool (decide_eq_true ?_), rfl, rfl⟩; rw [doF_keep (fun g => by first | exact absurd g.1 (by assumption) | exact absurd g.2.1 (by assumption) | exact absurd g.2.2 (by assumption))]))
                   · try simp only [decide_eq_true_eq, decide_eq_false_iff_not, Bool.not_eq_true', Bool.not_eq_false', Bool.not_true, Bool.not_false, Bool.not_not, ne_eq, Decidable.not_not, Int.not_lt, Int.not_le, gt_iff_lt, ge_iff_le, bool_true_eq_, bool_false_eq_, str_eq] at h11
                     first
                     | (exfalso; first | omega | (simp at h11; done))
                     | (skip
                        refine GL.stepG rfl (s := 75) rfl rfl (t_mem rfl (m_loadN (i := 5) rfl rfl ag_42 (vs := [_, _, _, _, _]) sz_42 ⟨rfl, rfl, rfl, rfl, rfl, trivial⟩)) ?_
                        refine GL.stepG rfl (s := 75) rfl rfl (t_call rfl fn_20 rfl (is := []) (js := []) rfl rfl (by exact chgR_ct _ _ _ _ _ _ _ _ _)) (GL.ret ?_)
                        rintro _ _ _ ⟨rfl, rfl, rfl⟩
                        refine GL.pureG (s := 75) rfl rfl rfl (p_not rfl) ?_
                        refine GL.pure rfl (p_pick_false rfl rfl) ?_
                        refine GL.nil (?_ : GC _ _ _ _)
                        refine GC.cond rfl (fun h12 => ?_) (fun h12 => ?_)
                        · try simp only [decide_eq_true_eq, decide_eq_false_iff_not, Bool.not_eq_true', Bool.not_eq_false', Bool.not_true, Bool.not_false, Bool.not_not, ne_eq, Decidable.not_not, Int.not_lt, Int.not_le, gt_iff_lt, ge_iff_le, bool_true_eq_, bool_false_eq_, str_eq] at h12
                          first
                          | (exfalso; first | omega | (simp at h12; done))
                          | (skip
                             refine GC.seq' ?_
                             refine GC.region ?_
                             refine GL.pure rfl (p_move rfl) ?_
                             refine GL.step rfl (t_mem rfl (m_str (i := 2) rfl rfl Try.underlying31 Try.underlying5 Try.underlying9)) ?_
                             refine GL.pure rfl (p_move rfl) ?_
                             refine GL.step rfl (t_mem rfl (m_str (i := 0) rfl rfl Try.underlying31 Try.underlying5 Try.underlying9)) ?_
                             refine GL.pure rfl (p_seql rfl rfl) ?_
                             refine GL.pure rfl (p_assign rfl) ?_
                             refine GL.nil (?_ : GC _ _ _ _)
                             refine GC.ret ?_
                             refine fun a w h => Fin.back (rs := [.tmp 6]) (vs := [_]) (is := []) (js := []) rfl ⟨rfl, trivial⟩ rfl rfl ?_ h
                             clear h
                             first | exact ⟨rfl, rfl, rfl⟩ | (refine ⟨congrArg Value.bool (decide_eq_true ?_), rfl, rfl⟩; rw [doF_keep (fun g => by first | exact absurd g.1 (by assumption) | exact absurd g.2.1 (by assumption) | exact absurd g.2.2 (by assumption))]))
                        · try simp only [decide_eq_true_eq, decide_eq_false_iff_not, Bool.not_eq_true', Bool.not_eq_false', Bool.not_true, Bool.not_false, Bool.not_not, ne_eq, Decidable.not_not, Int.not_lt, Int.not_le, gt_iff_lt, ge_iff_le, bool_true_eq_, bool_false_eq_, str_eq] at h12
                          first
                          | (exfalso; first | omega | (simp at h12; done))
                          | (skip
                             refine GC.skip (?_ : GC _ _ _ _)
                             refine GC.seq' ?_
                             refine GC.region ?_
                             have hc := doF_chg hu (by assumption) (by assumption) (by assumption)
                             have c1 := hc.at0
                             have c2 := hc.at1
                             have c3 := hc.n0
                             have c4 := hc.n1
                             have c5 := hc.fit
                             have c6 := hc.len
                             have hsh := hu.shp
                             simp only [shapeOk] at hsh
                             have hB := atB hu.shp c1 c3 c5
                             have hlb := hu.lb
                             have eT : (o.at_ + spanOf o) * u.sz = o.at_ * u.sz + spanOf o * u.sz := Int.add_mul _ _ _
                             have hfit : (o.at_ * u.sz).toNat + (wantOf u.sz o).length ≤ u.b.length := by omega
                             have hnl : (doF u o 4611686018427387904).2.b.length = u.b.length := by rw [hc.b, laid_length hfit]
                             refine GL.pure rfl (p_fieldAddr fo_42_2 rfl) ?_
                             refine GL.step rfl (t_mem rfl (m_load (i := 5) rfl rfl ag_3 rfl)) ?_
                             refine GL.pure rfl (p_assign rfl) ?_
                             refine GL.nil (?_ : GC _ _ _ _)
                             refine GC.seq' ?_
                             refine GC.seq' ?_
                             refine GC.region ?_
                             refine GL.pure rfl (p_fieldAddr fo_42_0 rfl) ?_
                             refine GL.step rfl (t_mem rfl (m_load (i := 5) rfl rfl ag_40 rfl)) ?_
                             refine GL.pure rfl (p_eql rfl rfl) ?_
                             refine GL.nil (?_ : GC _ _ _ _)
                             refine GC.cond rfl (fun h13 => ?_) (fun h13 => ?_)
                             · try simp only [decide_eq_true_eq, decide_eq_false_iff_not, Bool.not_eq_true', Bool.not_eq_false', Bool.not_true, Bool.not_false, Bool.not_not, ne_eq, Decidable.not_not, Int.not_lt, Int.not_le, gt_iff_lt, ge_iff_le, bool_true_eq_, bool_false_eq_, str_eq] at h13
                               first
                               | (exfalso; first | omega | (simp at h13; done))
                               | (skip
                                  refine GC.region ?_
                                  refine GL.pure rfl (p_assign rfl) ?_
                                  refine GL.nil (?_ : GC _ _ _ _)
                                  refine GC.seq' ?_
                                  refine GC.region ?_
                                  have es : spanOf o = 1 := by unfold spanOf; rw [if_pos (by assumption)]
                                  rw [es] at c3 c4 c5 c6 hB eT
                                  refine GL.pure rfl (p_move rfl) ?_
                                  refine GL.pure rfl (p_fieldAddr fo_42_1 rfl) ?_
                                  refine GL.step rfl (t_mem rfl (m_load (i := 5) rfl rfl ag_3 rfl)) ?_
                                  refine GL.pure rfl (p_move rfl) ?_
                                  refine GL.pure rfl (p_build ze_42 of_42 rfl rfl) ?_
                                  refine GL.step rfl (t_call rfl fn_19 rfl (is := [0, 0, 0]) (js := [6, 6]) rfl rfl (by exact do_eq _ _ _ _ _ none 0 none 0 _ hu2 _ _ _ (read_at hu hc es))) (GL.ret ?_)
                                  rintro _ _ _ ⟨A96, cp96, l96, k96, rfl, rfl, rfl⟩
                                  refine GL.pure rfl (p_move rfl) ?_
                                  refine GL.pure rfl (p_extract rfl rfl) ?_
                                  refine GL.pure rfl (p_extract rfl rfl) ?_
                                  refine GL.step rfl (t_alloc rfl ze_49) (GL.ex fun b_t16 => ?_)
                                  refine GL.step rfl (t_storeN (i := 0) rfl rfl rfl sz_49 rfl rfl rfl) ?_
                                  refine GL.pure rfl (p_assign rfl) ?_
                                  refine GL.nil (?_ : GC _ _ _ _)
                                  refine GC.seq' ?_
                                  refine GC.region ?_
                                  refine GL.pure rfl (p_fieldAddr fo_42_3 rfl) ?_
                                  refine GL.step rfl (t_mem rfl (m_load (i := 6) rfl rfl ag_31 rfl)) ?_
                                  refine GL.pure rfl (p_assign rfl) ?_
                                  refine GL.nil (?_ : GC _ _ _ _)
                                  refine GC.seq' ?_
                                  refine GC.seq' ?_
                                  refine GC.region ?_
                                  refine GL.pure rfl (p_fieldAddr fo_42_0 rfl) ?_
                                  refine GL.step rfl (t_mem rfl (m_load (i := 6) rfl rfl ag_40 rfl)) ?_
                                  refine GL.pure rfl (p_eql rfl rfl) ?_
                                  refine GL.nil (?_ : GC _ _ _ _)
                                  refine GC.cond rfl (fun h14 => ?_) (fun h14 => ?_)
                                  · try simp only [decide_eq_true_eq, decide_eq_false_iff_not, Bool.not_eq_true', Bool.not_eq_false', Bool.not_true, Bool.not_false, Bool.not_not, ne_eq, Decidable.not_not, Int.not_lt, Int.not_le, gt_iff_lt, ge_iff_le, bool_true_eq_, bool_false_eq_, str_eq] at h14
                                    first
                                    | (exfalso; first | omega | (simp at h14; done))
                                    | (skip
                                       refine GC.region ?_
                                       refine GL.pure rfl (p_move rfl) ?_
                                       refine GL.pure rfl (p_fieldAddr fo_23_1 rfl) ?_
                                       refine GL.step rfl (t_mem rfl (m_load (i := 5) rfl rfl ag_3 rfl)) ?_
                                       refine GL.pure rfl (p_mul rfl rfl (w64 (by omega) (by omega))) ?_
                                       refine GL.step rfl (t_make rfl el_31 rfl rfl (by omega) (by omega)) (GL.ex fun b_t108 => ?_)
                                       rw [reps_u8]
                                       obtain ⟨z, hz⟩ : ∃ z, z = List.replicate (o.n * u.sz).toNat (0 : UInt8) := ⟨_, rfl⟩
                                       rw [← hz, show (o.n * u.sz).toNat = z.length by simp [hz]]
                                       refine GL.freezeC (h1 := fun _ => rfl) (i := 0) rfl ?_
                                       refine GL.pure rfl (p_assign rfl) ?_
                                       refine GL.nil (?_ : GC _ _ _ _)
                                       refine GC.seq' ?_
                                       skip
                                       refine GC.regionQ wide_ (by kernel_rfl) ?_
                                       refine GQ.step rfl (q_pure (p_fieldAddr fo_42_1 rfl)) ?_
                                       refine GQ.step rfl (q_mem (m_load (i := 6) rfl rfl ag_3 rfl)) ?_
                                       refine GQ.step rfl (q_pure (p_fieldAddr fo_23_1 rfl)) ?_
                                       refine GQ.step rfl (q_mem (m_load (i := 5) rfl rfl ag_3 rfl)) ?_
                                       refine GQ.step rfl (q_pure (p_mul rfl rfl (w64 (by omega) (by omega)))) ?_
                                       refine GQ.step rfl (q_pure (p_fieldAddr fo_42_1 rfl)) ?_
                                       refine GQ.step rfl (q_mem (m_load (i := 6) rfl rfl ag_3 rfl)) ?_
                                       refine GQ.step rfl (q_pure (p_move rfl)) ?_
                                       refine GQ.step rfl (q_pure (p_add rfl rfl (w64 (by omega) (by omega)))) ?_
                                       refine GQ.step rfl (q_pure (p_fieldAddr fo_23_1 rfl)) ?_
                                       refine GQ.step rfl (q_mem (m_load (i := 5) rfl rfl ag_3 rfl)) ?_
                                       refine GQ.step rfl (q_pure (p_mul rfl rfl (w64 (by omega) (by omega)))) ?_
                                       refine GQ.step rfl (q_pure (p_assign rfl)) ?_
                                       refine GQ.step rfl (q_pure (p_assign rfl)) ?_
                                       refine GQ.nil (?_ : GC _ _ _ _)
                                       refine GC.seq' ?_
                                       refine GC.know (q := Pers.row Kd.u8 (slA A67 1 0 cp67) (seg (doF u o 4611686018427387904).2.b 0 (o.at_ * u.sz).toNat)) (fun w S hp => row_sub (kd := Kd.u8) (hp _ (nthO_mem (i := 2) rfl)) (by first | exact Nat.le_refl _ | omega) (by omega)) ?_
                                       refine GC.know (q := Pers.row Kd.u8 (slA A59 1 0 cp59) (seg u.b 0 (o.at_ * u.sz).toNat)) (fun w S hp => row_sub (kd := Kd.u8) (hp _ (nthO_mem (i := 5) rfl)) (by first | exact Nat.le_refl _ | omega) (by omega)) ?_
                                       refine GC.know (q := Pers.row Kd.u8 (slA A67 1 ((o.at_ + 1) * u.sz).toNat cp67) (seg (doF u o 4611686018427387904).2.b ((o.at_ + 1) * u.sz).toNat ((doF u o 4611686018427387904).2.b).length)) (fun w S hp => row_sub (kd := Kd.u8) (hp _ (nthO_mem (i := 4) rfl)) (by first | exact Nat.le_refl _ | omega) (by omega)) ?_
                                       refine GC.know (q := Pers.row Kd.u8 (slA A59 1 ((o.at_ + 1) * u.sz).toNat cp59) (seg u.b ((o.at_ + 1) * u.sz).toNat (u.b).length)) (fun w S hp => row_sub (kd := Kd.u8) (hp _ (nthO_mem (i := 7) rfl)) (by first | exact Nat.le_refl _ | omega) (by omega)) ?_
                                       refine GC.regionQ wide_ (by kernel_rfl) ?_
                                       refine GQ.step rfl (q_pure (p_move rfl)) ?_
                                       refine GQ.step rfl (q_pure (p_eql rfl rfl)) ?_
                                       refine GQ.step rfl (q_pure (p_move rfl)) ?_
                                       refine GQ.stepG (s := 123) rfl rfl rfl (q_pure (p_fieldAddr fo_49_1 rfl)) ?_
                                       refine GQ.stepG (s := 123) rfl rfl rfl (q_mem (m_load (i := 0) rfl rfl ag_31 rfl)) ?_
                                       refine GQ.stepG (s := 123) rfl rfl rfl (q_mem (m_str (i := 5) rfl rfl Try.underlying31 Try.underlying5 Try.underlying9)) ?_
                                       refine GQ.stepG (s := 123) rfl rfl rfl (q_pure (p_move rfl)) ?_
                                       refine GQ.stepG (s := 123) rfl rfl rfl (q_mem (m_str (i := 4) rfl rfl Try.underlying31 Try.underlying5 Try.underlying9)) ?_
                                       refine GQ.stepG (s := 123) rfl rfl rfl (q_pure (p_seqT rfl rfl (by rw [ew]))) ?_
                                       refine GQ.step rfl (q_pure (p_pick_true rfl rfl)) ?_
                                       refine GQ.step rfl (q_pure (p_move rfl)) ?_
                                       refine GQ.stepG (s := 131) rfl rfl rfl (q_pure (p_move rfl)) ?_
                                       refine GQ.stepG (s := 131) rfl rfl rfl (q_pure (p_move rfl)) ?_
                                       refine GQ.stepG (s := 131) rfl rfl rfl (q_pure (p_cut_h rfl rfl Try.underlying31 sz_5 (by omega) (by omega) (seg_length (xs := (doF u o 4611686018427387904).2.b) (by omega)).symm rfl rfl)) ?_
                                       refine GQ.stepG (s := 131) rfl rfl rfl (q_mem (m_str (i := 3) rfl rfl Try.underlying31 Try.underlying5 Try.underlying9)) ?_
                                       refine GQ.stepG (s := 131) rfl rfl rfl (q_pure (p_move rfl)) ?_
                                       refine GQ.stepG (s := 131) rfl rfl rfl (q_pure (p_move rfl)) ?_
                                       refine GQ.stepG (s := 131) rfl rfl rfl (q_pure (p_cut_h rfl rfl Try.underlying31 sz_5 (by omega) (by omega) (seg_length (xs := u.b) (by omega)).symm rfl rfl)) ?_
                                       refine GQ.stepG (s := 131) rfl rfl rfl (q_mem (m_str (i := 2) rfl rfl Try.underlying31 Try.underlying5 Try.underlying9)) ?_
                                       refine GQ.stepG (s := 131) rfl rfl rfl (q_pure (p_seqT rfl rfl (by rw [hc.b, laid_before hfit]))) ?_
                                       refine GQ.step rfl (q_pure (p_pick_true rfl rfl)) ?_
                                       refine GQ.step rfl (q_pure (p_move rfl)) ?_
                                       refine GQ.stepG (s := 142) rfl rfl rfl (q_pure (p_move rfl)) ?_
                                       refine GQ.stepG (s := 142) rfl rfl rfl (q_pure (p_move rfl)) ?_
                                       refine GQ.stepG (s := 142) rfl rfl rfl (q_pure (p_cut_l rfl rfl Try.underlying31 sz_5 (by omega) (by omega) (seg_length (xs := (doF u o 4611686018427387904).2.b) (Nat.le_refl _)).symm rfl rfl)) ?_
                                       refine GQ.stepG (s := 142) rfl rfl rfl (q_mem (m_str (i := 1) rfl rfl Try.underlying31 Try.underlying5 Try.underlying9)) ?_
                                       refine GQ.stepG (s := 142) rfl rfl rfl (q_pure (p_move rfl)) ?_
                                       refine GQ.stepG (s := 142) rfl rfl rfl (q_pure (p_move rfl)) ?_
                                       refine GQ.stepG (s := 142) rfl rfl rfl (q_pure (p_cut_l rfl rfl Try.underlying31 sz_5 (by omega) (by omega) (seg_length (xs := u.b) (Nat.le_refl _)).symm rfl rfl)) ?_
                                       refine GQ.stepG (s := 142) rfl rfl rfl (q_mem (m_str (i := 0) rfl rfl Try.underlying31 Try.underlying5 Try.underlying9)) ?_
                                       refine GQ.stepG (s := 142) rfl rfl rfl (q_pure (p_seqT rfl rfl (by rw [hc.b, laid_behind hfit (by omega)]))) ?_
                                       refine GQ.step rfl (q_pure (p_pick_true rfl rfl)) ?_
                                       refine GQ.step rfl (q_pure (p_assign rfl)) ?_
                                       refine GQ.nil (?_ : GC _ _ _ _)
                                       refine GC.ret ?_
                                       refine fun a w h => Fin.back (rs := [.tmp 6]) (vs := [_]) (is := []) (js := []) rfl ⟨rfl, trivial⟩ rfl rfl ?_ h
                                       clear h
                                       first | exact ⟨rfl, rfl, rfl⟩ | (refine ⟨congrArg Value.bool (decide_eq_true ?_), rfl, rfl⟩; rw [doF_keep (fun g => by first | exact absurd g.1 (by assumption) | exact absurd g.2.1 (by assumption) | exact absurd g.2.2 (by assumption))]))
                                  · try simp only [decide_eq_true_eq, decide_eq_false_iff_not, Bool.not_eq_true', Bool.not_eq_false', Bool.not_true, Bool.not_false, Bool.not_not, ne_eq, Decidable.not_not, Int.not_lt, Int.not_le, gt_iff_lt, ge_iff_le, bool_true_eq_, bool_false_eq_, str_eq] at h14
                                    first
                                    | (exfalso; first | omega | (simp at h14; done))
                                    | (skip
                                       refine GC.skip (?_ : GC _ _ _ _)
                                       refine GC.seq' ?_
                                       have ew : wantOf u.sz o = o.data := by unfold wantOf; rw [if_neg (by omega)]
                                       refine GC.regionQ wide_ (by kernel_rfl) ?_
                                       refine GQ.step rfl (q_pure (p_fieldAddr fo_42_1 rfl)) ?_
                                       refine GQ.step rfl (q_mem (m_load (i := 6) rfl rfl ag_3 rfl)) ?_
                                       refine GQ.step rfl (q_pure (p_fieldAddr fo_23_1 rfl)) ?_
                                       refine GQ.step rfl (q_mem (m_load (i := 5) rfl rfl ag_3 rfl)) ?_
                                       refine GQ.step rfl (q_pure (p_mul rfl rfl (w64 (by omega) (by omega)))) ?_
                                       refine GQ.step rfl (q_pure (p_fieldAddr fo_42_1 rfl)) ?_
                                       refine GQ.step rfl (q_mem (m_load (i := 6) rfl rfl ag_3 rfl)) ?_
                                       refine GQ.step rfl (q_pure (p_move rfl)) ?_
                                       refine GQ.step rfl (q_pure (p_add rfl rfl (w64 (by omega) (by omega)))) ?_
                                       refine GQ.step rfl (q_pure (p_fieldAddr fo_23_1 rfl)) ?_
                                       refine GQ.step rfl (q_mem (m_load (i := 5) rfl rfl ag_3 rfl)) ?_
                                       refine GQ.step rfl (q_pure (p_mul rfl rfl (w64 (by omega) (by omega)))) ?_
                                       refine GQ.step rfl (q_pure (p_assign rfl)) ?_
                                       refine GQ.step rfl (q_pure (p_assign rfl)) ?_
                                       refine GQ.nil (?_ : GC _ _ _ _)
                                       refine GC.seq' ?_
                                       refine GC.know (q := Pers.row Kd.u8 (slA A67 1 0 cp67) (seg (doF u o 4611686018427387904).2.b 0 (o.at_ * u.sz).toNat)) (fun w S hp => row_sub (kd := Kd.u8) (hp _ (nthO_mem (i := 1) rfl)) (by first | exact Nat.le_refl _ | omega) (by omega)) ?_
                                       refine GC.know (q := Pers.row Kd.u8 (slA A59 1 0 cp59) (seg u.b 0 (o.at_ * u.sz).toNat)) (fun w S hp => row_sub (kd := Kd.u8) (hp _ (nthO_mem (i := 4) rfl)) (by first | exact Nat.le_refl _ | omega) (by omega)) ?_
                                       refine GC.know (q := Pers.row Kd.u8 (slA A67 1 ((o.at_ + 1) * u.sz).toNat cp67) (seg (doF u o 4611686018427387904).2.b ((o.at_ + 1) * u.sz).toNat ((doF u o 4611686018427387904).2.b).length)) (fun w S hp => row_sub (kd := Kd.u8) (hp _ (nthO_mem (i := 3) rfl)) (by first | exact Nat.le_refl _ | omega) (by omega)) ?_
                                       refine GC.know (q := Pers.row Kd.u8 (slA A59 1 ((o.at_ + 1) * u.sz).toNat cp59) (seg u.b ((o.at_ + 1) * u.sz).toNat (u.b).length)) (fun w S hp => row_sub (kd := Kd.u8) (hp _ (nthO_mem (i := 6) rfl)) (by first | exact Nat.le_refl _ | omega) (by omega)) ?_
                                       refine GC.regionQ wide_ (by kernel_rfl) ?_
                                       refine GQ.step rfl (q_pure (p_move rfl)) ?_
                                       refine GQ.step rfl (q_pure (p_eql rfl rfl)) ?_
                                       refine GQ.step rfl (q_pure (p_move rfl)) ?_
                                       refine GQ.stepG (s := 123) rfl rfl rfl (q_pure (p_fieldAddr fo_49_1 rfl)) ?_
                                       refine GQ.stepG (s := 123) rfl rfl rfl (q_mem (m_load (i := 0) rfl rfl ag_31 rfl)) ?_
                                       refine GQ.stepG (s := 123) rfl rfl rfl (q_mem (m_str (i := 4) rfl rfl Try.underlying31 Try.underlying5 Try.underlying9)) ?_
                                       refine GQ.stepG (s := 123) rfl rfl rfl (q_pure (p_move rfl)) ?_
                                       refine GQ.stepG (s := 123) rfl rfl rfl (q_mem (m_str (i := 9) rfl rfl Try.underlying31 Try.underlying5 Try.underlying9)) ?_
                                       refine GQ.stepG (s := 123) rfl rfl rfl (q_pure (p_seqT rfl rfl (by rw [ew]))) ?_
                                       refine GQ.step rfl (q_pure (p_pick_true rfl rfl)) ?_
                                       refine GQ.step rfl (q_pure (p_move rfl)) ?_
                                       refine GQ.stepG (s := 131) rfl rfl rfl (q_pure (p_move rfl)) ?_
                                       refine GQ.stepG (s := 131) rfl rfl rfl (q_pure (p_move rfl)) ?_
                                       refine GQ.stepG (s := 131) rfl rfl rfl (q_pure (p_cut_h rfl rfl Try.underlying31 sz_5 (by omega) (by omega) (seg_length (xs := (doF u o 4611686018427387904).2.b) (by omega)).symm rfl rfl)) ?_
                                       refine GQ.stepG (s := 131) rfl rfl rfl (q_mem (m_str (i := 3) rfl rfl Try.underlying31 Try.underlying5 Try.underlying9)) ?_
                                       refine GQ.stepG (s := 131) rfl rfl rfl (q_pure (p_move rfl)) ?_
                                       refine GQ.stepG (s := 131) rfl rfl rfl (q_pure (p_move rfl)) ?_
                                       refine GQ.stepG (s := 131) rfl rfl rfl (q_pure (p_cut_h rfl rfl Try.underlying31 sz_5 (by omega) (by omega) (seg_length (xs := u.b) (by omega)).symm rfl rfl)) ?_
                                       refine GQ.stepG (s := 131) rfl rfl rfl (q_mem (m_str (i := 2) rfl rfl Try.underlying31 Try.underlying5 Try.underlying9)) ?_
                                       refine GQ.stepG (s := 131) rfl rfl rfl (q_pure (p_seqT rfl rfl (by rw [hc.b, laid_before hfit]))) ?_
                                       refine GQ.step rfl (q_pure (p_pick_true rfl rfl)) ?_
                                       refine GQ.step rfl (q_pure (p_move rfl)) ?_
                                       refine GQ.stepG (s := 142) rfl rfl rfl (q_pure (p_move rfl)) ?_
                                       refine GQ.stepG (s := 142) rfl rfl rfl (q_pure (p_move rfl)) ?_
                                       refine GQ.stepG (s := 142) rfl rfl rfl (q_pure (p_cut_l rfl rfl Try.underlying31 sz_5 (by omega) (by omega) (seg_length (xs := (doF u o 4611686018427387904).2.b) (Nat.le_refl _)).symm rfl rfl)) ?_
                                       refine GQ.stepG (s := 142) rfl rfl rfl (q_mem (m_str (i := 1) rfl rfl Try.underlying31 Try.underlying5 Try.underlying9)) ?_
                                       refine GQ.stepG (s := 142) rfl rfl rfl (q_pure (p_move rfl)) ?_
                                       refine GQ.stepG (s := 142) rfl rfl rfl (q_pure (p_move rfl)) ?_
                                       refine GQ.stepG (s := 142) rfl rfl rfl (q_pure (p_cut_l rfl rfl Try.underlying31 sz_5 (by omega) (by omega) (seg_length (xs := u.b) (Nat.le_refl _)).symm rfl rfl)) ?_
                                       refine GQ.stepG (s := 142) rfl rfl rfl (q_mem (m_str (i := 0) rfl rfl Try.underlying31 Try.underlying5 Try.underlying9)) ?_
                                       refine GQ.stepG (s := 142) rfl rfl rfl (q_pure (p_seqT rfl rfl (by rw [hc.b, laid_behind hfit (by omega)]))) ?_
                                       refine GQ.step rfl (q_pure (p_pick_true rfl rfl)) ?_
                                       refine GQ.step rfl (q_pure (p_assign rfl)) ?_
                                       refine GQ.nil (?_ : GC _ _ _ _)
                                       refine GC.ret ?_
                                       refine fun a w h => Fin.back (rs := [.tmp 6]) (vs := [_]) (is := []) (js := []) rfl ⟨rfl, trivial⟩ rfl rfl ?_ h
                                       clear h
                                       first | exact ⟨rfl, rfl, rfl⟩ | (refine ⟨congrArg Value.bool (decide_eq_true ?_), rfl, rfl⟩; rw [doF_keep (fun g => by first | exact absurd g.1 (by assumption) | exact absurd g.2.1 (by assumption) | exact absurd g.2.2 (by assumption))])))
                             · try simp only [decide_eq_true_eq, decide_eq_false_iff_not, Bool.not_eq_true', Bool.not_eq_false', Bool.not_true, Bool.not_false, Bool.not_not, ne_eq, Decidable.not_not, Int.not_lt, Int.not_le, gt_iff_lt, ge_iff_le, bool_true_eq_, bool_false_eq_, str_eq] at h13
                               first
                               | (exfalso; first | omega | (simp at h13; done))
                               | (skip
                                  refine GC.skip (?_ : GC _ _ _ _)
                                  refine GC.seq' ?_
                                  refine GC.region ?_
                                  have es : spanOf o = o.n := by unfold spanOf; rw [if_neg (by assumption)]
                                  rw [es] at c3 c4 c5 c6 hB eT
                                  refine GL.pure rfl (p_move rfl) ?_
                                  refine GL.pure rfl (p_fieldAddr fo_42_1 rfl) ?_
                                  refine GL.step rfl (t_mem rfl (m_load (i := 5) rfl rfl ag_3 rfl)) ?_
                                  refine GL.pure rfl (p_move rfl) ?_
                                  refine GL.pure rfl (p_build ze_42 of_42 rfl rfl) ?_
                                  refine GL.step rfl (t_call rfl fn_19 rfl (is := [0, 0, 0]) (js := [6, 6]) rfl rfl (by exact do_eq _ _ _ _ _ none 0 none 0 _ hu2 _ _ _ (read_at hu hc es))) (GL.ret ?_)
                                  rintro _ _ _ ⟨A96, cp96, l96, k96, rfl, rfl, rfl⟩
                                  refine GL.pure rfl (p_move rfl) ?_
                                  refine GL.pure rfl (p_extract rfl rfl) ?_
                                  refine GL.pure rfl (p_extract rfl rfl) ?_
                                  refine GL.step rfl (t_alloc rfl ze_49) (GL.ex fun b_t16 => ?_)
                                  refine GL.step rfl (t_storeN (i := 0) rfl rfl rfl sz_49 rfl rfl rfl) ?_
                                  refine GL.pure rfl (p_assign rfl) ?_
                                  refine GL.nil (?_ : GC _ _ _ _)
                                  refine GC.seq' ?_
                                  refine GC.region ?_
                                  refine GL.pure rfl (p_fieldAddr fo_42_3 rfl) ?_
                                  refine GL.step rfl (t_mem rfl (m_load (i := 6) rfl rfl ag_31 rfl)) ?_
                                  refine GL.pure rfl (p_assign rfl) ?_
                                  refine GL.nil (?_ : GC _ _ _ _)
                                  refine GC.seq' ?_
                                  refine GC.seq' ?_
                                  refine GC.region ?_
                                  refine GL.pure rfl (p_fieldAddr fo_42_0 rfl) ?_
                                  refine GL.step rfl (t_mem rfl (m_load (i := 6) rfl rfl ag_40 rfl)) ?_
                                  refine GL.pure rfl (p_eql rfl rfl) ?_
                                  refine GL.nil (?_ : GC _ _ _ _)
                                  refine GC.cond rfl (fun h15 => ?_) (fun h15 => ?_)
                                  · try simp only [decide_eq_true_eq, decide_eq_false_iff_not, Bool.not_eq_true', Bool.not_eq_false', Bool.not_true, Bool.not_false, Bool.not_not, ne_eq, Decidable.not_not, Int.not_lt, Int.not_le, gt_iff_lt, ge_iff_le, bool_true_eq_, bool_false_eq_, str_eq] at h15
                                    first
                                    | (exfalso; first | omega | (simp at h15; done))
                                    | (skip
                                       refine GC.region ?_
                                       refine GL.pure rfl (p_move rfl) ?_
                                       refine GL.pure rfl (p_fieldAddr fo_23_1 rfl) ?_
                                       refine GL.step rfl (t_mem rfl (m_load (i := 5) rfl rfl ag_3 rfl)) ?_
                                       refine GL.pure rfl (p_mul rfl rfl (w64 (by omega) (by omega))) ?_
                                       refine GL.step rfl (t_make rfl el_31 rfl rfl (by omega) (by omega)) (GL.ex fun b_t108 => ?_)
                                       rw [reps_u8]
                                       obtain ⟨z, hz⟩ : ∃ z, z = List.replicate (o.n * u.sz).toNat (0 : UInt8) := ⟨_, rfl⟩
                                       rw [← hz, show (o.n * u.sz).toNat = z.length by simp [hz]]
                                       refine GL.freezeC (h1 := fun _ => rfl) (i := 0) rfl ?_
                                       refine GL.pure rfl (p_assign rfl) ?_
                                       refine GL.nil (?_ : GC _ _ _ _)
                                       refine GC.seq' ?_
                                       have ew : wantOf u.sz o = z := by unfold wantOf; rw [if_pos (by omega), es]; exact hz.symm
                                       refine GC.regionQ wide_ (by kernel_rfl) ?_
                                       refine GQ.step rfl (q_pure (p_fieldAddr fo_42_1 rfl)) ?_
                                       refine GQ.step rfl (q_mem (m_load (i := 6) rfl rfl ag_3 rfl)) ?_
                                       refine GQ.step rfl (q_pure (p_fieldAddr fo_23_1 rfl)) ?_
                                       refine GQ.step rfl (q_mem (m_load (i := 5) rfl rfl ag_3 rfl)) ?_
                                       refine GQ.step rfl (q_pure (p_mul rfl rfl (w64 (by omega) (by omega)))) ?_
                                       refine GQ.step rfl (q_pure (p_fieldAddr fo_42_1 rfl)) ?_
                                       refine GQ.step rfl (q_mem (m_load (i := 6) rfl rfl ag_3 rfl)) ?_
                                       refine GQ.step rfl (q_pure (p_move rfl)) ?_
                                       refine GQ.step rfl (q_pure (p_add rfl rfl (w64 (by omega) (by omega)))) ?_
                                       refine GQ.step rfl (q_pure (p_fieldAddr fo_23_1 rfl)) ?_
                                       refine GQ.step rfl (q_mem (m_load (i := 5) rfl rfl ag_3 rfl)) ?_
                                       refine GQ.step rfl (q_pure (p_mul rfl rfl (w64 (by omega) (by omega)))) ?_
                                       refine GQ.step rfl (q_pure (p_assign rfl)) ?_
                                       refine GQ.step rfl (q_pure (p_assign rfl)) ?_
                                       refine GQ.nil (?_ : GC _ _ _ _)
                                       refine GC.seq' ?_
                                       refine GC.know (q := Pers.row Kd.u8 (slA A67 1 0 cp67) (seg (doF u o 4611686018427387904).2.b 0 (o.at_ * u.sz).toNat)) (fun w S hp => row_sub (kd := Kd.u8) (hp _ (nthO_mem (i := 2) rfl)) (by first | exact Nat.le_refl _ | omega) (by omega)) ?_
                                       refine GC.know (q := Pers.row Kd.u8 (slA A59 1 0 cp59) (seg u.b 0 (o.at_ * u.sz).toNat)) (fun w S hp => row_sub (kd := Kd.u8) (hp _ (nthO_mem (i := 5) rfl)) (by first | exact Nat.le_refl _ | omega) (by omega)) ?_
                                       refine GC.know (q := Pers.row Kd.u8 (slA A67 1 ((o.at_ + o.n) * u.sz).toNat cp67) (seg (doF u o 4611686018427387904).2.b ((o.at_ + o.n) * u.sz).toNat ((doF u o 4611686018427387904).2.b).length)) (fun w S hp => row_sub (kd := Kd.u8) (hp _ (nthO_mem (i := 4) rfl)) (by first | exact Nat.le_refl _ | omega) (by omega)) ?_
                                       refine GC.know (q := Pers.row Kd.u8 (slA A59 1 ((o.at_ + o.n) * u.sz).toNat cp59) (seg u.b ((o.at_ + o.n) * u.sz).toNat (u.b).length)) (fun w S hp => row_sub (kd := Kd.u8) (hp _ (nthO_mem (i := 7) rfl)) (by first | exact Nat.le_refl _ | omega) (by omega)) ?_
                                       refine GC.regionQ wide_ (by kernel_rfl) ?_
                                       refine GQ.step rfl (q_pure (p_move rfl)) ?_
                                       refine GQ.step rfl (q_pure (p_eql rfl rfl)) ?_
                                       refine GQ.step rfl (q_pure (p_move rfl)) ?_
                                       refine GQ.stepG (s := 123) rfl rfl rfl (q_pure (p_fieldAddr fo_49_1 rfl)) ?_
                                       refine GQ.stepG (s := 123) rfl rfl rfl (q_mem (m_load (i := 0) rfl rfl ag_31 rfl)) ?_
                                       refine GQ.stepG (s := 123) rfl rfl rfl (q_mem (m_str (i := 5) rfl rfl Try.underlying31 Try.underlying5 Try.underlying9)) ?_
                                       refine GQ.stepG (s := 123) rfl rfl rfl (q_pure (p_move rfl)) ?_
                                       refine GQ.stepG (s := 123) rfl rfl rfl (q_mem (m_str (i := 4) rfl rfl Try.underlying31 Try.underlying5 Try.underlying9)) ?_
                                       refine GQ.stepG (s := 123) rfl rfl rfl (q_pure (p_seqT rfl rfl (by rw [ew]))) ?_
                                       refine GQ.step rfl (q_pure (p_pick_true rfl rfl)) ?_
                                       refine GQ.step rfl (q_pure (p_move rfl)) ?_
                                       refine GQ.stepG (s := 131) rfl rfl rfl (q_pure (p_move rfl)) ?_
                                       refine GQ.stepG (s := 131) rfl rfl rfl (q_pure (p_move rfl)) ?_
                                       refine GQ.stepG (s := 131) rfl rfl rfl (q_pure (p_cut_h rfl rfl Try.underlying31 sz_5 (by omega) (by omega) (seg_length (xs := (doF u o 4611686018427387904).2.b) (by omega)).symm rfl rfl)) ?_
                                       refine GQ.stepG (s := 131) rfl rfl rfl (q_mem (m_str (i := 3) rfl rfl Try.underlying31 Try.underlying5 Try.underlying9)) ?_
                                       refine GQ.stepG (s := 131) rfl rfl rfl (q_pure (p_move rfl)) ?_
                                       refine GQ.stepG (s := 131) rfl rfl rfl (q_pure (p_move rfl)) ?_
                                       refine GQ.stepG (s := 131) rfl rfl rfl (q_pure (p_cut_h rfl rfl Try.underlying31 sz_5 (by omega) (by omega) (seg_length (xs := u.b) (by omega)).symm rfl rfl)) ?_
                                       refine GQ.stepG (s := 131) rfl rfl rfl (q_mem (m_str (i := 2) rfl rfl Try.underlying31 Try.underlying5 Try.underlying9)) ?_
                                       refine GQ.stepG (s := 131) rfl rfl rfl (q_pure (p_seqT rfl rfl (by rw [hc.b, laid_before hfit]))) ?_
                                       refine GQ.step rfl (q_pure (p_pick_true rfl rfl)) ?_
                                       refine GQ.step rfl (q_pure (p_move rfl)) ?_
                                       refine GQ.stepG (s := 142) rfl rfl rfl (q_pure (p_move rfl)) ?_
                                       refine GQ.stepG (s := 142) rfl rfl rfl (q_pure (p_move rfl)) ?_
                                       refine GQ.stepG (s := 142) rfl rfl rfl (q_pure (p_cut_l rfl rfl Try.underlying31 sz_5 (by omega) (by omega) (seg_length (xs := (doF u o 4611686018427387904).2.b) (Nat.le_refl _)).symm rfl rfl)) ?_
                                       refine GQ.stepG (s := 142) rfl rfl rfl (q_mem (m_str (i := 1) rfl rfl Try.underlying31 Try.underlying5 Try.underlying9)) ?_
                                       refine GQ.stepG (s := 142) rfl rfl rfl (q_pure (p_move rfl)) ?_
                                       refine GQ.stepG (s := 142) rfl rfl rfl (q_pure (p_move rfl)) ?_
                                       refine GQ.stepG (s := 142) rfl rfl rfl (q_pure (p_cut_l rfl rfl Try.underlying31 sz_5 (by omega) (by omega) (seg_length (xs := u.b) (Nat.le_refl _)).symm rfl rfl)) ?_
                                       refine GQ.stepG (s := 142) rfl rfl rfl (q_mem (m_str (i := 0) rfl rfl Try.underlying31 Try.underlying5 Try.underlying9)) ?_
                                       refine GQ.stepG (s := 142) rfl rfl rfl (q_pure (p_seqT rfl rfl (by rw [hc.b, laid_behind hfit (by omega)]))) ?_
                                       refine GQ.step rfl (q_pure (p_pick_true rfl rfl)) ?_
                                       refine GQ.step rfl (q_pure (p_assign rfl)) ?_
                                       refine GQ.nil (?_ : GC _ _ _ _)
                                       refine GC.ret ?_
                                       refine fun a w h => Fin.back (rs := [.tmp 6]) (vs := [_]) (is := []) (js := []) rfl ⟨rfl, trivial⟩ rfl rfl ?_ h
                                       clear h
                                       first | exact ⟨rfl, rfl, rfl⟩ | (refine ⟨congrArg Value.bool (decide_eq_true ?_), rfl, rfl⟩; rw [doF_keep (fun g => by first | exact absurd g.1 (by assumption) | exact absurd g.2.1 (by assumption) | exact absurd g.2.2 (by assumption))]))
                                  · try simp only [decide_eq_true_eq, decide_eq_false_iff_not, Bool.not_eq_true', Bool.not_eq_false', Bool.not_true, Bool.not_false, Bool.not_not, ne_eq, Decidable.not_not, Int.not_lt, Int.not_le, gt_iff_lt, ge_iff_le, bool_true_eq_, bool_false_eq_, str_eq] at h15
                                    first
                                    | (exfalso; first | omega | (simp at h15; done))
                                    | (skip
                                       refine GC.skip (?_ : GC _ _ _ _)
                                       refine GC.seq' ?_
                                       have ew : wantOf u.sz o = o.data := by unfold wantOf; rw [if_neg (by omega)]
                                       refine GC.regionQ wide_ (by kernel_rfl) ?_
                                       refine GQ.step rfl (q_pure (p_fieldAddr fo_42_1 rfl)) ?_
                                       refine GQ.step rfl (q_mem (m_load (i := 6) rfl rfl ag_3 rfl)) ?_
                                       refine GQ.step rfl (q_pure (p_fieldAddr fo_23_1 rfl)) ?_
                                       refine GQ.step rfl (q_mem (m_load (i := 5) rfl rfl ag_3 rfl)) ?_
                                       refine GQ.step rfl (q_pure (p_mul rfl rfl (w64 (by omega) (by omega)))) ?_
                                       refine GQ.step rfl (q_pure (p_fieldAddr fo_42_1 rfl)) ?_
                                       refine GQ.step rfl (q_mem (m_load (i := 6) rfl rfl ag_3 rfl)) ?_
                                       refine GQ.step rfl (q_pure (p_move rfl)) ?_
                                       refine GQ.step rfl (q_pure (p_add rfl rfl (w64 (by omega) (by omega)))) ?_
                                       refine GQ.step rfl (q_pure (p_fieldAddr fo_23_1 rfl)) ?_
                                       refine GQ.step rfl (q_mem (m_load (i := 5) rfl rfl ag_3 rfl)) ?_
                                       refine GQ.step rfl (q_pure (p_mul rfl rfl (w64 (by omega) (by omega)))) ?_
                                       refine GQ.step rfl (q_pure (p_assign rfl)) ?_
                                       refine GQ.step rfl (q_pure (p_assign rfl)) ?_
                                       refine GQ.nil (?_ : GC _ _ _ _)
                                       refine GC.seq' ?_
                                       refine GC.know (q := Pers.row Kd.u8 (slA A67 1 0 cp67) (seg (doF u o 4611686018427387904).2.b 0 (o.at_ * u.sz).toNat)) (fun w S hp => row_sub (kd := Kd.u8) (hp _ (nthO_mem (i := 1) rfl)) (by first | exact Nat.le_refl _ | omega) (by omega)) ?_
                                       refine GC.know (q := Pers.row Kd.u8 (slA A59 1 0 cp59) (seg u.b 0 (o.at_ * u.sz).toNat)) (fun w S hp => row_sub (kd := Kd.u8) (hp _ (nthO_mem (i := 4) rfl)) (by first | exact Nat.le_refl _ | omega) (by omega)) ?_
                                       refine GC.know (q := Pers.row Kd.u8 (slA A67 1 ((o.at_ + o.n) * u.sz).toNat cp67) (seg (doF u o 4611686018427387904).2.b ((o.at_ + o.n) * u.sz).toNat ((doF u o 4611686018427387904).2.b).length)) (fun w S hp => row_sub (kd := Kd.u8) (hp _ (nthO_mem (i := 3) rfl)) (by first | exact Nat.le_refl _ | omega) (by omega)) ?_
                                       refine GC.know (q := Pers.row Kd.u8 (slA A59 1 ((o.at_ + o.n) * u.sz).toNat cp59) (seg u.b ((o.at_ + o.n) * u.sz).toNat (u.b).length)) (fun w S hp => row_sub (kd := Kd.u8) (hp _ (nthO_mem (i := 6) rfl)) (by first | exact Nat.le_refl _ | omega) (by omega)) ?_
                                       refine GC.regionQ wide_ (by kernel_rfl) ?_
                                       refine GQ.step rfl (q_pure (p_move rfl)) ?_
                                       refine GQ.step rfl (q_pure (p_eql rfl rfl)) ?_
                                       refine GQ.step rfl (q_pure (p_move rfl)) ?_
                                       refine GQ.stepG (s := 123) rfl rfl rfl (q_pure (p_fieldAddr fo_49_1 rfl)) ?_
                                       refine GQ.stepG (s := 123) rfl rfl rfl (q_mem (m_load (i := 0) rfl rfl ag_31 rfl)) ?_
                                       refine GQ.stepG (s := 123) rfl rfl rfl (q_mem (m_str (i := 4) rfl rfl Try.underlying31 Try.underlying5 Try.underlying9)) ?_
                                       refine GQ.stepG (s := 123) rfl rfl rfl (q_pure (p_move rfl)) ?_
                                       refine GQ.stepG (s := 123) rfl rfl rfl (q_mem (m_str (i := 9) rfl rfl Try.underlying31 Try.underlying5 Try.underlying9)) ?_
                                       refine GQ.stepG (s := 123) rfl rfl rfl (q_pure (p_seqT rfl rfl (by rw [ew]))) ?_
                                       refine GQ.step rfl (q_pure (p_pick_true rfl rfl)) ?_
                                       refine GQ.step rfl (q_pure (p_move rfl)) ?_
                                       refine GQ.stepG (s := 131) rfl rfl rfl (q_pure (p_move rfl)) ?_
                                       refine GQ.stepG (s := 131) rfl rfl rfl (q_pure (p_move rfl)) ?_
                                       refine GQ.stepG (s := 131) rfl rfl rfl (q_pure (p_cut_h rfl rfl Try.underlying31 sz_5 (by omega) (by omega) (seg_length (xs := (doF u o 4611686018427387904).2.b) (by omega)).symm rfl rfl)) ?_
                                       refine GQ.stepG (s := 131) rfl rfl rfl (q_mem (m_str (i := 3) rfl rfl Try.underlying31 Try.underlying5 Try.underlying9)) ?_
                                       refine GQ.stepG (s := 131) rfl rfl rfl (q_pure (p_move rfl)) ?_
                                       refine GQ.stepG (s := 131) rfl rfl rfl (q_pure (p_move rfl)) ?_
                                       refine GQ.stepG (s := 131) rfl rfl rfl (q_pure (p_cut_h rfl rfl Try.underlying31 sz_5 (by omega) (by omega) (seg_length (xs := u.b) (by omega)).symm rfl rfl)) ?_
                                       refine GQ.stepG (s := 131) rfl rfl rfl (q_mem (m_str (i := 2) rfl rfl Try.underlying31 Try.underlying5 Try.underlying9)) ?_
                                       refine GQ.stepG (s := 131) rfl rfl rfl (q_pure (p_seqT rfl rfl (by rw [hc.b, laid_before hfit]))) ?_
                                       refine GQ.step rfl (q_pure (p_pick_true rfl rfl)) ?_
                                       refine GQ.step rfl (q_pure (p_move rfl)) ?_
                                       refine GQ.stepG (s := 142) rfl rfl rfl (q_pure (p_move rfl)) ?_
                                       refine GQ.stepG (s := 142) rfl rfl rfl (q_pure (p_move rfl)) ?_
                                       refine GQ.stepG (s := 142) rfl rfl rfl (q_pure (p_cut_l rfl rfl Try.underlying31 sz_5 (by omega) (by omega) (seg_length (xs := (doF u o 4611686018427387904).2.b) (Nat.le_refl _)).symm rfl rfl)) ?_
                                       refine GQ.stepG (s := 142) rfl rfl rfl (q_mem (m_str (i := 1) rfl rfl Try.underlying31 Try.underlying5 Try.underlying9)) ?_
                                       refine GQ.stepG (s := 142) rfl rfl rfl (q_pure (p_move rfl)) ?_
                                       refine GQ.stepG (s := 142) rfl rfl rfl (q_pure (p_move rfl)) ?_
                                       refine GQ.stepG (s := 142) rfl rfl rfl (q_pure (p_cut_l rfl rfl Try.underlying31 sz_5 (by omega) (by omega) (seg_length (xs := u.b) (Nat.le_refl _)).symm rfl rfl)) ?_
                                       refine GQ.stepG (s := 142) rfl rfl rfl (q_mem (m_str (i := 0) rfl rfl Try.underlying31 Try.underlying5 Try.underlying9)) ?_
                                       refine GQ.stepG (s := 142) rfl rfl rfl (q_pure (p_seqT rfl rfl (by rw [hc.b, laid_behind hfit (by omega)]))) ?_
                                       refine GQ.step rfl (q_pure (p_pick_true rfl rfl)) ?_
                                       refine GQ.step rfl (q_pure (p_assign rfl)) ?_
                                       refine GQ.nil (?_ : GC _ _ _ _)
                                       refine GC.ret ?_
                                       refine fun a w h => Fin.back (rs := [.tmp 6]) (vs := [_]) (is := []) (js := []) rfl ⟨rfl, trivial⟩ rfl rfl ?_ h
                                       clear h
                                       first | exact ⟨rfl, rfl, rfl⟩ | (refine ⟨congrArg Value.bool (decide_eq_true ?_), rfl, rfl⟩; rw [doF_keep (fun g => by first | exact absurd g.1 (by assumption) | exact absurd g.2.1 (by assumption) | exact absurd g.2.2 (by assumption))]))))))))
  · skip
    refine Ct.intro Try.func5 rfl rfl rfl (fun c hc => ?_)
    refine GC.know (q := Pers.row kPage none []) (fun _ _ _ => .inl rfl) ?_
    refine GC.seq' ?_
    refine GC.region ?_
    refine GL.step rfl (t_box rfl rfl rfl) (GL.ex fun b_t3 => ?_)
    refine GL.step rfl (t_box rfl rfl rfl) (GL.ex fun b_t5 => ?_)
    refine GL.pure rfl (p_assign rfl) ?_
    refine GL.nil (?_ : GC _ _ _ _)
    refine GC.seq' ?_
    refine GC.seq' ?_
    refine GC.region ?_
    refine GL.step rfl (t_call rfl fn_12 rfl (is := []) (js := []) rfl rfl (by exact awake_ct)) (GL.ret ?_)
    rintro _ _ _ ⟨rfl, rfl, rfl⟩
    refine GL.pure rfl (p_not rfl) ?_
    refine GL.nil (?_ : GC _ _ _ _)
    refine GC.cond_false rfl ?_
    refine GC.skip (?_ : GC _ _ _ _)
    refine GC.seq' ?_
    refine GC.region ?_
    refine GL.step rfl (t_mem rfl (m_loadN (i := 1) rfl rfl ag_23 (vs := [_, _]) sz_23 ⟨rfl, rfl, trivial⟩)) ?_
    refine GL.step rfl (t_call rfl fn_15 rfl (is := []) (js := [0]) rfl rfl (by exact begin_bad _ _ none [] 0 hs)) (GL.ret ?_)
    rintro _ _ _ ⟨rfl, rfl, rfl⟩
    refine GL.pure rfl (p_move rfl) ?_
    refine GL.pure rfl (p_extract rfl rfl) ?_
    refine GL.pure rfl (p_extract rfl rfl) ?_
    refine GL.pure rfl (p_extract rfl rfl) ?_
    refine GL.pure rfl (p_assign rfl) ?_
    refine GL.pure rfl (p_assign rfl) ?_
    refine GL.pure rfl (p_assign rfl) ?_
    refine GL.nil (?_ : GC _ _ _ _)
    refine GC.seq' ?_
    refine GC.seq' ?_
    refine GC.region ?_
    refine GL.pure rfl (p_move rfl) ?_
    refine GL.pure rfl (p_not rfl) ?_
    refine GL.pure rfl (p_move rfl) ?_
    refine GL.pureG (s := 31) rfl rfl rfl (p_move rfl) ?_
    refine GL.pureG (s := 31) rfl rfl rfl (p_pnil_eql Try.underlying36 rfl rfl) ?_
    refine GL.pure rfl (p_pick_false rfl rfl) ?_
    refine GL.pure rfl (p_move rfl) ?_
    refine GL.pass (s := 35) rfl rfl rfl ?_
    refine GL.pass (s := 35) rfl rfl rfl ?_
    refine GL.pass (s := 35) rfl rfl rfl ?_
    refine GL.pure rfl (p_pick_true rfl rfl) ?_
    refine GL.nil (?_ : GC _ _ _ _)
    refine GC.cond_true rfl ?_
    refine GC.seq' ?_
    refine GC.region ?_
    refine GL.pure rfl (p_move rfl) ?_
    refine GL.pure rfl (p_assign rfl) ?_
    refine GL.nil (?_ : GC _ _ _ _)
    refine GC.ret ?_
    refine fun a w h => Fin.back (rs := [.tmp 6]) (vs := [_]) (is := []) (js := []) rfl ⟨rfl, trivial⟩ rfl rfl ?_ h
    clear h
    exact ⟨rfl, rfl, rfl⟩
end Go.Proofs.Ytihhpkbbhfcdcaa
