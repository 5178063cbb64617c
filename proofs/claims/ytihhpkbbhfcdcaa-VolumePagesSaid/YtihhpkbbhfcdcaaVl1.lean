/- THE VOLUME: which blocks were changed since any number: the walk of the law. -/
import Derived.Test.YtihhpkbbhfcdcaaVp7
set_option linter.unusedVariables false
set_option linter.unusedSimpArgs false
set_option maxRecDepth 100000
namespace Go.Proofs.Ytihhpkbbhfcdcaa
open Go Go.Sx Go.Proofs
theorem volumePages_ct (bl sz : Int) (A : Option Addr) (steps : List Step) (cp : Nat) (since : Int) (hl : steps.length ≤ 140737488351232) (hst : ∀ x ∈ steps, okStep x) :
    Ct Try.prog 4 [shpV bl sz, .slice A steps.length cp, .int .i64 since] [] [Pers.row kStep A steps] (fun v G Q => v = .bool true ∧ G = [] ∧ Q = []) := by
  by_cases hs : shapeOk bl sz
  · have he : shapeE bl sz = 0 := by simp [shapeE, hs]
    have h0 : VolOk (loadV bl sz []) := loadV_ok hs rfl
    refine Ct.intro Try.func4 rfl rfl rfl (fun c hc => ?_)
    refine GC.know (q := Pers.row kPage none []) (fun _ _ _ => .inl rfl) ?_
    refine GC.seq' ?_
    refine GC.region ?_
    refine GL.step rfl (t_box rfl rfl rfl) (GL.ex fun b_t3 => ?_)
    refine GL.pure rfl (p_assign rfl) ?_
    refine GL.nil (?_ : GC _ _ _ _)
    refine GC.seq' ?_
    refine GC.seq' ?_
    refine GC.region ?_
    refine GL.step rfl (t_call rfl fn_12 rfl (is := []) (js := []) rfl rfl (by exact awake_ct)) (GL.ret ?_)
    rintro _ _ _ ⟨rfl, rfl, rfl⟩
    refine GL.pure rfl (p_not rfl) ?_
    refine GL.nil (?_ : GC _ _ _ _)
    refine GC.cond_false rfl ?_
    refine GC.skip (?_ : GC _ _ _ _)
    refine GC.seq' ?_
    refine GC.seq' ?_
    refine GC.region ?_
    refine GL.step rfl (t_mem rfl (m_loadN (i := 0) rfl rfl ag_23 (vs := [_, _]) sz_23 ⟨rfl, rfl, trivial⟩)) ?_
    refine GL.step rfl (t_call rfl fn_11 rfl (is := []) (js := []) rfl rfl (by exact small_ct _ _)) (GL.ret ?_)
    rintro _ _ _ ⟨rfl, rfl, rfl⟩
    refine GL.pure rfl (p_not rfl) ?_
    refine GL.pure rfl (p_move rfl) ?_
    refine GL.split (i := 16) rfl (fun h1 => ?_) (fun h1 => ?_)
    · try simp only [decide_eq_true_eq, decide_eq_false_iff_not, Bool.not_eq_true', Bool.not_eq_false', Bool.not_true, Bool.not_false, Bool.not_not, ne_eq, Decidable.not_not, Int.not_lt, Int.not_le, gt_iff_lt, ge_iff_le, bool_true_eq_, bool_false_eq_] at h1
      first
      | (exfalso; first | omega | (simp at h1; done))
      | (skip
         refine GL.stepG rfl (s := 16) rfl rfl (t_mem rfl (m_loadN (i := 0) rfl rfl ag_23 (vs := [_, _]) sz_23 ⟨rfl, rfl, trivial⟩)) ?_
         refine GL.stepG rfl (s := 16) rfl rfl (t_call rfl fn_10 rfl (is := []) (js := []) rfl rfl (by exact shapeR_eq _ _ _ he)) (GL.ret ?_)
         rintro _ _ _ ⟨rfl, rfl, rfl⟩
         refine GL.pureG (s := 16) rfl rfl rfl (p_eql rfl rfl) ?_
         refine GL.pure rfl (p_pick_true rfl rfl) ?_
         refine GL.nil (?_ : GC _ _ _ _)
         refine GC.cond_true rfl ?_
         refine GC.seq' ?_
         refine GC.region ?_
         refine GL.pure rfl (p_assign rfl) ?_
         refine GL.nil (?_ : GC _ _ _ _)
         refine GC.ret ?_
         refine fun a w h => Fin.back (rs := [.tmp 6]) (vs := [_]) (is := []) (js := []) rfl ⟨rfl, trivial⟩ rfl rfl ?_ h
         clear h
         exact ⟨rfl, rfl, rfl⟩)
    · try simp only [decide_eq_true_eq, decide_eq_false_iff_not, Bool.not_eq_true', Bool.not_eq_false', Bool.not_true, Bool.not_false, Bool.not_not, ne_eq, Decidable.not_not, Int.not_lt, Int.not_le, gt_iff_lt, ge_iff_le, bool_true_eq_, bool_false_eq_] at h1
      first
      | (exfalso; first | omega | (simp at h1; done))
      | (skip
         refine GL.pass (s := 16) rfl rfl rfl ?_
         refine GL.pass (s := 16) rfl rfl rfl ?_
         refine GL.pass (s := 16) rfl rfl rfl ?_
         refine GL.pure rfl (p_pick_false rfl rfl) ?_
         refine GL.nil (?_ : GC _ _ _ _)
         refine GC.cond_false rfl ?_
         refine GC.skip (?_ : GC _ _ _ _)
         refine GC.seq' ?_
         refine GC.region ?_
         refine GL.step rfl (t_mem rfl (m_loadN (i := 0) rfl rfl ag_23 (vs := [_, _]) sz_23 ⟨rfl, rfl, trivial⟩)) ?_
         refine GL.step rfl (t_call rfl fn_15 rfl (is := []) (js := [0]) rfl rfl (by exact begin_ok _ _ none [] 0 hs (by decide) (by simp) rfl)) (GL.ret ?_)
         rintro _ _ _ ⟨vp23, vb23, vv23, rp23, rB23, rV23, rc123, rc223, sp23, spv23, cs23, rfl, rfl, rfl⟩
         refine GL.pure rfl (p_move rfl) ?_
         refine GL.pure rfl (p_extract rfl rfl) ?_
         refine GL.pure rfl (p_extract rfl rfl) ?_
         refine GL.pure rfl (p_extract rfl rfl) ?_
         refine GL.pure rfl (p_assign rfl) ?_
         refine GL.pure rfl (p_assign rfl) ?_
         refine GL.pure rfl (p_assign rfl) ?_
         refine GL.nil (?_ : GC _ _ _ _)
         refine GC.seq' ?_
         refine GC.seq' ?_
         refine GC.region ?_
         refine GL.pure rfl (p_move rfl) ?_
         refine GL.pure rfl (p_not rfl) ?_
         refine GL.pure rfl (p_move rfl) ?_
         refine GL.pureG (s := 29) rfl rfl rfl (p_move rfl) ?_
         refine GL.pureG (s := 29) rfl rfl rfl (p_pnil_eql Try.underlying36 rfl rfl) ?_
         refine GL.pure rfl (p_pick_false rfl rfl) ?_
         refine GL.nil (?_ : GC _ _ _ _)
         refine GC.cond_false rfl ?_
         refine GC.skip (?_ : GC _ _ _ _)
         refine GC.seq' ?_
         refine GC.seq' ?_
         refine GC.region ?_
         refine GL.pure rfl (p_assign rfl) ?_
         refine GL.nil (?_ : GC _ _ _ _)
         refine GC.block ?_
         refine GC.imp (fun a w h => (⟨⟨by simp, h0⟩, h.cut (is := [0, 0, 0, 0, 0, 0]) (js := [2, 0]) ⟨rfl, rfl, rfl, rfl, rfl, trivial⟩ rfl rfl⟩ : (fun (y : Nat × Vol × List Value) (a : Act) (w : World) => (y.1 ≤ 200 ∧ VolOk y.2.1) ∧ St c 58 [(1, .slice A steps.length cp), (2, .int .i64 since), (7, .pointer (some ⟨vp23, 0, none⟩)), (8, .pointer (some ⟨rp23, 0, none⟩)), (10, .int .i64 (y.1 : Int))] [.cells vp23 [.int .i64 y.2.1.bl, .int .i64 y.2.1.sz, .slice (some ⟨vb23, 0, none⟩) (y.2.1.bl * y.2.1.sz).toNat (y.2.1.bl * y.2.1.sz).toNat, .slice (some ⟨vv23, 0, none⟩) y.2.1.bl.toNat y.2.1.bl.toNat, .int .i64 y.2.1.last] 58, .cells vb23 (y.2.1.b.map u8v) 5, .cells vv23 (y.2.1.vs.map (Value.int .i64)) 3, .cells rp23 [.int .i64 y.2.1.bl, .int .i64 y.2.1.sz, .slice (some ⟨rB23, 0, none⟩) y.2.1.bl.toNat rc123, .slice (some ⟨rV23, 0, none⟩) y.2.1.bl.toNat rc223, .int .i64 y.2.1.last] 79, .cells rB23 (y.2.2 ++ sp23) 31, .cells rV23 (y.2.1.vs.map (Value.int .i64) ++ spv23) 3] [Pers.row kStep A steps, Pers.reps kBytes (chV y.2.1) y.2.2] a w) (0, loadV bl sz [], _) a w)) (GC.loop (fun (y : Nat × Vol × List Value) (a : Act) (w : World) => (y.1 ≤ 200 ∧ VolOk y.2.1) ∧ St c 58 [(1, .slice A steps.length cp), (2, .int .i64 since), (7, .pointer (some ⟨vp23, 0, none⟩)), (8, .pointer (some ⟨rp23, 0, none⟩)), (10, .int .i64 (y.1 : Int))] [.cells vp23 [.int .i64 y.2.1.bl, .int .i64 y.2.1.sz, .slice (some ⟨vb23, 0, none⟩) (y.2.1.bl * y.2.1.sz).toNat (y.2.1.bl * y.2.1.sz).toNat, .slice (some ⟨vv23, 0, none⟩) y.2.1.bl.toNat y.2.1.bl.toNat, .int .i64 y.2.1.last] 58, .cells vb23 (y.2.1.b.map u8v) 5, .cells vv23 (y.2.1.vs.map (Value.int .i64)) 3, .cells rp23 [.int .i64 y.2.1.bl, .int .i64 y.2.1.sz, .slice (some ⟨rB23, 0, none⟩) y.2.1.bl.toNat rc123, .slice (some ⟨rV23, 0, none⟩) y.2.1.bl.toNat rc223, .int .i64 y.2.1.last] 79, .cells rB23 (y.2.2 ++ sp23) 31, .cells rV23 (y.2.1.vs.map (Value.int .i64) ++ spv23) 3] [Pers.row kStep A steps, Pers.reps kBytes (chV y.2.1) y.2.2] a w) (fun y => 200 - y.1) (0, loadV bl sz [], _) ?_)
         intro y
         refine GC.and fun hk => ?_
         obtain ⟨i, u, cs⟩ := y
         dsimp only at hk ⊢
         obtain ⟨hk, hu⟩ := hk
         refine GC.seq' ?_
         refine GC.seq' ?_
         refine GC.region ?_
         refine GL.pure rfl (p_move rfl) ?_
         refine GL.pure rfl (p_move rfl) ?_
         refine GL.pure rfl (p_len Try.underlying35 rfl) ?_
         refine GL.pure rfl (p_lss rfl rfl) ?_
         refine GL.pure rfl (p_move rfl) ?_
         refine GL.split (i := 38) rfl (fun h2 => ?_) (fun h2 => ?_)
         · try simp only [decide_eq_true_eq, decide_eq_false_iff_not, Bool.not_eq_true', Bool.not_eq_false', Bool.not_true, Bool.not_false, Bool.not_not, ne_eq, Decidable.not_not, Int.not_lt, Int.not_le, gt_iff_lt, ge_iff_le, bool_true_eq_, bool_false_eq_] at h2
           first
           | (exfalso; first | omega | (simp at h2; done))
           | (skip
              refine GL.pureG (s := 38) rfl rfl rfl (p_move rfl) ?_
              refine GL.pureG (s := 38) rfl rfl rfl (p_lss rfl rfl) ?_
              refine GL.pure rfl (p_pick_true rfl rfl) ?_
              refine GL.nil (?_ : GC _ _ _ _)
              refine GC.cond rfl (fun h3 => ?_) (fun h3 => ?_)
              · try simp only [decide_eq_true_eq, decide_eq_false_iff_not, Bool.not_eq_true', Bool.not_eq_false', Bool.not_true, Bool.not_false, Bool.not_not, ne_eq, Decidable.not_not, Int.not_lt, Int.not_le, gt_iff_lt, ge_iff_le, bool_true_eq_, bool_false_eq_] at h3
                first
                | (exfalso; first | omega | (simp at h3; done))
                | (skip
                   refine GC.skip (?_ : GC _ _ _ _)
                   refine GC.seq' ?_
                   refine GC.block ?_
                   refine GC.region ?_
                   refine GL.pure rfl (p_move rfl) ?_
                   refine GL.pure rfl (p_move rfl) ?_
                   refine GL.pure rfl (p_move rfl) ?_
                   refine GL.pure rfl (p_move rfl) ?_
                   refine GL.step rfl (t_index (i := 0) rfl rfl rfl rfl Try.underlying35 sz_44 (by omega) (gt_ok (by omega) (by omega))) (GL.ex fun p_x48 => GL.ex fun r_x48 => GL.and fun ok_x48 => ?_)
                   rcases r_x48 with ⟨⟨_, ⟨_, ⟨_, ⟨⟨Ax48_0, cpx48_0⟩, ⟨Ax48_1, cpx48_1⟩⟩⟩⟩⟩, ⟨_, ⟨Ax48_2, cpx48_2⟩⟩⟩
                   refine GL.step rfl (t_mem rfl (m_loadPN (i := 0) rfl rfl ag_44 (vs := [_, _, _, _, _, _, _]) sz_44 ⟨rfl, rfl, rfl, rfl, rfl, rfl, rfl, trivial⟩)) ?_
                   refine GL.step rfl (t_call rfl fn_16 rfl (is := [0, 0, 0, 0, 0, 0]) (js := [5, 1, 2, 3]) rfl rfl (by exact step_ct _ _ _ _ _ _ _ _ _ _ _ u (gt steps (i : Int)) _ _ _ _ _ _ hu (StepOk.of (hst _ (gt_mem (l := steps) (k := i) (by omega)))) ok_x48.1.2.2.2.1.1)) (GL.ret ?_)
                   rintro _ _ _ ⟨cs50, rfl, rfl, rfl⟩
                   refine GL.nil (?_ : GC _ _ _ _)
                   refine GC.region ?_
                   refine GL.pure rfl (p_move rfl) ?_
                   refine GL.pure rfl (p_add rfl rfl (w64 (by omega) (by omega))) ?_
                   refine GL.pure rfl (p_assign rfl) ?_
                   refine GL.nil ?_
                   exact fun a w h => ⟨(i + 1, stepF u (gt steps (i : Int)), cs50), (by simp only; omega), ⟨by simp only; omega, stepF_ok hu _⟩, h.cut (is := [0, 0, 0, 0, 0, 0]) (js := [5, 0]) ⟨rfl, rfl, rfl, rfl, rfl, trivial⟩ rfl rfl⟩)
              · try simp only [decide_eq_true_eq, decide_eq_false_iff_not, Bool.not_eq_true', Bool.not_eq_false', Bool.not_true, Bool.not_false, Bool.not_not, ne_eq, Decidable.not_not, Int.not_lt, Int.not_le, gt_iff_lt, ge_iff_le, bool_true_eq_, bool_false_eq_] at h3
                first
                | (exfalso; first | omega | (simp at h3; done))
                | (skip
                   refine GC.exit (?_ : GC _ _ _ _)
                   refine GC.seq' ?_
                   refine GC.region ?_
                   refine GL.pure rfl (p_move rfl) ?_
                   refine GL.pure rfl (p_move rfl) ?_
                   refine GL.step rfl (t_call rfl fn_14 rfl (is := [0, 0, 0]) (js := []) rfl rfl (by exact pages_ct _ _ _ u _ hu)) (GL.ret ?_)
                   rintro _ _ _ ⟨A53, cp53, cs53, l53, k53, rfl, rfl, rfl⟩
                   refine GL.pure rfl (p_move rfl) ?_
                   refine GL.pure rfl (p_move rfl) ?_
                   refine GL.step rfl (t_call rfl fn_18 rfl (is := [4, 4, 4]) (js := [2]) rfl rfl (by exact rpages_ct _ _ _ _ _ _ _ _ u _ hu)) (GL.ret ?_)
                   rintro _ _ _ ⟨A56, cp56, ds56, l56, k56, rfl, rfl, rfl⟩
                   refine GL.freezeR (i := 4) (j := 1) rfl rfl (by decide) ?_
                   refine GL.freezeR (i := 0) (j := 1) rfl rfl (by decide) ?_
                   refine GL.step rfl (t_call rfl fn_17 rfl (is := []) (js := [1, 0]) rfl rfl (by exact pgself_ct (pagesF u since) _ _ _ _ (by have := pagesA_le u since u.bl.toNat; have hsh := hu.shp; simp only [shapeOk] at hsh; show (pagesA u since u.bl.toNat).length ≤ _; omega))) (GL.ret ?_)
                   rintro _ _ _ ⟨rfl, rfl, rfl⟩
                   refine GL.pure rfl (p_assign rfl) ?_
                   refine GL.nil (?_ : GC _ _ _ _)
                   refine GC.ret ?_
                   refine fun a w h => Fin.back (rs := [.tmp 6]) (vs := [_]) (is := []) (js := []) rfl ⟨rfl, trivial⟩ rfl rfl ?_ h
                   clear h
                   exact ⟨rfl, rfl, rfl⟩))
         · try simp only [decide_eq_true_eq, decide_eq_false_iff_not, Bool.not_eq_true', Bool.not_eq_false', Bool.not_true, Bool.not_false, Bool.not_not, ne_eq, Decidable.not_not, Int.not_lt, Int.not_le, gt_iff_lt, ge_iff_le, bool_true_eq_, bool_false_eq_] at h2
           first
           | (exfalso; first | omega | (simp at h2; done))
           | (skip
              refine GL.pass (s := 38) rfl rfl rfl ?_
              refine GL.pass (s := 38) rfl rfl rfl ?_
              refine GL.pure rfl (p_pick_false rfl rfl) ?_
              refine GL.nil (?_ : GC _ _ _ _)
              refine GC.cond_false rfl ?_
              refine GC.exit (?_ : GC _ _ _ _)
              refine GC.seq' ?_
              refine GC.region ?_
              refine GL.pure rfl (p_move rfl) ?_
              refine GL.pure rfl (p_move rfl) ?_
              refine GL.step rfl (t_call rfl fn_14 rfl (is := [0, 0, 0]) (js := []) rfl rfl (by exact pages_ct _ _ _ u _ hu)) (GL.ret ?_)
              rintro _ _ _ ⟨A53, cp53, cs53, l53, k53, rfl, rfl, rfl⟩
              refine GL.pure rfl (p_move rfl) ?_
              refine GL.pure rfl (p_move rfl) ?_
              refine GL.step rfl (t_call rfl fn_18 rfl (is := [4, 4, 4]) (js := [2]) rfl rfl (by exact rpages_ct _ _ _ _ _ _ _ _ u _ hu)) (GL.ret ?_)
              rintro _ _ _ ⟨A56, cp56, ds56, l56, k56, rfl, rfl, rfl⟩
              refine GL.freezeR (i := 4) (j := 1) rfl rfl (by decide) ?_
              refine GL.freezeR (i := 0) (j := 1) rfl rfl (by decide) ?_
              refine GL.step rfl (t_call rfl fn_17 rfl (is := []) (js := [1, 0]) rfl rfl (by exact pgself_ct (pagesF u since) _ _ _ _ (by have := pagesA_le u since u.bl.toNat; have hsh := hu.shp; simp only [shapeOk] at hsh; show (pagesA u since u.bl.toNat).length ≤ _; omega))) (GL.ret ?_)
              rintro _ _ _ ⟨rfl, rfl, rfl⟩
              refine GL.pure rfl (p_assign rfl) ?_
              refine GL.nil (?_ : GC _ _ _ _)
              refine GC.ret ?_
              refine fun a w h => Fin.back (rs := [.tmp 6]) (vs := [_]) (is := []) (js := []) rfl ⟨rfl, trivial⟩ rfl rfl ?_ h
              clear h
              exact ⟨rfl, rfl, rfl⟩))
  · have he : shapeE bl sz = 40 := by simp [shapeE, hs]
    refine Ct.intro Try.func4 rfl rfl rfl (fun c hc => ?_)
    refine GC.know (q := Pers.row kPage none []) (fun _ _ _ => .inl rfl) ?_
    refine GC.seq' ?_
    refine GC.region ?_
    refine GL.step rfl (t_box rfl rfl rfl) (GL.ex fun b_t3 => ?_)
    refine GL.pure rfl (p_assign rfl) ?_
    refine GL.nil (?_ : GC _ _ _ _)
    refine GC.seq' ?_
    refine GC.seq' ?_
    refine GC.region ?_
    refine GL.step rfl (t_call rfl fn_12 rfl (is := []) (js := []) rfl rfl (by exact awake_ct)) (GL.ret ?_)
    rintro _ _ _ ⟨rfl, rfl, rfl⟩
    refine GL.pure rfl (p_not rfl) ?_
    refine GL.nil (?_ : GC _ _ _ _)
    refine GC.cond_false rfl ?_
    refine GC.skip (?_ : GC _ _ _ _)
    refine GC.seq' ?_
    refine GC.seq' ?_
    refine GC.region ?_
    refine GL.step rfl (t_mem rfl (m_loadN (i := 0) rfl rfl ag_23 (vs := [_, _]) sz_23 ⟨rfl, rfl, trivial⟩)) ?_
    refine GL.step rfl (t_call rfl fn_11 rfl (is := []) (js := []) rfl rfl (by exact small_ct _ _)) (GL.ret ?_)
    rintro _ _ _ ⟨rfl, rfl, rfl⟩
    refine GL.pure rfl (p_not rfl) ?_
    refine GL.pure rfl (p_move rfl) ?_
    refine GL.split (i := 16) rfl (fun h1 => ?_) (fun h1 => ?_)
    · try simp only [decide_eq_true_eq, decide_eq_false_iff_not, Bool.not_eq_true', Bool.not_eq_false', Bool.not_true, Bool.not_false, Bool.not_not, ne_eq, Decidable.not_not, Int.not_lt, Int.not_le, gt_iff_lt, ge_iff_le, bool_true_eq_, bool_false_eq_] at h1
      refine GL.stepG rfl (s := 16) rfl rfl (t_mem rfl (m_loadN (i := 0) rfl rfl ag_23 (vs := [_, _]) sz_23 ⟨rfl, rfl, trivial⟩)) ?_
      refine GL.stepG rfl (s := 16) rfl rfl (t_call rfl fn_10 rfl (is := []) (js := []) rfl rfl (by exact shapeR_eq _ _ _ he)) (GL.ret ?_)
      rintro _ _ _ ⟨rfl, rfl, rfl⟩
      refine GL.pureG (s := 16) rfl rfl rfl (p_eql rfl rfl) ?_
      refine GL.pure rfl (p_pick_true rfl rfl) ?_
      refine GL.nil (?_ : GC _ _ _ _)
      refine GC.cond_false rfl ?_
      refine GC.skip (?_ : GC _ _ _ _)
      refine GC.seq' ?_
      refine GC.region ?_
      refine GL.step rfl (t_mem rfl (m_loadN (i := 0) rfl rfl ag_23 (vs := [_, _]) sz_23 ⟨rfl, rfl, trivial⟩)) ?_
      refine GL.step rfl (t_call rfl fn_15 rfl (is := []) (js := [0]) rfl rfl (by exact begin_bad _ _ none [] 0 hs)) (GL.ret ?_)
      rintro _ _ _ ⟨rfl, rfl, rfl⟩
      refine GL.pure rfl (p_move rfl) ?_
      refine GL.pure rfl (p_extract rfl rfl) ?_
      refine GL.pure rfl (p_extract rfl rfl) ?_
      refine GL.pure rfl (p_extract rfl rfl) ?_
      refine GL.pure rfl (p_assign rfl) ?_
      refine GL.pure rfl (p_assign rfl) ?_
      refine GL.pure rfl (p_assign rfl) ?_
      refine GL.nil (?_ : GC _ _ _ _)
      refine GC.seq' ?_
      refine GC.seq' ?_
      refine GC.region ?_
      refine GL.pure rfl (p_move rfl) ?_
      refine GL.pure rfl (p_not rfl) ?_
      refine GL.pure rfl (p_move rfl) ?_
      refine GL.pureG (s := 29) rfl rfl rfl (p_move rfl) ?_
      refine GL.pureG (s := 29) rfl rfl rfl (p_pnil_eql Try.underlying36 rfl rfl) ?_
      refine GL.pure rfl (p_pick_false rfl rfl) ?_
      refine GL.nil (?_ : GC _ _ _ _)
      refine GC.cond_true rfl ?_
      refine GC.seq' ?_
      refine GC.region ?_
      refine GL.pure rfl (p_move rfl) ?_
      refine GL.pure rfl (p_assign rfl) ?_
      refine GL.nil (?_ : GC _ _ _ _)
      refine GC.ret ?_
      refine fun a w h => Fin.back (rs := [.tmp 6]) (vs := [_]) (is := []) (js := []) rfl ⟨rfl, trivial⟩ rfl rfl ?_ h
      clear h
      exact ⟨rfl, rfl, rfl⟩
    · try simp only [decide_eq_true_eq, decide_eq_false_iff_not, Bool.not_eq_true', Bool.not_eq_false', Bool.not_true, Bool.not_false, Bool.not_not, ne_eq, Decidable.not_not, Int.not_lt, Int.not_le, gt_iff_lt, ge_iff_le, bool_true_eq_, bool_false_eq_] at h1
      refine GL.pass (s := 16) rfl rfl rfl ?_
      refine GL.pass (s := 16) rfl rfl rfl ?_
      refine GL.pass (s := 16) rfl rfl rfl ?_
      refine GL.pure rfl (p_pick_false rfl rfl) ?_
      refine GL.nil (?_ : GC _ _ _ _)
      refine GC.cond_false rfl ?_
      refine GC.skip (?_ : GC _ _ _ _)
      refine GC.seq' ?_
      refine GC.region ?_
      refine GL.step rfl (t_mem rfl (m_loadN (i := 0) rfl rfl ag_23 (vs := [_, _]) sz_23 ⟨rfl, rfl, trivial⟩)) ?_
      refine GL.step rfl (t_call rfl fn_15 rfl (is := []) (js := [0]) rfl rfl (by exact begin_bad _ _ none [] 0 hs)) (GL.ret ?_)
      rintro _ _ _ ⟨rfl, rfl, rfl⟩
      refine GL.pure rfl (p_move rfl) ?_
      refine GL.pure rfl (p_extract rfl rfl) ?_
      refine GL.pure rfl (p_extract rfl rfl) ?_
      refine GL.pure rfl (p_extract rfl rfl) ?_
      refine GL.pure rfl (p_assign rfl) ?_
      refine GL.pure rfl (p_assign rfl) ?_
      refine GL.pure rfl (p_assign rfl) ?_
      refine GL.nil (?_ : GC _ _ _ _)
      refine GC.seq' ?_
      refine GC.seq' ?_
      refine GC.region ?_
      refine GL.pure rfl (p_move rfl) ?_
      refine GL.pure rfl (p_not rfl) ?_
      refine GL.pure rfl (p_move rfl) ?_
      refine GL.pureG (s := 29) rfl rfl rfl (p_move rfl) ?_
      refine GL.pureG (s := 29) rfl rfl rfl (p_pnil_eql Try.underlying36 rfl rfl) ?_
      refine GL.pure rfl (p_pick_false rfl rfl) ?_
      refine GL.nil (?_ : GC _ _ _ _)
      refine GC.cond_true rfl ?_
      refine GC.seq' ?_
      refine GC.region ?_
      refine GL.pure rfl (p_move rfl) ?_
      refine GL.pure rfl (p_assign rfl) ?_
      refine GL.nil (?_ : GC _ _ _ _)
      refine GC.ret ?_
      refine fun a w h => Fin.back (rs := [.tmp 6]) (vs := [_]) (is := []) (js := []) rfl ⟨rfl, trivial⟩ rfl rfl ?_ h
      clear h
      exact ⟨rfl, rfl, rfl⟩
end Go.Proofs.Ytihhpkbbhfcdcaa
