/- THE VOLUME: a volume as it was, with the pages that were changed since, is the later one: the walk of the law. -/
import Derived.Test.YtihhpkbbhfcdcaaVm2
set_option linter.unusedVariables false
set_option linter.unusedSimpArgs false
set_option maxRecDepth 100000
namespace Go.Proofs.Ytihhpkbbhfcdcaa
open Go Go.Sx Go.Proofs
theorem volumeChanged_ct (bl sz : Int) (A : Option Addr) (before : List Step) (cp : Nat) (B : Option Addr) (after : List Step) (cq : Nat) (hl : before.length ≤ 140737488351232) (hl2 : after.length ≤ 140737488351232) :
    Ct Try.prog 6 [shpV bl sz, .slice A before.length cp, .slice B after.length cq] [] [Pers.row kStep A before, Pers.row kStep B after] (fun v G Q => v = .bool true ∧ G = [] ∧ Q = []) := by
  by_cases hs : shapeOk bl sz
  · have h0 : VolOk (loadV bl sz []) := loadV_ok hs rfl
    refine Ct.intro Try.func6 rfl rfl rfl (fun c hc => ?_)
    refine GC.know (q := Pers.row kPage none []) (fun _ _ _ => .inl rfl) ?_
    refine GC.seq' ?_
    refine GC.region ?_
    refine GL.step rfl (t_box rfl rfl rfl) (GL.ex fun b_t3 => ?_)
    refine GL.pure rfl (p_assign rfl) ?_
    refine GL.nil (?_ : GC _ _ _ _)
    refine GC.seq' ?_
    refine GC.seq' ?_
    refine GC.region ?_
    refine GL.step rfl (t_call rfl fn_12 rfl (is := []) (js := []) rfl rfl (by exact awake_ct)) (GL.ret ?_)
    rintro _ _ _ ⟨rfl, rfl, rfl⟩
    refine GL.pure rfl (p_not rfl) ?_
    refine GL.nil (?_ : GC _ _ _ _)
    refine GC.cond_false rfl ?_
    refine GC.skip (?_ : GC _ _ _ _)
    refine GC.seq' ?_
    refine GC.region ?_
    refine GL.step rfl (t_mem rfl (m_loadN (i := 0) rfl rfl ag_23 (vs := [_, _]) sz_23 ⟨rfl, rfl, trivial⟩)) ?_
    refine GL.step rfl (t_call rfl fn_15 rfl (is := []) (js := [0]) rfl rfl (by exact begin_ok _ _ none [] 0 hs (by decide) (by simp) rfl)) (GL.ret ?_)
    rintro _ _ _ ⟨vp20, vb20, vv20, rp20, rB20, rV20, rc120, rc220, sp20, spv20, cs20, rfl, rfl, rfl⟩
    refine GL.pure rfl (p_move rfl) ?_
    refine GL.pure rfl (p_extract rfl rfl) ?_
    refine GL.pure rfl (p_extract rfl rfl) ?_
    refine GL.pure rfl (p_extract rfl rfl) ?_
    refine GL.pure rfl (p_assign rfl) ?_
    refine GL.pure rfl (p_assign rfl) ?_
    refine GL.pure rfl (p_assign rfl) ?_
    refine GL.nil (?_ : GC _ _ _ _)
    refine GC.seq' ?_
    refine GC.region ?_
    refine GL.step rfl (t_mem rfl (m_loadN (i := 6) rfl rfl ag_23 (vs := [_, _]) sz_23 ⟨rfl, rfl, trivial⟩)) ?_
    refine GL.step rfl (t_call rfl fn_15 rfl (is := []) (js := [1]) rfl rfl (by exact begin_ok _ _ none [] 0 hs (by decide) (by simp) rfl)) (GL.ret ?_)
    rintro _ _ _ ⟨vp26, vb26, vv26, rp26, rB26, rV26, rc126, rc226, sp26, spv26, cs26, rfl, rfl, rfl⟩
    refine GL.pure rfl (p_move rfl) ?_
    refine GL.pure rfl (p_extract rfl rfl) ?_
    refine GL.pure rfl (p_extract rfl rfl) ?_
    refine GL.pure rfl (p_extract rfl rfl) ?_
    refine GL.pure rfl (p_assign rfl) ?_
    refine GL.pure rfl (p_assign rfl) ?_
    refine GL.pure rfl (p_assign rfl) ?_
    refine GL.nil (?_ : GC _ _ _ _)
    refine GC.seq' ?_
    refine GC.seq' ?_
    refine GC.region ?_
    refine GL.pure rfl (p_move rfl) ?_
    refine GL.pure rfl (p_not rfl) ?_
    refine GL.pure rfl (p_move rfl) ?_
    refine GL.pureG (s := 32) rfl rfl rfl (p_move rfl) ?_
    refine GL.pureG (s := 32) rfl rfl rfl (p_not rfl) ?_
    refine GL.pure rfl (p_pick_false rfl rfl) ?_
    refine GL.pure rfl (p_move rfl) ?_
    refine GL.pureG (s := 36) rfl rfl rfl (p_move rfl) ?_
    refine GL.pureG (s := 36) rfl rfl rfl (p_pnil_eql Try.underlying36 rfl rfl) ?_
    refine GL.pure rfl (p_pick_false rfl rfl) ?_
    refine GL.pure rfl (p_move rfl) ?_
    refine GL.stepG rfl (s := 40) rfl rfl (t_mem rfl (m_loadN (i := 12) rfl rfl ag_23 (vs := [_, _]) sz_23 ⟨rfl, rfl, trivial⟩)) ?_
    refine GL.stepG rfl (s := 40) rfl rfl (t_call rfl fn_11 rfl (is := []) (js := []) rfl rfl (by exact small_ct _ _)) (GL.ret ?_)
    rintro _ _ _ ⟨rfl, rfl, rfl⟩
    refine GL.pureG (s := 40) rfl rfl rfl (p_not rfl) ?_
    refine GL.pure rfl (p_pick_false rfl rfl) ?_
    refine GL.nil (?_ : GC _ _ _ _)
    refine GC.cond rfl (fun h1 => ?_) (fun h1 => ?_)
    · try simp only [decide_eq_true_eq, decide_eq_false_iff_not, Bool.not_eq_true', Bool.not_eq_false', Bool.not_true, Bool.not_false, Bool.not_not, ne_eq, Decidable.not_not, Int.not_lt, Int.not_le, gt_iff_lt, ge_iff_le, bool_true_eq_, bool_false_eq_] at h1
      first
      | (exfalso; first | omega | (simp at h1; done))
      | (skip
         refine GC.seq' ?_
         refine GC.region ?_
         refine GL.pure rfl (p_move rfl) ?_
         refine GL.pure rfl (p_move rfl) ?_
         refine GL.pureG (s := 46) rfl rfl rfl (p_move rfl) ?_
         refine GL.pure rfl (p_pick_true rfl rfl) ?_
         refine GL.pure rfl (p_assign rfl) ?_
         refine GL.nil (?_ : GC _ _ _ _)
         refine GC.ret ?_
         refine fun a w h => Fin.back (rs := [.tmp 6]) (vs := [_]) (is := []) (js := []) rfl ⟨rfl, trivial⟩ rfl rfl ?_ h
         clear h
         exact ⟨rfl, rfl, rfl⟩)
    · try simp only [decide_eq_true_eq, decide_eq_false_iff_not, Bool.not_eq_true', Bool.not_eq_false', Bool.not_true, Bool.not_false, Bool.not_not, ne_eq, Decidable.not_not, Int.not_lt, Int.not_le, gt_iff_lt, ge_iff_le, bool_true_eq_, bool_false_eq_] at h1
      first
      | (exfalso; first | omega | (simp at h1; done))
      | (skip
         refine GC.skip (?_ : GC _ _ _ _)
         refine GC.seq' ?_
         refine GC.seq' ?_
         refine GC.region ?_
         refine GL.pure rfl (p_assign rfl) ?_
         refine GL.nil (?_ : GC _ _ _ _)
         refine GC.block ?_
         refine GC.imp (fun a w h => (⟨⟨by simp, h0⟩, h.cut (is := [6, 6, 6, 0, 0, 0]) (js := [3, 4]) ⟨rfl, rfl, rfl, rfl, rfl, trivial⟩ rfl rfl⟩ : (fun (y : Nat × Vol) (a : Act) (w : World) => (y.1 ≤ 200 ∧ VolOk y.2) ∧ St c 121 [(1, .slice A before.length cp), (2, .slice B after.length cq), (7, .pointer (some ⟨vp20, 0, none⟩)), (10, .pointer (some ⟨vp26, 0, none⟩)), (13, .int .i64 (y.1 : Int))] [.cells vp20 [.int .i64 y.2.bl, .int .i64 y.2.sz, .slice (some ⟨vb20, 0, none⟩) (y.2.bl * y.2.sz).toNat (y.2.bl * y.2.sz).toNat, .slice (some ⟨vv20, 0, none⟩) y.2.bl.toNat y.2.bl.toNat, .int .i64 y.2.last] 58, .cells vb20 (y.2.b.map u8v) 5, .cells vv20 (y.2.vs.map (Value.int .i64)) 3, .cells vp26 [.int .i64 y.2.bl, .int .i64 y.2.sz, .slice (some ⟨vb26, 0, none⟩) (y.2.bl * y.2.sz).toNat (y.2.bl * y.2.sz).toNat, .slice (some ⟨vv26, 0, none⟩) y.2.bl.toNat y.2.bl.toNat, .int .i64 y.2.last] 58, .cells vb26 (y.2.b.map u8v) 5, .cells vv26 (y.2.vs.map (Value.int .i64)) 3] [Pers.row kStep A before, Pers.row kStep B after] a w) (0, loadV bl sz []) a w)) (GC.loop (fun (y : Nat × Vol) (a : Act) (w : World) => (y.1 ≤ 200 ∧ VolOk y.2) ∧ St c 121 [(1, .slice A before.length cp), (2, .slice B after.length cq), (7, .pointer (some ⟨vp20, 0, none⟩)), (10, .pointer (some ⟨vp26, 0, none⟩)), (13, .int .i64 (y.1 : Int))] [.cells vp20 [.int .i64 y.2.bl, .int .i64 y.2.sz, .slice (some ⟨vb20, 0, none⟩) (y.2.bl * y.2.sz).toNat (y.2.bl * y.2.sz).toNat, .slice (some ⟨vv20, 0, none⟩) y.2.bl.toNat y.2.bl.toNat, .int .i64 y.2.last] 58, .cells vb20 (y.2.b.map u8v) 5, .cells vv20 (y.2.vs.map (Value.int .i64)) 3, .cells vp26 [.int .i64 y.2.bl, .int .i64 y.2.sz, .slice (some ⟨vb26, 0, none⟩) (y.2.bl * y.2.sz).toNat (y.2.bl * y.2.sz).toNat, .slice (some ⟨vv26, 0, none⟩) y.2.bl.toNat y.2.bl.toNat, .int .i64 y.2.last] 58, .cells vb26 (y.2.b.map u8v) 5, .cells vv26 (y.2.vs.map (Value.int .i64)) 3] [Pers.row kStep A before, Pers.row kStep B after] a w) (fun y => 200 - y.1) (0, loadV bl sz []) ?_)
         intro y
         refine GC.and fun hk => ?_
         obtain ⟨i, u⟩ := y
         dsimp only at hk ⊢
         obtain ⟨hk, hu⟩ := hk
         refine GC.seq' ?_
         refine GC.seq' ?_
         refine GC.region ?_
         refine GL.pure rfl (p_move rfl) ?_
         refine GL.pure rfl (p_move rfl) ?_
         refine GL.pure rfl (p_len Try.underlying35 rfl) ?_
         refine GL.pure rfl (p_lss rfl rfl) ?_
         refine GL.pure rfl (p_move rfl) ?_
         refine GL.split (i := 53) rfl (fun h2 => ?_) (fun h2 => ?_)
         · try simp only [decide_eq_true_eq, decide_eq_false_iff_not, Bool.not_eq_true', Bool.not_eq_false', Bool.not_true, Bool.not_false, Bool.not_not, ne_eq, Decidable.not_not, Int.not_lt, Int.not_le, gt_iff_lt, ge_iff_le, bool_true_eq_, bool_false_eq_] at h2
           first
           | (exfalso; first | omega | (simp at h2; done))
           | (skip
              refine GL.pureG (s := 53) rfl rfl rfl (p_move rfl) ?_
              refine GL.pureG (s := 53) rfl rfl rfl (p_lss rfl rfl) ?_
              refine GL.pure rfl (p_pick_true rfl rfl) ?_
              refine GL.nil (?_ : GC _ _ _ _)
              refine GC.cond rfl (fun h3 => ?_) (fun h3 => ?_)
              · try simp only [decide_eq_true_eq, decide_eq_false_iff_not, Bool.not_eq_true', Bool.not_eq_false', Bool.not_true, Bool.not_false, Bool.not_not, ne_eq, Decidable.not_not, Int.not_lt, Int.not_le, gt_iff_lt, ge_iff_le, bool_true_eq_, bool_false_eq_] at h3
                first
                | (exfalso; first | omega | (simp at h3; done))
                | (skip
                   refine GC.skip (?_ : GC _ _ _ _)
                   refine GC.seq' ?_
                   refine GC.block ?_
                   refine GC.seq' ?_
                   refine GC.region ?_
                   refine GL.pure rfl (p_move rfl) ?_
                   refine GL.pure rfl (p_move rfl) ?_
                   refine GL.pure rfl (p_move rfl) ?_
                   refine GL.step rfl (t_index (i := 0) rfl rfl rfl rfl Try.underlying35 sz_44 (by omega) (gt_ok (by omega) (by omega))) (GL.ex fun p_x62 => GL.ex fun r_x62 => GL.and fun ok_x62 => ?_)
                   rcases r_x62 with ⟨⟨_, ⟨_, ⟨_, ⟨⟨Ax62_0, cpx62_0⟩, ⟨Ax62_1, cpx62_1⟩⟩⟩⟩⟩, ⟨_, ⟨Ax62_2, cpx62_2⟩⟩⟩
                   refine GL.pure rfl (p_fieldAddr' fo_44_0 rfl) ?_
                   refine GL.step rfl (t_mem rfl (m_loadPN (i := 0) rfl rfl ag_42 (vs := [_, _, _, _, _]) sz_42 ⟨rfl, rfl, rfl, rfl, rfl, trivial⟩)) ?_
                   refine GL.pure rfl (p_move rfl) ?_
                   refine GL.pure rfl (p_add rfl rfl (w64 (by omega) (by omega))) ?_
                   refine GL.step rfl (t_call rfl fn_19 rfl (is := [0, 0, 0]) (js := [1, 2]) rfl rfl (by exact do_ct _ _ _ u (gt before (i : Int)).o _ _ _ _ ((i : Int) + 1) hu)) (GL.ret ?_)
                   rintro _ _ _ ⟨A67, cp67, l67, k67, rfl, rfl, rfl⟩
                   refine GL.nil (?_ : GC _ _ _ _)
                   refine GC.region ?_
                   refine GL.pure rfl (p_move rfl) ?_
                   refine GL.pure rfl (p_move rfl) ?_
                   refine GL.pure rfl (p_move rfl) ?_
                   refine GL.step rfl (t_index (i := 5) rfl rfl rfl rfl Try.underlying35 sz_44 (by omega) (gt_ok (by omega) (by omega))) (GL.ex fun p_x71 => GL.ex fun r_x71 => GL.and fun ok_x71 => ?_)
                   rcases r_x71 with ⟨⟨_, ⟨_, ⟨_, ⟨⟨Ax71_0, cpx71_0⟩, ⟨Ax71_1, cpx71_1⟩⟩⟩⟩⟩, ⟨_, ⟨Ax71_2, cpx71_2⟩⟩⟩
                   refine GL.pure rfl (p_fieldAddr' fo_44_0 rfl) ?_
                   refine GL.step rfl (t_mem rfl (m_loadPN (i := 0) rfl rfl ag_42 (vs := [_, _, _, _, _]) sz_42 ⟨rfl, rfl, rfl, rfl, rfl, trivial⟩)) ?_
                   refine GL.pure rfl (p_move rfl) ?_
                   refine GL.pure rfl (p_add rfl rfl (w64 (by omega) (by omega))) ?_
                   refine GL.step rfl (t_call rfl fn_19 rfl (is := [3, 3, 3]) (js := [1, 2]) rfl rfl (by exact do_ct _ _ _ u (gt before (i : Int)).o _ _ _ _ ((i : Int) + 1) hu)) (GL.ret ?_)
                   rintro _ _ _ ⟨A76, cp76, l76, k76, rfl, rfl, rfl⟩
                   refine GL.nil (?_ : GC _ _ _ _)
                   refine GC.region ?_
                   refine GL.pure rfl (p_move rfl) ?_
                   refine GL.pure rfl (p_add rfl rfl (w64 (by omega) (by omega))) ?_
                   refine GL.pure rfl (p_assign rfl) ?_
                   refine GL.nil ?_
                   exact fun a w h => ⟨(i + 1, (doF u (gt before (i : Int)).o ((i : Int) + 1)).2), (by simp only; omega), ⟨by simp only; omega, doF_ok hu _ _⟩, h.cut (is := [3, 3, 3, 0, 0, 0]) (js := [10, 11]) ⟨rfl, rfl, rfl, rfl, rfl, trivial⟩ rfl rfl⟩)
              · try simp only [decide_eq_true_eq, decide_eq_false_iff_not, Bool.not_eq_true', Bool.not_eq_false', Bool.not_true, Bool.not_false, Bool.not_not, ne_eq, Decidable.not_not, Int.not_lt, Int.not_le, gt_iff_lt, ge_iff_le, bool_true_eq_, bool_false_eq_] at h3
                first
                | (exfalso; first | omega | (simp at h3; done))
                | (skip
                   refine GC.exit (?_ : GC _ _ _ _)
                   refine GC.seq' ?_
                   refine GC.region ?_
                   refine GL.pure rfl (p_move rfl) ?_
                   refine GL.pure rfl (p_len Try.underlying35 rfl) ?_
                   refine GL.pure rfl (p_min2 rfl rfl) ?_
                   refine GL.pure rfl (p_assign rfl) ?_
                   refine GL.nil (?_ : GC _ _ _ _)
                   refine GC.seq' ?_
                   refine GC.seq' ?_
                   refine GC.region ?_
                   refine GL.pure rfl (p_assign rfl) ?_
                   refine GL.nil (?_ : GC _ _ _ _)
                   refine GC.block ?_
                   refine GC.imp (fun a w h => (⟨⟨by simp, hu, Later.refl _ _⟩, h.cut (is := [0, 0, 0, 0, 0, 0]) (js := [1]) ⟨rfl, rfl, rfl, rfl, rfl, trivial⟩ rfl rfl⟩ : (fun (y : Nat × Vol) (a : Act) (w : World) => (y.1 ≤ 200 ∧ VolOk y.2 ∧ Later (min (before.length : Int) 200) u y.2) ∧ St c 121 [(2, .slice B after.length cq), (7, .pointer (some ⟨vp20, 0, none⟩)), (10, .pointer (some ⟨vp26, 0, none⟩)), (14, .int .i64 (min (before.length : Int) 200)), (15, .int .i64 (y.1 : Int))] [.cells vp20 [.int .i64 y.2.bl, .int .i64 y.2.sz, .slice (some ⟨vb20, 0, none⟩) (y.2.bl * y.2.sz).toNat (y.2.bl * y.2.sz).toNat, .slice (some ⟨vv20, 0, none⟩) y.2.bl.toNat y.2.bl.toNat, .int .i64 y.2.last] 58, .cells vb20 (y.2.b.map u8v) 5, .cells vv20 (y.2.vs.map (Value.int .i64)) 3, .cells vp26 [.int .i64 u.bl, .int .i64 u.sz, .slice (some ⟨vb26, 0, none⟩) (u.bl * u.sz).toNat (u.bl * u.sz).toNat, .slice (some ⟨vv26, 0, none⟩) u.bl.toNat u.bl.toNat, .int .i64 u.last] 58, .cells vb26 (u.b.map u8v) 5, .cells vv26 (u.vs.map (Value.int .i64)) 3] [Pers.row kStep B after] a w) (0, u) a w)) (GC.loop (fun (y : Nat × Vol) (a : Act) (w : World) => (y.1 ≤ 200 ∧ VolOk y.2 ∧ Later (min (before.length : Int) 200) u y.2) ∧ St c 121 [(2, .slice B after.length cq), (7, .pointer (some ⟨vp20, 0, none⟩)), (10, .pointer (some ⟨vp26, 0, none⟩)), (14, .int .i64 (min (before.length : Int) 200)), (15, .int .i64 (y.1 : Int))] [.cells vp20 [.int .i64 y.2.bl, .int .i64 y.2.sz, .slice (some ⟨vb20, 0, none⟩) (y.2.bl * y.2.sz).toNat (y.2.bl * y.2.sz).toNat, .slice (some ⟨vv20, 0, none⟩) y.2.bl.toNat y.2.bl.toNat, .int .i64 y.2.last] 58, .cells vb20 (y.2.b.map u8v) 5, .cells vv20 (y.2.vs.map (Value.int .i64)) 3, .cells vp26 [.int .i64 u.bl, .int .i64 u.sz, .slice (some ⟨vb26, 0, none⟩) (u.bl * u.sz).toNat (u.bl * u.sz).toNat, .slice (some ⟨vv26, 0, none⟩) u.bl.toNat u.bl.toNat, .int .i64 u.last] 58, .cells vb26 (u.b.map u8v) 5, .cells vv26 (u.vs.map (Value.int .i64)) 3] [Pers.row kStep B after] a w) (fun y => 200 - y.1) (0, u) ?_)
                   intro y
                   refine GC.and fun hk2 => ?_
                   obtain ⟨k, v2⟩ := y
                   dsimp only at hk2 ⊢
                   obtain ⟨hk2, hv2, hlat⟩ := hk2
                   refine GC.seq' ?_
                   refine GC.seq' ?_
                   refine GC.region ?_
                   refine GL.pure rfl (p_move rfl) ?_
                   refine GL.pure rfl (p_move rfl) ?_
                   refine GL.pure rfl (p_len Try.underlying35 rfl) ?_
                   refine GL.pure rfl (p_lss rfl rfl) ?_
                   refine GL.pure rfl (p_move rfl) ?_
                   refine GL.split (i := 84) rfl (fun h4 => ?_) (fun h4 => ?_)
                   · try simp only [decide_eq_true_eq, decide_eq_false_iff_not, Bool.not_eq_true', Bool.not_eq_false', Bool.not_true, Bool.not_false, Bool.not_not, ne_eq, Decidable.not_not, Int.not_lt, Int.not_le, gt_iff_lt, ge_iff_le, bool_true_eq_, bool_false_eq_] at h4
                     first
                     | (exfalso; first | omega | (simp at h4; done))
                     | (skip
                        refine GL.pureG (s := 84) rfl rfl rfl (p_move rfl) ?_
                        refine GL.pureG (s := 84) rfl rfl rfl (p_lss rfl rfl) ?_
                        refine GL.pure rfl (p_pick_true rfl rfl) ?_
                        refine GL.nil (?_ : GC _ _ _ _)
                        refine GC.cond rfl (fun h5 => ?_) (fun h5 => ?_)
                        · try simp only [decide_eq_true_eq, decide_eq_false_iff_not, Bool.not_eq_true', Bool.not_eq_false', Bool.not_true, Bool.not_false, Bool.not_not, ne_eq, Decidable.not_not, Int.not_lt, Int.not_le, gt_iff_lt, ge_iff_le, bool_true_eq_, bool_false_eq_] at h5
                          first
                          | (exfalso; first | omega | (simp at h5; done))
                          | (skip
                             refine GC.skip (?_ : GC _ _ _ _)
                             refine GC.seq' ?_
                             refine GC.block ?_
                             refine GC.region ?_
                             refine GL.pure rfl (p_move rfl) ?_
                             refine GL.pure rfl (p_move rfl) ?_
                             refine GL.pure rfl (p_move rfl) ?_
                             refine GL.step rfl (t_index (i := 0) rfl rfl rfl rfl Try.underlying35 sz_44 (by omega) (gt_ok (by omega) (by omega))) (GL.ex fun p_x93 => GL.ex fun r_x93 => GL.and fun ok_x93 => ?_)
                             rcases r_x93 with ⟨⟨_, ⟨_, ⟨_, ⟨⟨Ax93_0, cpx93_0⟩, ⟨Ax93_1, cpx93_1⟩⟩⟩⟩⟩, ⟨_, ⟨Ax93_2, cpx93_2⟩⟩⟩
                             refine GL.pure rfl (p_fieldAddr' fo_44_0 rfl) ?_
                             refine GL.step rfl (t_mem rfl (m_loadPN (i := 0) rfl rfl ag_42 (vs := [_, _, _, _, _]) sz_42 ⟨rfl, rfl, rfl, rfl, rfl, trivial⟩)) ?_
                             refine GL.pure rfl (p_move rfl) ?_
                             refine GL.pure rfl (p_move rfl) ?_
                             refine GL.pure rfl (p_add rfl rfl (w64 (by omega) (by omega))) ?_
                             refine GL.pure rfl (p_add rfl rfl (w64 (by omega) (by omega))) ?_
                             refine GL.step rfl (t_call rfl fn_19 rfl (is := [0, 0, 0]) (js := [1, 2]) rfl rfl (by exact do_ct _ _ _ v2 (gt after (k : Int)).o _ _ _ _ ((min (before.length : Int) 200) + (k : Int) + 1) hv2)) (GL.ret ?_)
                             rintro _ _ _ ⟨A100, cp100, l100, k100, rfl, rfl, rfl⟩
                             refine GL.nil (?_ : GC _ _ _ _)
                             refine GC.region ?_
                             refine GL.pure rfl (p_move rfl) ?_
                             refine GL.pure rfl (p_add rfl rfl (w64 (by omega) (by omega))) ?_
                             refine GL.pure rfl (p_assign rfl) ?_
                             refine GL.nil ?_
                             exact fun a w h => ⟨(k + 1, (doF v2 (gt after (k : Int)).o ((min (before.length : Int) 200) + (k : Int) + 1)).2), (by simp only; omega), ⟨by simp only; omega, doF_ok hv2 _ _, hlat.step hv2 _ (by omega)⟩, h.cut (is := [0, 0, 0, 0, 0, 0]) (js := [5]) ⟨rfl, rfl, rfl, rfl, rfl, trivial⟩ rfl rfl⟩)
                        · try simp only [decide_eq_true_eq, decide_eq_false_iff_not, Bool.not_eq_true', Bool.not_eq_false', Bool.not_true, Bool.not_false, Bool.not_not, ne_eq, Decidable.not_not, Int.not_lt, Int.not_le, gt_iff_lt, ge_iff_le, bool_true_eq_, bool_false_eq_] at h5
                          first
                          | (exfalso; first | omega | (simp at h5; done))
                          | (skip
                             refine GC.exit (?_ : GC _ _ _ _)
                             refine GC.seq' ?_
                             refine GC.seq' ?_
                             refine GC.region ?_
                             have hsh := hv2.shp
                             simp only [shapeOk] at hsh
                             have hch := changed hu hv2 hlat (by omega)
                             have hlen : (pagesF v2 (min (before.length : Int) 200)).length ≤ 140737488355328 := by have := pagesA_le v2 (min (before.length : Int) 200) v2.bl.toNat; show (pagesA v2 (min (before.length : Int) 200) v2.bl.toNat).length ≤ _; omega
                             have hlen0 : (pagesF v2 0).length ≤ 140737488355328 := by have := pagesA_le v2 0 v2.bl.toNat; show (pagesA v2 0 v2.bl.toNat).length ≤ _; omega
                             refine GL.pure rfl (p_move rfl) ?_
                             refine GL.pure rfl (p_move rfl) ?_
                             refine GL.pure rfl (p_move rfl) ?_
                             refine GL.step rfl (t_call rfl fn_14 rfl (is := [0, 0, 0]) (js := []) rfl rfl (by exact pages_ct _ _ _ v2 _ hv2)) (GL.ret ?_)
                             rintro _ _ _ ⟨A104, cp104, cs104, l104, k104, rfl, rfl, rfl⟩
                             refine GL.freezeR (i := 0) (j := 0) rfl rfl (by decide) ?_
                             refine GL.step rfl (t_call rfl fn_21 rfl (is := [3, 3, 3]) (js := [0]) rfl rfl (by exact patch_eq _ _ _ u _ (pagesF v2 (min (before.length : Int) 200)) _ hu hlen _ _ hch.1)) (GL.ret ?_)
                             rintro _ _ _ ⟨rfl, rfl, rfl⟩
                             refine GL.pure rfl (p_neq rfl rfl) ?_
                             refine GL.nil (?_ : GC _ _ _ _)
                             refine GC.cond_false rfl ?_
                             refine GC.skip (?_ : GC _ _ _ _)
                             refine GC.seq' ?_
                             refine GC.regionM (m := 15) (M := fun a w => St c 121 [(6, .bool true)] [] [] a w) (is := []) (js := [0, 1, 2]) wide_ rfl rfl rfl ?_ ?_
                             · refine GA.take 0 rfl (by kernel_rfl) (by kernel_rfl) (by kernel_rfl) rfl (fun a w h => h.mem (is := []) (js := [0, 1, 2]) rfl rfl) (i_pure (p_move rfl)) ?_
                               refine GA.take 3 rfl (by kernel_rfl) (by kernel_rfl) (by kernel_rfl) rfl (fun a w h => h.mem (is := []) (js := [0, 1, 2]) rfl rfl) (i_pure (p_move rfl)) ?_
                               refine GA.all (rs := [1]) (by kernel_rfl) (by simp) ?_
                               refine GAs.cons (i := 1) rfl rfl (t_call rfl fn_13 rfl (is := [3, 3, 3]) (js := []) rfl rfl (by exact bytes_ct _ _ _ v2 hv2)) (by rintro a w ⟨_, _, _, ⟨A108, cp108, l108, k108, rfl, rfl, rfl⟩, h⟩; exact h.mem (is := []) (js := [0, 1, 2]) rfl rfl) (GA.ret ?_) ?_
                               · rintro _ _ _ ⟨A108, cp108, l108, k108, rfl, rfl, rfl⟩
                                 refine GA.freezeB (i := 0) rfl ?_
                                 refine GA.all (rs := [2, 4]) (by kernel_rfl) (by simp) ?_
                                 refine GAs.cons (i := 2) rfl rfl (t_mem rfl (m_str (i := 0) rfl rfl Try.underlying31 Try.underlying5 Try.underlying9)) (by rintro a w h; exact h.mem (is := []) (js := [1, 2, 3]) rfl rfl) ?_ ?_
                                 · refine GA.all (rs := [4]) (by kernel_rfl) (by simp) ?_
                                   refine GAs.cons (i := 4) rfl rfl (t_call rfl fn_13 rfl (is := [3, 3, 3]) (js := []) rfl rfl (by exact bytes_ct _ _ _ (putF u (pagesF v2 (min (before.length : Int) 200))) hch.2.1)) (by rintro a w ⟨_, _, _, ⟨A111, cp111, l111, k111, rfl, rfl, rfl⟩, h⟩; exact h.mem (is := []) (js := [1, 2, 3]) rfl rfl) (GA.ret ?_) ?_
                                   · rintro _ _ _ ⟨A111, cp111, l111, k111, rfl, rfl, rfl⟩
                                     refine GA.freezeB (i := 0) rfl ?_
                                     refine GA.all (rs := [5]) (by kernel_rfl) (by simp) ?_
                                     refine GAs.cons (i := 5) rfl rfl (t_mem rfl (m_str (i := 0) rfl rfl Try.underlying31 Try.underlying5 Try.underlying9)) (by rintro a w h; exact h.mem (is := []) (js := [2, 3, 4]) rfl rfl) ?_ ?_
                                     · refine GA.take 6 rfl (by kernel_rfl) (by kernel_rfl) (by kernel_rfl) rfl (fun a w h => h.mem (is := []) (js := [2, 3, 4]) rfl rfl) (i_pure (p_seqT rfl rfl (by rw [hch.2.2.1]))) ?_
                                       refine GA.take 7 rfl (by kernel_rfl) (by kernel_rfl) (by kernel_rfl) rfl (fun a w h => h.mem (is := []) (js := [2, 3, 4]) rfl rfl) (i_pure (p_move rfl)) ?_
                                       refine GA.takeG (s := 114) 8 rfl rfl rfl (by kernel_rfl) (by kernel_rfl) (by kernel_rfl) rfl (fun a w h => h.mem (is := []) (js := [2, 3, 4]) rfl rfl) (i_pure (p_move rfl)) ?_
                                       refine GA.takeG (s := 114) 10 rfl rfl rfl (by kernel_rfl) (by kernel_rfl) (by kernel_rfl) rfl (fun a w h => h.mem (is := []) (js := [2, 3, 4]) rfl rfl) (i_pure (p_move rfl)) ?_
                                       refine GA.all (rs := [9]) (by kernel_rfl) (by simp) ?_
                                       refine GAs.consG (i := 9) (s := 114) rfl rfl rfl rfl (t_call rfl fn_14 rfl (is := [3, 3, 3]) (js := []) rfl rfl (by exact pages_ct _ _ _ v2 _ hv2)) (by rintro a w ⟨_, _, _, ⟨A116, cp116, cs116, l116, k116, rfl, rfl, rfl⟩, h⟩; exact h.mem (is := []) (js := [3, 4, 5]) rfl rfl) (GA.ret ?_) ?_
                                       · rintro _ _ _ ⟨A116, cp116, cs116, l116, k116, rfl, rfl, rfl⟩
                                         refine GA.all (rs := [11]) (by kernel_rfl) (by simp) ?_
                                         refine GAs.consG (i := 11) (s := 114) rfl rfl rfl rfl (t_call rfl fn_14 rfl (is := [4, 4, 4]) (js := []) rfl rfl (by exact pages_eq _ _ _ (putF u (pagesF v2 (min (before.length : Int) 200))) _ hch.2.1 (pagesF v2 0) (hch.2.2.2 0))) (by rintro a w ⟨_, _, _, ⟨A118, cp118, cs118, l118, k118, rfl, rfl, rfl⟩, h⟩; exact h.mem (is := []) (js := [4, 5, 6]) rfl rfl) (GA.ret ?_) ?_
                                         · rintro _ _ _ ⟨A118, cp118, cs118, l118, k118, rfl, rfl, rfl⟩
                                           refine GA.freezeR (i := 4) (j := 1) rfl rfl (by decide) ?_
                                           refine GA.freezeR (i := 0) (j := 1) rfl rfl (by decide) ?_
                                           refine GA.all (rs := [12]) (by kernel_rfl) (by simp) ?_
                                           refine GAs.consG (i := 12) (s := 114) rfl rfl rfl rfl (t_call rfl fn_17 rfl (is := []) (js := [1, 0]) rfl rfl (by exact pgself_ct (pagesF v2 0) _ _ _ _ hlen0)) (by rintro a w ⟨_, _, _, ⟨rfl, rfl, rfl⟩, h⟩; exact h.mem (is := []) (js := [6, 7, 8]) rfl rfl) (GA.ret ?_) ?_
                                           · rintro _ _ _ ⟨rfl, rfl, rfl⟩
                                             refine GA.take 13 rfl (by kernel_rfl) (by kernel_rfl) (by kernel_rfl) rfl (fun a w h => h.mem (is := []) (js := [6, 7, 8]) rfl rfl) (i_pure (p_pick_true rfl rfl)) ?_
                                             refine GA.take 14 rfl (by kernel_rfl) (by kernel_rfl) (by kernel_rfl) rfl (fun a w h => h.mem (is := []) (js := [6, 7, 8]) rfl rfl) (i_pure (p_assign rfl)) ?_
                                             exact GA.done (by kernel_rfl) (fun a w h => h.cut (is := []) (js := []) ⟨rfl, trivial⟩ rfl rfl)
                                           exact GAs.nil
                                         exact GAs.nil
                                       exact GAs.nil
                                     exact GAs.nil
                                   exact GAs.nil
                                 refine GAs.cons (i := 4) rfl rfl (t_call rfl fn_13 rfl (is := [3, 3, 3]) (js := []) rfl rfl (by exact bytes_ct _ _ _ (putF u (pagesF v2 (min (before.length : Int) 200))) hch.2.1)) (by rintro a w ⟨_, _, _, ⟨A111, cp111, l111, k111, rfl, rfl, rfl⟩, h⟩; exact h.mem (is := []) (js := [1, 2, 3]) rfl rfl) (GA.ret ?_) ?_
                                 · rintro _ _ _ ⟨A111, cp111, l111, k111, rfl, rfl, rfl⟩
                                   refine GA.freezeB (i := 0) rfl ?_
                                   refine GA.all (rs := [2, 5]) (by kernel_rfl) (by simp) ?_
                                   refine GAs.cons (i := 2) rfl rfl (t_mem rfl (m_str (i := 1) rfl rfl Try.underlying31 Try.underlying5 Try.underlying9)) (by rintro a w h; exact h.mem (is := []) (js := [2, 3, 4]) rfl rfl) ?_ ?_
                                   · refine GA.all (rs := [5]) (by kernel_rfl) (by simp) ?_
                                     refine GAs.cons (i := 5) rfl rfl (t_mem rfl (m_str (i := 0) rfl rfl Try.underlying31 Try.underlying5 Try.underlying9)) (by rintro a w h; exact h.mem (is := []) (js := [2, 3, 4]) rfl rfl) ?_ ?_
                                     · refine GA.take 6 rfl (by kernel_rfl) (by kernel_rfl) (by kernel_rfl) rfl (fun a w h => h.mem (is := []) (js := [2, 3, 4]) rfl rfl) (i_pure (p_seqT rfl rfl (by rw [hch.2.2.1]))) ?_
                                       refine GA.take 7 rfl (by kernel_rfl) (by kernel_rfl) (by kernel_rfl) rfl (fun a w h => h.mem (is := []) (js := [2, 3, 4]) rfl rfl) (i_pure (p_move rfl)) ?_
                                       refine GA.takeG (s := 114) 8 rfl rfl rfl (by kernel_rfl) (by kernel_rfl) (by kernel_rfl) rfl (fun a w h => h.mem (is := []) (js := [2, 3, 4]) rfl rfl) (i_pure (p_move rfl)) ?_
                                       refine GA.takeG (s := 114) 10 rfl rfl rfl (by kernel_rfl) (by kernel_rfl) (by kernel_rfl) rfl (fun a w h => h.mem (is := []) (js := [2, 3, 4]) rfl rfl) (i_pure (p_move rfl)) ?_
                                       refine GA.all (rs := [9]) (by kernel_rfl) (by simp) ?_
                                       refine GAs.consG (i := 9) (s := 114) rfl rfl rfl rfl (t_call rfl fn_14 rfl (is := [3, 3, 3]) (js := []) rfl rfl (by exact pages_ct _ _ _ v2 _ hv2)) (by rintro a w ⟨_, _, _, ⟨A116, cp116, cs116, l116, k116, rfl, rfl, rfl⟩, h⟩; exact h.mem (is := []) (js := [3, 4, 5]) rfl rfl) (GA.ret ?_) ?_
                                       · rintro _ _ _ ⟨A116, cp116, cs116, l116, k116, rfl, rfl, rfl⟩
                                         refine GA.all (rs := [11]) (by kernel_rfl) (by simp) ?_
                                         refine GAs.consG (i := 11) (s := 114) rfl rfl rfl rfl (t_call rfl fn_14 rfl (is := [4, 4, 4]) (js := []) rfl rfl (by exact pages_eq _ _ _ (putF u (pagesF v2 (min (before.length : Int) 200))) _ hch.2.1 (pagesF v2 0) (hch.2.2.2 0))) (by rintro a w ⟨_, _, _, ⟨A118, cp118, cs118, l118, k118, rfl, rfl, rfl⟩, h⟩; exact h.mem (is := []) (js := [4, 5, 6]) rfl rfl) (GA.ret ?_) ?_
                                         · rintro _ _ _ ⟨A118, cp118, cs118, l118, k118, rfl, rfl, rfl⟩
                                           refine GA.freezeR (i := 4) (j := 1) rfl rfl (by decide) ?_
                                           refine GA.freezeR (i := 0) (j := 1) rfl rfl (by decide) ?_
                                           refine GA.all (rs := [12]) (by kernel_rfl) (by simp) ?_
                                           refine GAs.consG (i := 12) (s := 114) rfl rfl rfl rfl (t_call rfl fn_17 rfl (is := []) (js := [1, 0]) rfl rfl (by exact pgself_ct (pagesF v2 0) _ _ _ _ hlen0)) (by rintro a w ⟨_, _, _, ⟨rfl, rfl, rfl⟩, h⟩; exact h.mem (is := []) (js := [6, 7, 8]) rfl rfl) (GA.ret ?_) ?_
                                           · rintro _ _ _ ⟨rfl, rfl, rfl⟩
                                             refine GA.take 13 rfl (by kernel_rfl) (by kernel_rfl) (by kernel_rfl) rfl (fun a w h => h.mem (is := []) (js := [6, 7, 8]) rfl rfl) (i_pure (p_pick_true rfl rfl)) ?_
                                             refine GA.take 14 rfl (by kernel_rfl) (by kernel_rfl) (by kernel_rfl) rfl (fun a w h => h.mem (is := []) (js := [6, 7, 8]) rfl rfl) (i_pure (p_assign rfl)) ?_
                                             exact GA.done (by kernel_rfl) (fun a w h => h.cut (is := []) (js := []) ⟨rfl, trivial⟩ rfl rfl)
                                           exact GAs.nil
                                         exact GAs.nil
                                       exact GAs.nil
                                     exact GAs.nil
                                   refine GAs.cons (i := 5) rfl rfl (t_mem rfl (m_str (i := 0) rfl rfl Try.underlying31 Try.underlying5 Try.underlying9)) (by rintro a w h; exact h.mem (is := []) (js := [2, 3, 4]) rfl rfl) ?_ ?_
                                   · refine GA.all (rs := [2]) (by kernel_rfl) (by simp) ?_
                                     refine GAs.cons (i := 2) rfl rfl (t_mem rfl (m_str (i := 1) rfl rfl Try.underlying31 Try.underlying5 Try.underlying9)) (by rintro a w h; exact h.mem (is := []) (js := [2, 3, 4]) rfl rfl) ?_ ?_
                                     · refine GA.take 6 rfl (by kernel_rfl) (by kernel_rfl) (by kernel_rfl) rfl (fun a w h => h.mem (is := []) (js := [2, 3, 4]) rfl rfl) (i_pure (p_seqT rfl rfl (by rw [hch.2.2.1]))) ?_
                                       refine GA.take 7 rfl (by kernel_rfl) (by kernel_rfl) (by kernel_rfl) rfl (fun a w h => h.mem (is := []) (js := [2, 3, 4]) rfl rfl) (i_pure (p_move rfl)) ?_
                                       refine GA.takeG (s := 114) 8 rfl rfl rfl (by kernel_rfl) (by kernel_rfl) (by kernel_rfl) rfl (fun a w h => h.mem (is := []) (js := [2, 3, 4]) rfl rfl) (i_pure (p_move rfl)) ?_
                                       refine GA.takeG (s := 114) 10 rfl rfl rfl (by kernel_rfl) (by kernel_rfl) (by kernel_rfl) rfl (fun a w h => h.mem (is := []) (js := [2, 3, 4]) rfl rfl) (i_pure (p_move rfl)) ?_
                                       refine GA.all (rs := [9]) (by kernel_rfl) (by simp) ?_
                                       refine GAs.consG (i := 9) (s := 114) rfl rfl rfl rfl (t_call rfl fn_14 rfl (is := [3, 3, 3]) (js := []) rfl rfl (by exact pages_ct _ _ _ v2 _ hv2)) (by rintro a w ⟨_, _, _, ⟨A116, cp116, cs116, l116, k116, rfl, rfl, rfl⟩, h⟩; exact h.mem (is := []) (js := [3, 4, 5]) rfl rfl) (GA.ret ?_) ?_
                                       · rintro _ _ _ ⟨A116, cp116, cs116, l116, k116, rfl, rfl, rfl⟩
                                         refine GA.all (rs := [11]) (by kernel_rfl) (by simp) ?_
                                         refine GAs.consG (i := 11) (s := 114) rfl rfl rfl rfl (t_call rfl fn_14 rfl (is := [4, 4, 4]) (js := []) rfl rfl (by exact pages_eq _ _ _ (putF u (pagesF v2 (min (before.length : Int) 200))) _ hch.2.1 (pagesF v2 0) (hch.2.2.2 0))) (by rintro a w ⟨_, _, _, ⟨A118, cp118, cs118, l118, k118, rfl, rfl, rfl⟩, h⟩; exact h.mem (is := []) (js := [4, 5, 6]) rfl rfl) (GA.ret ?_) ?_
                                         · rintro _ _ _ ⟨A118, cp118, cs118, l118, k118, rfl, rfl, rfl⟩
                                           refine GA.freezeR (i := 4) (j := 1) rfl rfl (by decide) ?_
                                           refine GA.freezeR (i := 0) (j := 1) rfl rfl (by decide) ?_
                                           refine GA.all (rs := [12]) (by kernel_rfl) (by simp) ?_
                                           refine GAs.consG (i := 12) (s := 114) rfl rfl rfl rfl (t_call rfl fn_17 rfl (is := []) (js := [1, 0]) rfl rfl (by exact pgself_ct (pagesF v2 0) _ _ _ _ hlen0)) (by rintro a w ⟨_, _, _, ⟨rfl, rfl, rfl⟩, h⟩; exact h.mem (is := []) (js := [6, 7, 8]) rfl rfl) (GA.ret ?_) ?_
                                           · rintro _ _ _ ⟨rfl, rfl, rfl⟩
                                             refine GA.take 13 rfl (by kernel_rfl) (by kernel_rfl) (by kernel_rfl) rfl (fun a w h => h.mem (is := []) (js := [6, 7, 8]) rfl rfl) (i_pure (p_pick_true rfl rfl)) ?_
                                             refine GA.take 14 rfl (by kernel_rfl) (by kernel_rfl) (by kernel_rfl) rfl (fun a w h => h.mem (is := []) (js := [6, 7, 8]) rfl rfl) (i_pure (p_assign rfl)) ?_
                                             exact GA.done (by kernel_rfl) (fun a w h => h.cut (is := []) (js := []) ⟨rfl, trivial⟩ rfl rfl)
                                           exact GAs.nil
                                         exact GAs.nil
                                       exact GAs.nil
                                     exact GAs.nil
                                   exact GAs.nil
                                 exact GAs.nil
                               exact GAs.nil
                             · refine (?_ : GC _ _ _ _)
                               refine GC.ret ?_
                               refine fun a w h => Fin.back (rs := [.tmp 6]) (vs := [_]) (is := []) (js := []) rfl ⟨rfl, trivial⟩ rfl rfl ?_ h
                               clear h
                               exact ⟨rfl, rfl, rfl⟩))
                   · try simp only [decide_eq_true_eq, decide_eq_false_iff_not, Bool.not_eq_true', Bool.not_eq_false', Bool.not_true, Bool.not_false, Bool.not_not, ne_eq, Decidable.not_not, Int.not_lt, Int.not_le, gt_iff_lt, ge_iff_le, bool_true_eq_, bool_false_eq_] at h4
                     first
                     | (exfalso; first | omega | (simp at h4; done))
                     | (skip
                        refine GL.pass (s := 84) rfl rfl rfl ?_
                        refine GL.pass (s := 84) rfl rfl rfl ?_
                        refine GL.pure rfl (p_pick_false rfl rfl) ?_
                        refine GL.nil (?_ : GC _ _ _ _)
                        refine GC.cond_false rfl ?_
                        refine GC.exit (?_ : GC _ _ _ _)
                        refine GC.seq' ?_
                        refine GC.seq' ?_
                        refine GC.region ?_
                        have hsh := hv2.shp
                        simp only [shapeOk] at hsh
                        have hch := changed hu hv2 hlat (by omega)
                        have hlen : (pagesF v2 (min (before.length : Int) 200)).length ≤ 140737488355328 := by have := pagesA_le v2 (min (before.length : Int) 200) v2.bl.toNat; show (pagesA v2 (min (before.length : Int) 200) v2.bl.toNat).length ≤ _; omega
                        have hlen0 : (pagesF v2 0).length ≤ 140737488355328 := by have := pagesA_le v2 0 v2.bl.toNat; show (pagesA v2 0 v2.bl.toNat).length ≤ _; omega
                        refine GL.pure rfl (p_move rfl) ?_
                        refine GL.pure rfl (p_move rfl) ?_
                        refine GL.pure rfl (p_move rfl) ?_
                        refine GL.step rfl (t_call rfl fn_14 rfl (is := [0, 0, 0]) (js := []) rfl rfl (by exact pages_ct _ _ _ v2 _ hv2)) (GL.ret ?_)
                        rintro _ _ _ ⟨A104, cp104, cs104, l104, k104, rfl, rfl, rfl⟩
                        refine GL.freezeR (i := 0) (j := 0) rfl rfl (by decide) ?_
                        refine GL.step rfl (t_call rfl fn_21 rfl (is := [3, 3, 3]) (js := [0]) rfl rfl (by exact patch_eq _ _ _ u _ (pagesF v2 (min (before.length : Int) 200)) _ hu hlen _ _ hch.1)) (GL.ret ?_)
                        rintro _ _ _ ⟨rfl, rfl, rfl⟩
                        refine GL.pure rfl (p_neq rfl rfl) ?_
                        refine GL.nil (?_ : GC _ _ _ _)
                        refine GC.cond_false rfl ?_
                        refine GC.skip (?_ : GC _ _ _ _)
                        refine GC.seq' ?_
                        refine GC.regionM (m := 15) (M := fun a w => St c 121 [(6, .bool true)] [] [] a w) (is := []) (js := [0, 1, 2]) wide_ rfl rfl rfl ?_ ?_
                        · refine GA.take 0 rfl (by kernel_rfl) (by kernel_rfl) (by kernel_rfl) rfl (fun a w h => h.mem (is := []) (js := [0, 1, 2]) rfl rfl) (i_pure (p_move rfl)) ?_
                          refine GA.take 3 rfl (by kernel_rfl) (by kernel_rfl) (by kernel_rfl) rfl (fun a w h => h.mem (is := []) (js := [0, 1, 2]) rfl rfl) (i_pure (p_move rfl)) ?_
                          refine GA.all (rs := [1]) (by kernel_rfl) (by simp) ?_
                          refine GAs.cons (i := 1) rfl rfl (t_call rfl fn_13 rfl (is := [3, 3, 3]) (js := []) rfl rfl (by exact bytes_ct _ _ _ v2 hv2)) (by rintro a w ⟨_, _, _, ⟨A108, cp108, l108, k108, rfl, rfl, rfl⟩, h⟩; exact h.mem (is := []) (js := [0, 1, 2]) rfl rfl) (GA.ret ?_) ?_
                          · rintro _ _ _ ⟨A108, cp108, l108, k108, rfl, rfl, rfl⟩
                            refine GA.freezeB (i := 0) rfl ?_
                            refine GA.all (rs := [2, 4]) (by kernel_rfl) (by simp) ?_
                            refine GAs.cons (i := 2) rfl rfl (t_mem rfl (m_str (i := 0) rfl rfl Try.underlying31 Try.underlying5 Try.underlying9)) (by rintro a w h; exact h.mem (is := []) (js := [1, 2, 3]) rfl rfl) ?_ ?_
                            · refine GA.all (rs := [4]) (by kernel_rfl) (by simp) ?_
                              refine GAs.cons (i := 4) rfl rfl (t_call rfl fn_13 rfl (is := [3, 3, 3]) (js := []) rfl rfl (by exact bytes_ct _ _ _ (putF u (pagesF v2 (min (before.length : Int) 200))) hch.2.1)) (by rintro a w ⟨_, _, _, ⟨A111, cp111, l111, k111, rfl, rfl, rfl⟩, h⟩; exact h.mem (is := []) (js := [1, 2, 3]) rfl rfl) (GA.ret ?_) ?_
                              · rintro _ _ _ ⟨A111, cp111, l111, k111, rfl, rfl, rfl⟩
                                refine GA.freezeB (i := 0) rfl ?_
                                refine GA.all (rs := [5]) (by kernel_rfl) (by simp) ?_
                                refine GAs.cons (i := 5) rfl rfl (t_mem rfl (m_str (i := 0) rfl rfl Try.underlying31 Try.underlying5 Try.underlying9)) (by rintro a w h; exact h.mem (is := []) (js := [2, 3, 4]) rfl rfl) ?_ ?_
                                · refine GA.take 6 rfl (by kernel_rfl) (by kernel_rfl) (by kernel_rfl) rfl (fun a w h => h.mem (is := []) (js := [2, 3, 4]) rfl rfl) (i_pure (p_seqT rfl rfl (by rw [hch.2.2.1]))) ?_
                                  refine GA.take 7 rfl (by kernel_rfl) (by kernel_rfl) (by kernel_rfl) rfl (fun a w h => h.mem (is := []) (js := [2, 3, 4]) rfl rfl) (i_pure (p_move rfl)) ?_
                                  refine GA.takeG (s := 114) 8 rfl rfl rfl (by kernel_rfl) (by kernel_rfl) (by kernel_rfl) rfl (fun a w h => h.mem (is := []) (js := [2, 3, 4]) rfl rfl) (i_pure (p_move rfl)) ?_
                                  refine GA.takeG (s := 114) 10 rfl rfl rfl (by kernel_rfl) (by kernel_rfl) (by kernel_rfl) rfl (fun a w h => h.mem (is := []) (js := [2, 3, 4]) rfl rfl) (i_pure (p_move rfl)) ?_
                                  refine GA.all (rs := [9]) (by kernel_rfl) (by simp) ?_
                                  refine GAs.consG (i := 9) (s := 114) rfl rfl rfl rfl (t_call rfl fn_14 rfl (is := [3, 3, 3]) (js := []) rfl rfl (by exact pages_ct _ _ _ v2 _ hv2)) (by rintro a w ⟨_, _, _, ⟨A116, cp116, cs116, l116, k116, rfl, rfl, rfl⟩, h⟩; exact h.mem (is := []) (js := [3, 4, 5]) rfl rfl) (GA.ret ?_) ?_
                                  · rintro _ _ _ ⟨A116, cp116, cs116, l116, k116, rfl, rfl, rfl⟩
                                    refine GA.all (rs := [11]) (by kernel_rfl) (by simp) ?_
                                    refine GAs.consG (i := 11) (s := 114) rfl rfl rfl rfl (t_call rfl fn_14 rfl (is := [4, 4, 4]) (js := []) rfl rfl (by exact pages_eq _ _ _ (putF u (pagesF v2 (min (before.length : Int) 200))) _ hch.2.1 (pagesF v2 0) (hch.2.2.2 0))) (by rintro a w ⟨_, _, _, ⟨A118, cp118, cs118, l118, k118, rfl, rfl, rfl⟩, h⟩; exact h.mem (is := []) (js := [4, 5, 6]) rfl rfl) (GA.ret ?_) ?_
                                    · rintro _ _ _ ⟨A118, cp118, cs118, l118, k118, rfl, rfl, rfl⟩
                                      refine GA.freezeR (i := 4) (j := 1) rfl rfl (by decide) ?_
                                      refine GA.freezeR (i := 0) (j := 1) rfl rfl (by decide) ?_
                                      refine GA.all (rs := [12]) (by kernel_rfl) (by simp) ?_
                                      refine GAs.consG (i := 12) (s := 114) rfl rfl rfl rfl (t_call rfl fn_17 rfl (is := []) (js := [1, 0]) rfl rfl (by exact pgself_ct (pagesF v2 0) _ _ _ _ hlen0)) (by rintro a w ⟨_, _, _, ⟨rfl, rfl, rfl⟩, h⟩; exact h.mem (is := []) (js := [6, 7, 8]) rfl rfl) (GA.ret ?_) ?_
                                      · rintro _ _ _ ⟨rfl, rfl, rfl⟩
                                        refine GA.take 13 rfl (by kernel_rfl) (by kernel_rfl) (by kernel_rfl) rfl (fun a w h => h.mem (is := []) (js := [6, 7, 8]) rfl rfl) (i_pure (p_pick_true rfl rfl)) ?_
                                        refine GA.take 14 rfl (by kernel_rfl) (by kernel_rfl) (by kernel_rfl) rfl (fun a w h => h.mem (is := []) (js := [6, 7, 8]) rfl rfl) (i_pure (p_assign rfl)) ?_
                                        exact GA.done (by kernel_rfl) (fun a w h => h.cut (is := []) (js := []) ⟨rfl, trivial⟩ rfl rfl)
                                      exact GAs.nil
                                    exact GAs.nil
                                  exact GAs.nil
                                exact GAs.nil
                              exact GAs.nil
                            refine GAs.cons (i := 4) rfl rfl (t_call rfl fn_13 rfl (is := [3, 3, 3]) (js := []) rfl rfl (by exact bytes_ct _ _ _ (putF u (pagesF v2 (min (before.length : Int) 200))) hch.2.1)) (by rintro a w ⟨_, _, _, ⟨A111, cp111, l111, k111, rfl, rfl, rfl⟩, h⟩; exact h.mem (is := []) (js := [1, 2, 3]) rfl rfl) (GA.ret ?_) ?_
                            · rintro _ _ _ ⟨A111, cp111, l111, k111, rfl, rfl, rfl⟩
                              refine GA.freezeB (i := 0) rfl ?_
                              refine GA.all (rs := [2, 5]) (by kernel_rfl) (by simp) ?_
                              refine GAs.cons (i := 2) rfl rfl (t_mem rfl (m_str (i := 1) rfl rfl Try.underlying31 Try.underlying5 Try.underlying9)) (by rintro a w h; exact h.mem (is := []) (js := [2, 3, 4]) rfl rfl) ?_ ?_
                              · refine GA.all (rs := [5]) (by kernel_rfl) (by simp) ?_
                                refine GAs.cons (i := 5) rfl rfl (t_mem rfl (m_str (i := 0) rfl rfl Try.underlying31 Try.underlying5 Try.underlying9)) (by rintro a w h; exact h.mem (is := []) (js := [2, 3, 4]) rfl rfl) ?_ ?_
                                · refine GA.take 6 rfl (by kernel_rfl) (by kernel_rfl) (by kernel_rfl) rfl (fun a w h => h.mem (is := []) (js := [2, 3, 4]) rfl rfl) (i_pure (p_seqT rfl rfl (by rw [hch.2.2.1]))) ?_
                                  refine GA.take 7 rfl (by kernel_rfl) (by kernel_rfl) (by kernel_rfl) rfl (fun a w h => h.mem (is := []) (js := [2, 3, 4]) rfl rfl) (i_pure (p_move rfl)) ?_
                                  refine GA.takeG (s := 114) 8 rfl rfl rfl (by kernel_rfl) (by kernel_rfl) (by kernel_rfl) rfl (fun a w h => h.mem (is := []) (js := [2, 3, 4]) rfl rfl) (i_pure (p_move rfl)) ?_
                                  refine GA.takeG (s := 114) 10 rfl rfl rfl (by kernel_rfl) (by kernel_rfl) (by kernel_rfl) rfl (fun a w h => h.mem (is := []) (js := [2, 3, 4]) rfl rfl) (i_pure (p_move rfl)) ?_
                                  refine GA.all (rs := [9]) (by kernel_rfl) (by simp) ?_
                                  refine GAs.consG (i := 9) (s := 114) rfl rfl rfl rfl (t_call rfl fn_14 rfl (is := [3, 3, 3]) (js := []) rfl rfl (by exact pages_ct _ _ _ v2 _ hv2)) (by rintro a w ⟨_, _, _, ⟨A116, cp116, cs116, l116, k116, rfl, rfl, rfl⟩, h⟩; exact h.mem (is := []) (js := [3, 4, 5]) rfl rfl) (GA.ret ?_) ?_
                                  · rintro _ _ _ ⟨A116, cp116, cs116, l116, k116, rfl, rfl, rfl⟩
                                    refine GA.all (rs := [11]) (by kernel_rfl) (by simp) ?_
                                    refine GAs.consG (i := 11) (s := 114) rfl rfl rfl rfl (t_call rfl fn_14 rfl (is := [4, 4, 4]) (js := []) rfl rfl (by exact pages_eq _ _ _ (putF u (pagesF v2 (min (before.length : Int) 200))) _ hch.2.1 (pagesF v2 0) (hch.2.2.2 0))) (by rintro a w ⟨_, _, _, ⟨A118, cp118, cs118, l118, k118, rfl, rfl, rfl⟩, h⟩; exact h.mem (is := []) (js := [4, 5, 6]) rfl rfl) (GA.ret ?_) ?_
                                    · rintro _ _ _ ⟨A118, cp118, cs118, l118, k118, rfl, rfl, rfl⟩
                                      refine GA.freezeR (i := 4) (j := 1) rfl rfl (by decide) ?_
                                      refine GA.freezeR (i := 0) (j := 1) rfl rfl (by decide) ?_
                                      refine GA.all (rs := [12]) (by kernel_rfl) (by simp) ?_
                                      refine GAs.consG (i := 12) (s := 114) rfl rfl rfl rfl (t_call rfl fn_17 rfl (is := []) (js := [1, 0]) rfl rfl (by exact pgself_ct (pagesF v2 0) _ _ _ _ hlen0)) (by rintro a w ⟨_, _, _, ⟨rfl, rfl, rfl⟩, h⟩; exact h.mem (is := []) (js := [6, 7, 8]) rfl rfl) (GA.ret ?_) ?_
                                      · rintro _ _ _ ⟨rfl, rfl, rfl⟩
                                        refine GA.take 13 rfl (by kernel_rfl) (by kernel_rfl) (by kernel_rfl) rfl (fun a w h => h.mem (is := []) (js := [6, 7, 8]) rfl rfl) (i_pure (p_pick_true rfl rfl)) ?_
                                        refine GA.take 14 rfl (by kernel_rfl) (by kernel_rfl) (by kernel_rfl) rfl (fun a w h => h.mem (is := []) (js := [6, 7, 8]) rfl rfl) (i_pure (p_assign rfl)) ?_
                                        exact GA.done (by kernel_rfl) (fun a w h => h.cut (is := []) (js := []) ⟨rfl, trivial⟩ rfl rfl)
                                      exact GAs.nil
                                    exact GAs.nil
                                  exact GAs.nil
                                exact GAs.nil
                              refine GAs.cons (i := 5) rfl rfl (t_mem rfl (m_str (i := 0) rfl rfl Try.underlying31 Try.underlying5 Try.underlying9)) (by rintro a w h; exact h.mem (is := []) (js := [2, 3, 4]) rfl rfl) ?_ ?_
                              · refine GA.all (rs := [2]) (by kernel_rfl) (by simp) ?_
                                refine GAs.cons (i := 2) rfl rfl (t_mem rfl (m_str (i := 1) rfl rfl Try.underlying31 Try.underlying5 Try.underlying9)) (by rintro a w h; exact h.mem (is := []) (js := [2, 3, 4]) rfl rfl) ?_ ?_
                                · refine GA.take 6 rfl (by kernel_rfl) (by kernel_rfl) (by kernel_rfl) rfl (fun a w h => h.mem (is := []) (js := [2, 3, 4]) rfl rfl) (i_pure (p_seqT rfl rfl (by rw [hch.2.2.1]))) ?_
                                  refine GA.take 7 rfl (by kernel_rfl) (by kernel_rfl) (by kernel_rfl) rfl (fun a w h => h.mem (is := []) (js := [2, 3, 4]) rfl rfl) (i_pure (p_move rfl)) ?_
                                  refine GA.takeG (s := 114) 8 rfl rfl rfl (by kernel_rfl) (by kernel_rfl) (by kernel_rfl) rfl (fun a w h => h.mem (is := []) (js := [2, 3, 4]) rfl rfl) (i_pure (p_move rfl)) ?_
                                  refine GA.takeG (s := 114) 10 rfl rfl rfl (by kernel_rfl) (by kernel_rfl) (by kernel_rfl) rfl (fun a w h => h.mem (is := []) (js := [2, 3, 4]) rfl rfl) (i_pure (p_move rfl)) ?_
                                  refine GA.all (rs := [9]) (by kernel_rfl) (by simp) ?_
                                  refine GAs.consG (i := 9) (s := 114) rfl rfl rfl rfl (t_call rfl fn_14 rfl (is := [3, 3, 3]) (js := []) rfl rfl (by exact pages_ct _ _ _ v2 _ hv2)) (by rintro a w ⟨_, _, _, ⟨A116, cp116, cs116, l116, k116, rfl, rfl, rfl⟩, h⟩; exact h.mem (is := []) (js := [3, 4, 5]) rfl rfl) (GA.ret ?_) ?_
                                  · rintro _ _ _ ⟨A116, cp116, cs116, l116, k116, rfl, rfl, rfl⟩
                                    refine GA.all (rs := [11]) (by kernel_rfl) (by simp) ?_
                                    refine GAs.consG (i := 11) (s := 114) rfl rfl rfl rfl (t_call rfl fn_14 rfl (is := [4, 4, 4]) (js := []) rfl rfl (by exact pages_eq _ _ _ (putF u (pagesF v2 (min (before.length : Int) 200))) _ hch.2.1 (pagesF v2 0) (hch.2.2.2 0))) (by rintro a w ⟨_, _, _, ⟨A118, cp118, cs118, l118, k118, rfl, rfl, rfl⟩, h⟩; exact h.mem (is := []) (js := [4, 5, 6]) rfl rfl) (GA.ret ?_) ?_
                                    · rintro _ _ _ ⟨A118, cp118, cs118, l118, k118, rfl, rfl, rfl⟩
                                      refine GA.freezeR (i := 4) (j := 1) rfl rfl (by decide) ?_
                                      refine GA.freezeR (i := 0) (j := 1) rfl rfl (by decide) ?_
                                      refine GA.all (rs := [12]) (by kernel_rfl) (by simp) ?_
                                      refine GAs.consG (i := 12) (s := 114) rfl rfl rfl rfl (t_call rfl fn_17 rfl (is := []) (js := [1, 0]) rfl rfl (by exact pgself_ct (pagesF v2 0) _ _ _ _ hlen0)) (by rintro a w ⟨_, _, _, ⟨rfl, rfl, rfl⟩, h⟩; exact h.mem (is := []) (js := [6, 7, 8]) rfl rfl) (GA.ret ?_) ?_
                                      · rintro _ _ _ ⟨rfl, rfl, rfl⟩
                                        refine GA.take 13 rfl (by kernel_rfl) (by kernel_rfl) (by kernel_rfl) rfl (fun a w h => h.mem (is := []) (js := [6, 7, 8]) rfl rfl) (i_pure (p_pick_true rfl rfl)) ?_
                                        refine GA.take 14 rfl (by kernel_rfl) (by kernel_rfl) (by kernel_rfl) rfl (fun a w h => h.mem (is := []) (js := [6, 7, 8]) rfl rfl) (i_pure (p_assign rfl)) ?_
                                        exact GA.done (by kernel_rfl) (fun a w h => h.cut (is := []) (js := []) ⟨rfl, trivial⟩ rfl rfl)
                                      exact GAs.nil
                                    exact GAs.nil
                                  exact GAs.nil
                                exact GAs.nil
                              exact GAs.nil
                            exact GAs.nil
                          exact GAs.nil
                        · refine (?_ : GC _ _ _ _)
                          refine GC.ret ?_
                          refine fun a w h => Fin.back (rs := [.tmp 6]) (vs := [_]) (is := []) (js := []) rfl ⟨rfl, trivial⟩ rfl rfl ?_ h
                          clear h
                          exact ⟨rfl, rfl, rfl⟩)))
         · try simp only [decide_eq_true_eq, decide_eq_false_iff_not, Bool.not_eq_true', Bool.not_eq_false', Bool.not_true, Bool.not_false, Bool.not_not, ne_eq, Decidable.not_not, Int.not_lt, Int.not_le, gt_iff_lt, ge_iff_le, bool_true_eq_, bool_false_eq_] at h2
           first
           | (exfalso; first | omega | (simp at h2; done))
           | (skip
              refine GL.pass (s := 53) rfl rfl rfl ?_
              refine GL.pass (s := 53) rfl rfl rfl ?_
              refine GL.pure rfl (p_pick_false rfl rfl) ?_
              refine GL.nil (?_ : GC _ _ _ _)
              refine GC.cond_false rfl ?_
              refine GC.exit (?_ : GC _ _ _ _)
              refine GC.seq' ?_
              refine GC.region ?_
              refine GL.pure rfl (p_move rfl) ?_
              refine GL.pure rfl (p_len Try.underlying35 rfl) ?_
              refine GL.pure rfl (p_min2 rfl rfl) ?_
              refine GL.pure rfl (p_assign rfl) ?_
              refine GL.nil (?_ : GC _ _ _ _)
              refine GC.seq' ?_
              refine GC.seq' ?_
              refine GC.region ?_
              refine GL.pure rfl (p_assign rfl) ?_
              refine GL.nil (?_ : GC _ _ _ _)
              refine GC.block ?_
              refine GC.imp (fun a w h => (⟨⟨by simp, hu, Later.refl _ _⟩, h.cut (is := [0, 0, 0, 0, 0, 0]) (js := [1]) ⟨rfl, rfl, rfl, rfl, rfl, trivial⟩ rfl rfl⟩ : (fun (y : Nat × Vol) (a : Act) (w : World) => (y.1 ≤ 200 ∧ VolOk y.2 ∧ Later (min (before.length : Int) 200) u y.2) ∧ St c 121 [(2, .slice B after.length cq), (7, .pointer (some ⟨vp20, 0, none⟩)), (10, .pointer (some ⟨vp26, 0, none⟩)), (14, .int .i64 (min (before.length : Int) 200)), (15, .int .i64 (y.1 : Int))] [.cells vp20 [.int .i64 y.2.bl, .int .i64 y.2.sz, .slice (some ⟨vb20, 0, none⟩) (y.2.bl * y.2.sz).toNat (y.2.bl * y.2.sz).toNat, .slice (some ⟨vv20, 0, none⟩) y.2.bl.toNat y.2.bl.toNat, .int .i64 y.2.last] 58, .cells vb20 (y.2.b.map u8v) 5, .cells vv20 (y.2.vs.map (Value.int .i64)) 3, .cells vp26 [.int .i64 u.bl, .int .i64 u.sz, .slice (some ⟨vb26, 0, none⟩) (u.bl * u.sz).toNat (u.bl * u.sz).toNat, .slice (some ⟨vv26, 0, none⟩) u.bl.toNat u.bl.toNat, .int .i64 u.last] 58, .cells vb26 (u.b.map u8v) 5, .cells vv26 (u.vs.map (Value.int .i64)) 3] [Pers.row kStep B after] a w) (0, u) a w)) (GC.loop (fun (y : Nat × Vol) (a : Act) (w : World) => (y.1 ≤ 200 ∧ VolOk y.2 ∧ Later (min (before.length : Int) 200) u y.2) ∧ St c 121 [(2, .slice B after.length cq), (7, .pointer (some ⟨vp20, 0, none⟩)), (10, .pointer (some ⟨vp26, 0, none⟩)), (14, .int .i64 (min (before.length : Int) 200)), (15, .int .i64 (y.1 : Int))] [.cells vp20 [.int .i64 y.2.bl, .int .i64 y.2.sz, .slice (some ⟨vb20, 0, none⟩) (y.2.bl * y.2.sz).toNat (y.2.bl * y.2.sz).toNat, .slice (some ⟨vv20, 0, none⟩) y.2.bl.toNat y.2.bl.toNat, .int .i64 y.2.last] 58, .cells vb20 (y.2.b.map u8v) 5, .cells vv20 (y.2.vs.map (Value.int .i64)) 3, .cells vp26 [.int .i64 u.bl, .int .i64 u.sz, .slice (some ⟨vb26, 0, none⟩) (u.bl * u.sz).toNat (u.bl * u.sz).toNat, .slice (some ⟨vv26, 0, none⟩) u.bl.toNat u.bl.toNat, .int .i64 u.last] 58, .cells vb26 (u.b.map u8v) 5, .cells vv26 (u.vs.map (Value.int .i64)) 3] [Pers.row kStep B after] a w) (fun y => 200 - y.1) (0, u) ?_)
              intro y
              refine GC.and fun hk2 => ?_
              obtain ⟨k, v2⟩ := y
              dsimp only at hk2 ⊢
              obtain ⟨hk2, hv2, hlat⟩ := hk2
              refine GC.seq' ?_
              refine GC.seq' ?_
              refine GC.region ?_
              refine GL.pure rfl (p_move rfl) ?_
              refine GL.pure rfl (p_move rfl) ?_
              refine GL.pure rfl (p_len Try.underlying35 rfl) ?_
              refine GL.pure rfl (p_lss rfl rfl) ?_
              refine GL.pure rfl (p_move rfl) ?_
              refine GL.split (i := 84) rfl (fun h6 => ?_) (fun h6 => ?_)
              · try simp only [decide_eq_true_eq, decide_eq_false_iff_not, Bool.not_eq_true', Bool.not_eq_false', Bool.not_true, Bool.not_false, Bool.not_not, ne_eq, Decidable.not_not, Int.not_lt, Int.not_le, gt_iff_lt, ge_iff_le, bool_true_eq_, bool_false_eq_] at h6
                first
                | (exfalso; first | omega | (simp at h6; done))
                | (skip
                   refine GL.pureG (s := 84) rfl rfl rfl (p_move rfl) ?_
                   refine GL.pureG (s := 84) rfl rfl rfl (p_lss rfl rfl) ?_
                   refine GL.pure rfl (p_pick_true rfl rfl) ?_
                   refine GL.nil (?_ : GC _ _ _ _)
                   refine GC.cond rfl (fun h7 => ?_) (fun h7 => ?_)
                   · try simp only [decide_eq_true_eq, decide_eq_false_iff_not, Bool.not_eq_true', Bool.not_eq_false', Bool.not_true, Bool.not_false, Bool.not_not, ne_eq, Decidable.not_not, Int.not_lt, Int.not_le, gt_iff_lt, ge_iff_le, bool_true_eq_, bool_false_eq_] at h7
                     first
                     | (exfalso; first | omega | (simp at h7; done))
                     | (skip
                        refine GC.skip (?_ : GC _ _ _ _)
                        refine GC.seq' ?_
                        refine GC.block ?_
                        refine GC.region ?_
                        refine GL.pure rfl (p_move rfl) ?_
                        refine GL.pure rfl (p_move rfl) ?_
                        refine GL.pure rfl (p_move rfl) ?_
                        refine GL.step rfl (t_index (i := 0) rfl rfl rfl rfl Try.underlying35 sz_44 (by omega) (gt_ok (by omega) (by omega))) (GL.ex fun p_x93 => GL.ex fun r_x93 => GL.and fun ok_x93 => ?_)
                        rcases r_x93 with ⟨⟨_, ⟨_, ⟨_, ⟨⟨Ax93_0, cpx93_0⟩, ⟨Ax93_1, cpx93_1⟩⟩⟩⟩⟩, ⟨_, ⟨Ax93_2, cpx93_2⟩⟩⟩
                        refine GL.pure rfl (p_fieldAddr' fo_44_0 rfl) ?_
                        refine GL.step rfl (t_mem rfl (m_loadPN (i := 0) rfl rfl ag_42 (vs := [_, _, _, _, _]) sz_42 ⟨rfl, rfl, rfl, rfl, rfl, trivial⟩)) ?_
                        refine GL.pure rfl (p_move rfl) ?_
                        refine GL.pure rfl (p_move rfl) ?_
                        refine GL.pure rfl (p_add rfl rfl (w64 (by omega) (by omega))) ?_
                        refine GL.pure rfl (p_add rfl rfl (w64 (by omega) (by omega))) ?_
                        refine GL.step rfl (t_call rfl fn_19 rfl (is := [0, 0, 0]) (js := [1, 2]) rfl rfl (by exact do_ct _ _ _ v2 (gt after (k : Int)).o _ _ _ _ ((min (before.length : Int) 200) + (k : Int) + 1) hv2)) (GL.ret ?_)
                        rintro _ _ _ ⟨A100, cp100, l100, k100, rfl, rfl, rfl⟩
                        refine GL.nil (?_ : GC _ _ _ _)
                        refine GC.region ?_
                        refine GL.pure rfl (p_move rfl) ?_
                        refine GL.pure rfl (p_add rfl rfl (w64 (by omega) (by omega))) ?_
                        refine GL.pure rfl (p_assign rfl) ?_
                        refine GL.nil ?_
                        exact fun a w h => ⟨(k + 1, (doF v2 (gt after (k : Int)).o ((min (before.length : Int) 200) + (k : Int) + 1)).2), (by simp only; omega), ⟨by simp only; omega, doF_ok hv2 _ _, hlat.step hv2 _ (by omega)⟩, h.cut (is := [0, 0, 0, 0, 0, 0]) (js := [5]) ⟨rfl, rfl, rfl, rfl, rfl, trivial⟩ rfl rfl⟩)
                   · try simp only [decide_eq_true_eq, decide_eq_false_iff_not, Bool.not_eq_true', Bool.not_eq_false', Bool.not_true, Bool.not_false, Bool.not_not, ne_eq, Decidable.not_not, Int.not_lt, Int.not_le, gt_iff_lt, ge_iff_le, bool_true_eq_, bool_false_eq_] at h7
                     first
                     | (exfalso; first | omega | (simp at h7; done))
                     | (skip
                        refine GC.exit (?_ : GC _ _ _ _)
                        refine GC.seq' ?_
                        refine GC.seq' ?_
                        refine GC.region ?_
                        have hsh := hv2.shp
                        simp only [shapeOk] at hsh
                        have hch := changed hu hv2 hlat (by omega)
                        have hlen : (pagesF v2 (min (before.length : Int) 200)).length ≤ 140737488355328 := by have := pagesA_le v2 (min (before.length : Int) 200) v2.bl.toNat; show (pagesA v2 (min (before.length : Int) 200) v2.bl.toNat).length ≤ _; omega
                        have hlen0 : (pagesF v2 0).length ≤ 140737488355328 := by have := pagesA_le v2 0 v2.bl.toNat; show (pagesA v2 0 v2.bl.toNat).length ≤ _; omega
                        refine GL.pure rfl (p_move rfl) ?_
                        refine GL.pure rfl (p_move rfl) ?_
                        refine GL.pure rfl (p_move rfl) ?_
                        refine GL.step rfl (t_call rfl fn_14 rfl (is := [0, 0, 0]) (js := []) rfl rfl (by exact pages_ct _ _ _ v2 _ hv2)) (GL.ret ?_)
                        rintro _ _ _ ⟨A104, cp104, cs104, l104, k104, rfl, rfl, rfl⟩
                        refine GL.freezeR (i := 0) (j := 0) rfl rfl (by decide) ?_
                        refine GL.step rfl (t_call rfl fn_21 rfl (is := [3, 3, 3]) (js := [0]) rfl rfl (by exact patch_eq _ _ _ u _ (pagesF v2 (min (before.length : Int) 200)) _ hu hlen _ _ hch.1)) (GL.ret ?_)
                        rintro _ _ _ ⟨rfl, rfl, rfl⟩
                        refine GL.pure rfl (p_neq rfl rfl) ?_
                        refine GL.nil (?_ : GC _ _ _ _)
                        refine GC.cond_false rfl ?_
                        refine GC.skip (?_ : GC _ _ _ _)
                        refine GC.seq' ?_
                        refine GC.regionM (m := 15) (M := fun a w => St c 121 [(6, .bool true)] [] [] a w) (is := []) (js := [0, 1, 2]) wide_ rfl rfl rfl ?_ ?_
                        · refine GA.take 0 rfl (by kernel_rfl) (by kernel_rfl) (by kernel_rfl) rfl (fun a w h => h.mem (is := []) (js := [0, 1, 2]) rfl rfl) (i_pure (p_move rfl)) ?_
                          refine GA.take 3 rfl (by kernel_rfl) (by kernel_rfl) (by kernel_rfl) rfl (fun a w h => h.mem (is := []) (js := [0, 1, 2]) rfl rfl) (i_pure (p_move rfl)) ?_
                          refine GA.all (rs := [1]) (by kernel_rfl) (by simp) ?_
                          refine GAs.cons (i := 1) rfl rfl (t_call rfl fn_13 rfl (is := [3, 3, 3]) (js := []) rfl rfl (by exact bytes_ct _ _ _ v2 hv2)) (by rintro a w ⟨_, _, _, ⟨A108, cp108, l108, k108, rfl, rfl, rfl⟩, h⟩; exact h.mem (is := []) (js := [0, 1, 2]) rfl rfl) (GA.ret ?_) ?_
                          · rintro _ _ _ ⟨A108, cp108, l108, k108, rfl, rfl, rfl⟩
                            refine GA.freezeB (i := 0) rfl ?_
                            refine GA.all (rs := [2, 4]) (by kernel_rfl) (by simp) ?_
                            refine GAs.cons (i := 2) rfl rfl (t_mem rfl (m_str (i := 0) rfl rfl Try.underlying31 Try.underlying5 Try.underlying9)) (by rintro a w h; exact h.mem (is := []) (js := [1, 2, 3]) rfl rfl) ?_ ?_
                            · refine GA.all (rs := [4]) (by kernel_rfl) (by simp) ?_
                              refine GAs.cons (i := 4) rfl rfl (t_call rfl fn_13 rfl (is := [3, 3, 3]) (js := []) rfl rfl (by exact bytes_ct _ _ _ (putF u (pagesF v2 (min (before.length : Int) 200))) hch.2.1)) (by rintro a w ⟨_, _, _, ⟨A111, cp111, l111, k111, rfl, rfl, rfl⟩, h⟩; exact h.mem (is := []) (js := [1, 2, 3]) rfl rfl) (GA.ret ?_) ?_
                              · rintro _ _ _ ⟨A111, cp111, l111, k111, rfl, rfl, rfl⟩
                                refine GA.freezeB (i := 0) rfl ?_
                                refine GA.all (rs := [5]) (by kernel_rfl) (by simp) ?_
                                refine GAs.cons (i := 5) rfl rfl (t_mem rfl (m_str (i := 0) rfl rfl Try.underlying31 Try.underlying5 Try.underlying9)) (by rintro a w h; exact h.mem (is := []) (js := [2, 3, 4]) rfl rfl) ?_ ?_
                                · refine GA.take 6 rfl (by kernel_rfl) (by kernel_rfl) (by kernel_rfl) rfl (fun a w h => h.mem (is := []) (js := [2, 3, 4]) rfl rfl) (i_pure (p_seqT rfl rfl (by rw [hch.2.2.1]))) ?_
                                  refine GA.take 7 rfl (by kernel_rfl) (by kernel_rfl) (by kernel_rfl) rfl (fun a w h => h.mem (is := []) (js := [2, 3, 4]) rfl rfl) (i_pure (p_move rfl)) ?_
                                  refine GA.takeG (s := 114) 8 rfl rfl rfl (by kernel_rfl) (by kernel_rfl) (by kernel_rfl) rfl (fun a w h => h.mem (is := []) (js := [2, 3, 4]) rfl rfl) (i_pure (p_move rfl)) ?_
                                  refine GA.takeG (s := 114) 10 rfl rfl rfl (by kernel_rfl) (by kernel_rfl) (by kernel_rfl) rfl (fun a w h => h.mem (is := []) (js := [2, 3, 4]) rfl rfl) (i_pure (p_move rfl)) ?_
                                  refine GA.all (rs := [9]) (by kernel_rfl) (by simp) ?_
                                  refine GAs.consG (i := 9) (s := 114) rfl rfl rfl rfl (t_call rfl fn_14 rfl (is := [3, 3, 3]) (js := []) rfl rfl (by exact pages_ct _ _ _ v2 _ hv2)) (by rintro a w ⟨_, _, _, ⟨A116, cp116, cs116, l116, k116, rfl, rfl, rfl⟩, h⟩; exact h.mem (is := []) (js := [3, 4, 5]) rfl rfl) (GA.ret ?_) ?_
                                  · rintro _ _ _ ⟨A116, cp116, cs116, l116, k116, rfl, rfl, rfl⟩
                                    refine GA.all (rs := [11]) (by kernel_rfl) (by simp) ?_
                                    refine GAs.consG (i := 11) (s := 114) rfl rfl rfl rfl (t_call rfl fn_14 rfl (is := [4, 4, 4]) (js := []) rfl rfl (by exact pages_eq _ _ _ (putF u (pagesF v2 (min (before.length : Int) 200))) _ hch.2.1 (pagesF v2 0) (hch.2.2.2 0))) (by rintro a w ⟨_, _, _, ⟨A118, cp118, cs118, l118, k118, rfl, rfl, rfl⟩, h⟩; exact h.mem (is := []) (js := [4, 5, 6]) rfl rfl) (GA.ret ?_) ?_
                                    · rintro _ _ _ ⟨A118, cp118, cs118, l118, k118, rfl, rfl, rfl⟩
                                      refine GA.freezeR (i := 4) (j := 1) rfl rfl (by decide) ?_
                                      refine GA.freezeR (i := 0) (j := 1) rfl rfl (by decide) ?_
                                      refine GA.all (rs := [12]) (by kernel_rfl) (by simp) ?_
                                      refine GAs.consG (i := 12) (s := 114) rfl rfl rfl rfl (t_call rfl fn_17 rfl (is := []) (js := [1, 0]) rfl rfl (by exact pgself_ct (pagesF v2 0) _ _ _ _ hlen0)) (by rintro a w ⟨_, _, _, ⟨rfl, rfl, rfl⟩, h⟩; exact h.mem (is := []) (js := [6, 7, 8]) rfl rfl) (GA.ret ?_) ?_
                                      · rintro _ _ _ ⟨rfl, rfl, rfl⟩
                                        refine GA.take 13 rfl (by kernel_rfl) (by kernel_rfl) (by kernel_rfl) rfl (fun a w h => h.mem (is := []) (js := [6, 7, 8]) rfl rfl) (i_pure (p_pick_true rfl rfl)) ?_
                                        refine GA.take 14 rfl (by kernel_rfl) (by kernel_rfl) (by kernel_rfl) rfl (fun a w h => h.mem (is := []) (js := [6, 7, 8]) rfl rfl) (i_pure (p_assign rfl)) ?_
                                        exact GA.done (by kernel_rfl) (fun a w h => h.cut (is := []) (js := []) ⟨rfl, trivial⟩ rfl rfl)
                                      exact GAs.nil
                                    exact GAs.nil
                                  exact GAs.nil
                                exact GAs.nil
                              exact GAs.nil
                            refine GAs.cons (i := 4) rfl rfl (t_call rfl fn_13 rfl (is := [3, 3, 3]) (js := []) rfl rfl (by exact bytes_ct _ _ _ (putF u (pagesF v2 (min (before.length : Int) 200))) hch.2.1)) (by rintro a w ⟨_, _, _, ⟨A111, cp111, l111, k111, rfl, rfl, rfl⟩, h⟩; exact h.mem (is := []) (js := [1, 2, 3]) rfl rfl) (GA.ret ?_) ?_
                            · rintro _ _ _ ⟨A111, cp111, l111, k111, rfl, rfl, rfl⟩
                              refine GA.freezeB (i := 0) rfl ?_
                              refine GA.all (rs := [2, 5]) (by kernel_rfl) (by simp) ?_
                              refine GAs.cons (i := 2) rfl rfl (t_mem rfl (m_str (i := 1) rfl rfl Try.underlying31 Try.underlying5 Try.underlying9)) (by rintro a w h; exact h.mem (is := []) (js := [2, 3, 4]) rfl rfl) ?_ ?_
                              · refine GA.all (rs := [5]) (by kernel_rfl) (by simp) ?_
                                refine GAs.cons (i := 5) rfl rfl (t_mem rfl (m_str (i := 0) rfl rfl Try.underlying31 Try.underlying5 Try.underlying9)) (by rintro a w h; exact h.mem (is := []) (js := [2, 3, 4]) rfl rfl) ?_ ?_
                                · refine GA.take 6 rfl (by kernel_rfl) (by kernel_rfl) (by kernel_rfl) rfl (fun a w h => h.mem (is := []) (js := [2, 3, 4]) rfl rfl) (i_pure (p_seqT rfl rfl (by rw [hch.2.2.1]))) ?_
                                  refine GA.take 7 rfl (by kernel_rfl) (by kernel_rfl) (by kernel_rfl) rfl (fun a w h => h.mem (is := []) (js := [2, 3, 4]) rfl rfl) (i_pure (p_move rfl)) ?_
                                  refine GA.takeG (s := 114) 8 rfl rfl rfl (by kernel_rfl) (by kernel_rfl) (by kernel_rfl) rfl (fun a w h => h.mem (is := []) (js := [2, 3, 4]) rfl rfl) (i_pure (p_move rfl)) ?_
                                  refine GA.takeG (s := 114) 10 rfl rfl rfl (by kernel_rfl) (by kernel_rfl) (by kernel_rfl) rfl (fun a w h => h.mem (is := []) (js := [2, 3, 4]) rfl rfl) (i_pure (p_move rfl)) ?_
                                  refine GA.all (rs := [9]) (by kernel_rfl) (by simp) ?_
                                  refine GAs.consG (i := 9) (s := 114) rfl rfl rfl rfl (t_call rfl fn_14 rfl (is := [3, 3, 3]) (js := []) rfl rfl (by exact pages_ct _ _ _ v2 _ hv2)) (by rintro a w ⟨_, _, _, ⟨A116, cp116, cs116, l116, k116, rfl, rfl, rfl⟩, h⟩; exact h.mem (is := []) (js := [3, 4, 5]) rfl rfl) (GA.ret ?_) ?_
                                  · rintro _ _ _ ⟨A116, cp116, cs116, l116, k116, rfl, rfl, rfl⟩
                                    refine GA.all (rs := [11]) (by kernel_rfl) (by simp) ?_
                                    refine GAs.consG (i := 11) (s := 114) rfl rfl rfl rfl (t_call rfl fn_14 rfl (is := [4, 4, 4]) (js := []) rfl rfl (by exact pages_eq _ _ _ (putF u (pagesF v2 (min (before.length : Int) 200))) _ hch.2.1 (pagesF v2 0) (hch.2.2.2 0))) (by rintro a w ⟨_, _, _, ⟨A118, cp118, cs118, l118, k118, rfl, rfl, rfl⟩, h⟩; exact h.mem (is := []) (js := [4, 5, 6]) rfl rfl) (GA.ret ?_) ?_
                                    · rintro _ _ _ ⟨A118, cp118, cs118, l118, k118, rfl, rfl, rfl⟩
                                      refine GA.freezeR (i := 4) (j := 1) rfl rfl (by decide) ?_
                                      refine GA.freezeR (i := 0) (j := 1) rfl rfl (by decide) ?_
                                      refine GA.all (rs := [12]) (by kernel_rfl) (by simp) ?_
                                      refine GAs.consG (i := 12) (s := 114) rfl rfl rfl rfl (t_call rfl fn_17 rfl (is := []) (js := [1, 0]) rfl rfl (by exact pgself_ct (pagesF v2 0) _ _ _ _ hlen0)) (by rintro a w ⟨_, _, _, ⟨rfl, rfl, rfl⟩, h⟩; exact h.mem (is := []) (js := [6, 7, 8]) rfl rfl) (GA.ret ?_) ?_
                                      · rintro _ _ _ ⟨rfl, rfl, rfl⟩
                                        refine GA.take 13 rfl (by kernel_rfl) (by kernel_rfl) (by kernel_rfl) rfl (fun a w h => h.mem (is := []) (js := [6, 7, 8]) rfl rfl) (i_pure (p_pick_true rfl rfl)) ?_
                                        refine GA.take 14 rfl (by kernel_rfl) (by kernel_rfl) (by kernel_rfl) rfl (fun a w h => h.mem (is := []) (js := [6, 7, 8]) rfl rfl) (i_pure (p_assign rfl)) ?_
                                        exact GA.done (by kernel_rfl) (fun a w h => h.cut (is := []) (js := []) ⟨rfl, trivial⟩ rfl rfl)
                                      exact GAs.nil
                                    exact GAs.nil
                                  exact GAs.nil
                                exact GAs.nil
                              refine GAs.cons (i := 5) rfl rfl (t_mem rfl (m_str (i := 0) rfl rfl Try.underlying31 Try.underlying5 Try.underlying9)) (by rintro a w h; exact h.mem (is := []) (js := [2, 3, 4]) rfl rfl) ?_ ?_
                              · refine GA.all (rs := [2]) (by kernel_rfl) (by simp) ?_
                                refine GAs.cons (i := 2) rfl rfl (t_mem rfl (m_str (i := 1) rfl rfl Try.underlying31 Try.underlying5 Try.underlying9)) (by rintro a w h; exact h.mem (is := []) (js := [2, 3, 4]) rfl rfl) ?_ ?_
                                · refine GA.take 6 rfl (by kernel_rfl) (by kernel_rfl) (by kernel_rfl) rfl (fun a w h => h.mem (is := []) (js := [2, 3, 4]) rfl rfl) (i_pure (p_seqT rfl rfl (by rw [hch.2.2.1]))) ?_
                                  refine GA.take 7 rfl (by kernel_rfl) (by kernel_rfl) (by kernel_rfl) rfl (fun a w h => h.mem (is := []) (js := [2, 3, 4]) rfl rfl) (i_pure (p_move rfl)) ?_
                                  refine GA.takeG (s := 114) 8 rfl rfl rfl (by kernel_rfl) (by kernel_rfl) (by kernel_rfl) rfl (fun a w h => h.mem (is := []) (js := [2, 3, 4]) rfl rfl) (i_pure (p_move rfl)) ?_
                                  refine GA.takeG (s := 114) 10 rfl rfl rfl (by kernel_rfl) (by kernel_rfl) (by kernel_rfl) rfl (fun a w h => h.mem (is := []) (js := [2, 3, 4]) rfl rfl) (i_pure (p_move rfl)) ?_
                                  refine GA.all (rs := [9]) (by kernel_rfl) (by simp) ?_
                                  refine GAs.consG (i := 9) (s := 114) rfl rfl rfl rfl (t_call rfl fn_14 rfl (is := [3, 3, 3]) (js := []) rfl rfl (by exact pages_ct _ _ _ v2 _ hv2)) (by rintro a w ⟨_, _, _, ⟨A116, cp116, cs116, l116, k116, rfl, rfl, rfl⟩, h⟩; exact h.mem (is := []) (js := [3, 4, 5]) rfl rfl) (GA.ret ?_) ?_
                                  · rintro _ _ _ ⟨A116, cp116, cs116, l116, k116, rfl, rfl, rfl⟩
                                    refine GA.all (rs := [11]) (by kernel_rfl) (by simp) ?_
                                    refine GAs.consG (i := 11) (s := 114) rfl rfl rfl rfl (t_call rfl fn_14 rfl (is := [4, 4, 4]) (js := []) rfl rfl (by exact pages_eq _ _ _ (putF u (pagesF v2 (min (before.length : Int) 200))) _ hch.2.1 (pagesF v2 0) (hch.2.2.2 0))) (by rintro a w ⟨_, _, _, ⟨A118, cp118, cs118, l118, k118, rfl, rfl, rfl⟩, h⟩; exact h.mem (is := []) (js := [4, 5, 6]) rfl rfl) (GA.ret ?_) ?_
                                    · rintro _ _ _ ⟨A118, cp118, cs118, l118, k118, rfl, rfl, rfl⟩
                                      refine GA.freezeR (i := 4) (j := 1) rfl rfl (by decide) ?_
                                      refine GA.freezeR (i := 0) (j := 1) rfl rfl (by decide) ?_
                                      refine GA.all (rs := [12]) (by kernel_rfl) (by simp) ?_
                                      refine GAs.consG (i := 12) (s := 114) rfl rfl rfl rfl (t_call rfl fn_17 rfl (is := []) (js := [1, 0]) rfl rfl (by exact pgself_ct (pagesF v2 0) _ _ _ _ hlen0)) (by rintro a w ⟨_, _, _, ⟨rfl, rfl, rfl⟩, h⟩; exact h.mem (is := []) (js := [6, 7, 8]) rfl rfl) (GA.ret ?_) ?_
                                      · rintro _ _ _ ⟨rfl, rfl, rfl⟩
                                        refine GA.take 13 rfl (by kernel_rfl) (by kernel_rfl) (by kernel_rfl) rfl (fun a w h => h.mem (is := []) (js := [6, 7, 8]) rfl rfl) (i_pure (p_pick_true rfl rfl)) ?_
                                        refine GA.take 14 rfl (by kernel_rfl) (by kernel_rfl) (by kernel_rfl) rfl (fun a w h => h.mem (is := []) (js := [6, 7, 8]) rfl rfl) (i_pure (p_assign rfl)) ?_
                                        exact GA.done (by kernel_rfl) (fun a w h => h.cut (is := []) (js := []) ⟨rfl, trivial⟩ rfl rfl)
                                      exact GAs.nil
                                    exact GAs.nil
                                  exact GAs.nil
                                exact GAs.nil
                              exact GAs.nil
                            exact GAs.nil
                          exact GAs.nil
                        · refine (?_ : GC _ _ _ _)
                          refine GC.ret ?_
                          refine fun a w h => Fin.back (rs := [.tmp 6]) (vs := [_]) (is := []) (js := []) rfl ⟨rfl, trivial⟩ rfl rfl ?_ h
                          clear h
                          exact ⟨rfl, rfl, rfl⟩))
              · try simp only [decide_eq_true_eq, decide_eq_false_iff_not, Bool.not_eq_true', Bool.not_eq_false', Bool.not_true, Bool.not_false, Bool.not_not, ne_eq, Decidable.not_not, Int.not_lt, Int.not_le, gt_iff_lt, ge_iff_le, bool_true_eq_, bool_false_eq_] at h6
                first
                | (exfalso; first | omega | (simp at h6; done))
                | (skip
                   refine GL.pass (s := 84) rfl rfl rfl ?_
                   refine GL.pass (s := 84) rfl rfl rfl ?_
                   refine GL.pure rfl (p_pick_false rfl rfl) ?_
                   refine GL.nil (?_ : GC _ _ _ _)
                   refine GC.cond_false rfl ?_
                   refine GC.exit (?_ : GC _ _ _ _)
                   refine GC.seq' ?_
                   refine GC.seq' ?_
                   refine GC.region ?_
                   have hsh := hv2.shp
                   simp only [shapeOk] at hsh
                   have hch := changed hu hv2 hlat (by omega)
                   have hlen : (pagesF v2 (min (before.length : Int) 200)).length ≤ 140737488355328 := by have := pagesA_le v2 (min (before.length : Int) 200) v2.bl.toNat; show (pagesA v2 (min (before.length : Int) 200) v2.bl.toNat).length ≤ _; omega
                   have hlen0 : (pagesF v2 0).length ≤ 140737488355328 := by have := pagesA_le v2 0 v2.bl.toNat; show (pagesA v2 0 v2.bl.toNat).length ≤ _; omega
                   refine GL.pure rfl (p_move rfl) ?_
                   refine GL.pure rfl (p_move rfl) ?_
                   refine GL.pure rfl (p_move rfl) ?_
                   refine GL.step rfl (t_call rfl fn_14 rfl (is := [0, 0, 0]) (js := []) rfl rfl (by exact pages_ct _ _ _ v2 _ hv2)) (GL.ret ?_)
                   rintro _ _ _ ⟨A104, cp104, cs104, l104, k104, rfl, rfl, rfl⟩
                   refine GL.freezeR (i := 0) (j := 0) rfl rfl (by decide) ?_
                   refine GL.step rfl (t_call rfl fn_21 rfl (is := [3, 3, 3]) (js := [0]) rfl rfl (by exact patch_eq _ _ _ u _ (pagesF v2 (min (before.length : Int) 200)) _ hu hlen _ _ hch.1)) (GL.ret ?_)
                   rintro _ _ _ ⟨rfl, rfl, rfl⟩
                   refine GL.pure rfl (p_neq rfl rfl) ?_
                   refine GL.nil (?_ : GC _ _ _ _)
                   refine GC.cond_false rfl ?_
                   refine GC.skip (?_ : GC _ _ _ _)
                   refine GC.seq' ?_
                   refine GC.regionM (m := 15) (M := fun a w => St c 121 [(6, .bool true)] [] [] a w) (is := []) (js := [0, 1, 2]) wide_ rfl rfl rfl ?_ ?_
                   · refine GA.take 0 rfl (by kernel_rfl) (by kernel_rfl) (by kernel_rfl) rfl (fun a w h => h.mem (is := []) (js := [0, 1, 2]) rfl rfl) (i_pure (p_move rfl)) ?_
                     refine GA.take 3 rfl (by kernel_rfl) (by kernel_rfl) (by kernel_rfl) rfl (fun a w h => h.mem (is := []) (js := [0, 1, 2]) rfl rfl) (i_pure (p_move rfl)) ?_
                     refine GA.all (rs := [1]) (by kernel_rfl) (by simp) ?_
                     refine GAs.cons (i := 1) rfl rfl (t_call rfl fn_13 rfl (is := [3, 3, 3]) (js := []) rfl rfl (by exact bytes_ct _ _ _ v2 hv2)) (by rintro a w ⟨_, _, _, ⟨A108, cp108, l108, k108, rfl, rfl, rfl⟩, h⟩; exact h.mem (is := []) (js := [0, 1, 2]) rfl rfl) (GA.ret ?_) ?_
                     · rintro _ _ _ ⟨A108, cp108, l108, k108, rfl, rfl, rfl⟩
                       refine GA.freezeB (i := 0) rfl ?_
                       refine GA.all (rs := [2, 4]) (by kernel_rfl) (by simp) ?_
                       refine GAs.cons (i := 2) rfl rfl (t_mem rfl (m_str (i := 0) rfl rfl Try.underlying31 Try.underlying5 Try.underlying9)) (by rintro a w h; exact h.mem (is := []) (js := [1, 2, 3]) rfl rfl) ?_ ?_
                       · refine GA.all (rs := [4]) (by kernel_rfl) (by simp) ?_
                         refine GAs.cons (i := 4) rfl rfl (t_call rfl fn_13 rfl (is := [3, 3, 3]) (js := []) rfl rfl (by exact bytes_ct _ _ _ (putF u (pagesF v2 (min (before.length : Int) 200))) hch.2.1)) (by rintro a w ⟨_, _, _, ⟨A111, cp111, l111, k111, rfl, rfl, rfl⟩, h⟩; exact h.mem (is := []) (js := [1, 2, 3]) rfl rfl) (GA.ret ?_) ?_
                         · rintro _ _ _ ⟨A111, cp111, l111, k111, rfl, rfl, rfl⟩
                           refine GA.freezeB (i := 0) rfl ?_
                           refine GA.all (rs := [5]) (by kernel_rfl) (by simp) ?_
                           refine GAs.cons (i := 5) rfl rfl (t_mem rfl (m_str (i := 0) rfl rfl Try.underlying31 Try.underlying5 Try.underlying9)) (by rintro a w h; exact h.mem (is := []) (js := [2, 3, 4]) rfl rfl) ?_ ?_
                           · refine GA.take 6 rfl (by kernel_rfl) (by kernel_rfl) (by kernel_rfl) rfl (fun a w h => h.mem (is := []) (js := [2, 3, 4]) rfl rfl) (i_pure (p_seqT rfl rfl (by rw [hch.2.2.1]))) ?_
                             refine GA.take 7 rfl (by kernel_rfl) (by kernel_rfl) (by kernel_rfl) rfl (fun a w h => h.mem (is := []) (js := [2, 3, 4]) rfl rfl) (i_pure (p_move rfl)) ?_
                             refine GA.takeG (s := 114) 8 rfl rfl rfl (by kernel_rfl) (by kernel_rfl) (by kernel_rfl) rfl (fun a w h => h.mem (is := []) (js := [2, 3, 4]) rfl rfl) (i_pure (p_move rfl)) ?_
                             refine GA.takeG (s := 114) 10 rfl rfl rfl (by kernel_rfl) (by kernel_rfl) (by kernel_rfl) rfl (fun a w h => h.mem (is := []) (js := [2, 3, 4]) rfl rfl) (i_pure (p_move rfl)) ?_
                             refine GA.all (rs := [9]) (by kernel_rfl) (by simp) ?_
                             refine GAs.consG (i := 9) (s := 114) rfl rfl rfl rfl (t_call rfl fn_14 rfl (is := [3, 3, 3]) (js := []) rfl rfl (by exact pages_ct _ _ _ v2 _ hv2)) (by rintro a w ⟨_, _, _, ⟨A116, cp116, cs116, l116, k116, rfl, rfl, rfl⟩, h⟩; exact h.mem (is := []) (js := [3, 4, 5]) rfl rfl) (GA.ret ?_) ?_
                             · rintro _ _ _ ⟨A116, cp116, cs116, l116, k116, rfl, rfl, rfl⟩
                               refine GA.all (rs := [11]) (by kernel_rfl) (by simp) ?_
                               refine GAs.consG (i := 11) (s := 114) rfl rfl rfl rfl (t_call rfl fn_14 rfl (is := [4, 4, 4]) (js := []) rfl rfl (by exact pages_eq _ _ _ (putF u (pagesF v2 (min (before.length : Int) 200))) _ hch.2.1 (pagesF v2 0) (hch.2.2.2 0))) (by rintro a w ⟨_, _, _, ⟨A118, cp118, cs118, l118, k118, rfl, rfl, rfl⟩, h⟩; exact h.mem (is := []) (js := [4, 5, 6]) rfl rfl) (GA.ret ?_) ?_
                               · rintro _ _ _ ⟨A118, cp118, cs118, l118, k118, rfl, rfl, rfl⟩
                                 refine GA.freezeR (i := 4) (j := 1) rfl rfl (by decide) ?_
                                 refine GA.freezeR (i := 0) (j := 1) rfl rfl (by decide) ?_
                                 refine GA.all (rs := [12]) (by kernel_rfl) (by simp) ?_
                                 refine GAs.consG (i := 12) (s := 114) rfl rfl rfl rfl (t_call rfl fn_17 rfl (is := []) (js := [1, 0]) rfl rfl (by exact pgself_ct (pagesF v2 0) _ _ _ _ hlen0)) (by rintro a w ⟨_, _, _, ⟨rfl, rfl, rfl⟩, h⟩; exact h.mem (is := []) (js := [6, 7, 8]) rfl rfl) (GA.ret ?_) ?_
                                 · rintro _ _ _ ⟨rfl, rfl, rfl⟩
                                   refine GA.take 13 rfl (by kernel_rfl) (by kernel_rfl) (by kernel_rfl) rfl (fun a w h => h.mem (is := []) (js := [6, 7, 8]) rfl rfl) (i_pure (p_pick_true rfl rfl)) ?_
                                   refine GA.take 14 rfl (by kernel_rfl) (by kernel_rfl) (by kernel_rfl) rfl (fun a w h => h.mem (is := []) (js := [6, 7, 8]) rfl rfl) (i_pure (p_assign rfl)) ?_
                                   exact GA.done (by kernel_rfl) (fun a w h => h.cut (is := []) (js := []) ⟨rfl, trivial⟩ rfl rfl)
                                 exact GAs.nil
                               exact GAs.nil
                             exact GAs.nil
                           exact GAs.nil
                         exact GAs.nil
                       refine GAs.cons (i := 4) rfl rfl (t_call rfl fn_13 rfl (is := [3, 3, 3]) (js := []) rfl rfl (by exact bytes_ct _ _ _ (putF u (pagesF v2 (min (before.length : Int) 200))) hch.2.1)) (by rintro a w ⟨_, _, _, ⟨A111, cp111, l111, k111, rfl, rfl, rfl⟩, h⟩; exact h.mem (is := []) (js := [1, 2, 3]) rfl rfl) (GA.ret ?_) ?_
                       · rintro _ _ _ ⟨A111, cp111, l111, k111, rfl, rfl, rfl⟩
                         refine GA.freezeB (i := 0) rfl ?_
                         refine GA.all (rs := [2, 5]) (by kernel_rfl) (by simp) ?_
                         refine GAs.cons (i := 2) rfl rfl (t_mem rfl (m_str (i := 1) rfl rfl Try.underlying31 Try.underlying5 Try.underlying9)) (by rintro a w h; exact h.mem (is := []) (js := [2, 3, 4]) rfl rfl) ?_ ?_
                         · refine GA.all (rs := [5]) (by kernel_rfl) (by simp) ?_
                           refine GAs.cons (i := 5) rfl rfl (t_mem rfl (m_str (i := 0) rfl rfl Try.underlying31 Try.underlying5 Try.underlying9)) (by rintro a w h; exact h.mem (is := []) (js := [2, 3, 4]) rfl rfl) ?_ ?_
                           · refine GA.take 6 rfl (by kernel_rfl) (by kernel_rfl) (by kernel_rfl) rfl (fun a w h => h.mem (is := []) (js := [2, 3, 4]) rfl rfl) (i_pure (p_seqT rfl rfl (by rw [hch.2.2.1]))) ?_
                             refine GA.take 7 rfl (by kernel_rfl) (by kernel_rfl) (by kernel_rfl) rfl (fun a w h => h.mem (is := []) (js := [2, 3, 4]) rfl rfl) (i_pure (p_move rfl)) ?_
                             refine GA.takeG (s := 114) 8 rfl rfl rfl (by kernel_rfl) (by kernel_rfl) (by kernel_rfl) rfl (fun a w h => h.mem (is := []) (js := [2, 3, 4]) rfl rfl) (i_pure (p_move rfl)) ?_
                             refine GA.takeG (s := 114) 10 rfl rfl rfl (by kernel_rfl) (by kernel_rfl) (by kernel_rfl) rfl (fun a w h => h.mem (is := []) (js := [2, 3, 4]) rfl rfl) (i_pure (p_move rfl)) ?_
                             refine GA.all (rs := [9]) (by kernel_rfl) (by simp) ?_
                             refine GAs.consG (i := 9) (s := 114) rfl rfl rfl rfl (t_call rfl fn_14 rfl (is := [3, 3, 3]) (js := []) rfl rfl (by exact pages_ct _ _ _ v2 _ hv2)) (by rintro a w ⟨_, _, _, ⟨A116, cp116, cs116, l116, k116, rfl, rfl, rfl⟩, h⟩; exact h.mem (is := []) (js := [3, 4, 5]) rfl rfl) (GA.ret ?_) ?_
                             · rintro _ _ _ ⟨A116, cp116, cs116, l116, k116, rfl, rfl, rfl⟩
                               refine GA.all (rs := [11]) (by kernel_rfl) (by simp) ?_
                               refine GAs.consG (i := 11) (s := 114) rfl rfl rfl rfl (t_call rfl fn_14 rfl (is := [4, 4, 4]) (js := []) rfl rfl (by exact pages_eq _ _ _ (putF u (pagesF v2 (min (before.length : Int) 200))) _ hch.2.1 (pagesF v2 0) (hch.2.2.2 0))) (by rintro a w ⟨_, _, _, ⟨A118, cp118, cs118, l118, k118, rfl, rfl, rfl⟩, h⟩; exact h.mem (is := []) (js := [4, 5, 6]) rfl rfl) (GA.ret ?_) ?_
                               · rintro _ _ _ ⟨A118, cp118, cs118, l118, k118, rfl, rfl, rfl⟩
                                 refine GA.freezeR (i := 4) (j := 1) rfl rfl (by decide) ?_
                                 refine GA.freezeR (i := 0) (j := 1) rfl rfl (by decide) ?_
                                 refine GA.all (rs := [12]) (by kernel_rfl) (by simp) ?_
                                 refine GAs.consG (i := 12) (s := 114) rfl rfl rfl rfl (t_call rfl fn_17 rfl (is := []) (js := [1, 0]) rfl rfl (by exact pgself_ct (pagesF v2 0) _ _ _ _ hlen0)) (by rintro a w ⟨_, _, _, ⟨rfl, rfl, rfl⟩, h⟩; exact h.mem (is := []) (js := [6, 7, 8]) rfl rfl) (GA.ret ?_) ?_
                                 · rintro _ _ _ ⟨rfl, rfl, rfl⟩
                                   refine GA.take 13 rfl (by kernel_rfl) (by kernel_rfl) (by kernel_rfl) rfl (fun a w h => h.mem (is := []) (js := [6, 7, 8]) rfl rfl) (i_pure (p_pick_true rfl rfl)) ?_
                                   refine GA.take 14 rfl (by kernel_rfl) (by kernel_rfl) (by kernel_rfl) rfl (fun a w h => h.mem (is := []) (js := [6, 7, 8]) rfl rfl) (i_pure (p_assign rfl)) ?_
                                   exact GA.done (by kernel_rfl) (fun a w h => h.cut (is := []) (js := []) ⟨rfl, trivial⟩ rfl rfl)
                                 exact GAs.nil
                               exact GAs.nil
                             exact GAs.nil
                           exact GAs.nil
                         refine GAs.cons (i := 5) rfl rfl (t_mem rfl (m_str (i := 0) rfl rfl Try.underlying31 Try.underlying5 Try.underlying9)) (by rintro a w h; exact h.mem (is := []) (js := [2, 3, 4]) rfl rfl) ?_ ?_
                         · refine GA.all (rs := [2]) (by kernel_rfl) (by simp) ?_
                           refine GAs.cons (i := 2) rfl rfl (t_mem rfl (m_str (i := 1) rfl rfl Try.underlying31 Try.underlying5 Try.underlying9)) (by rintro a w h; exact h.mem (is := []) (js := [2, 3, 4]) rfl rfl) ?_ ?_
                           · refine GA.take 6 rfl (by kernel_rfl) (by kernel_rfl) (by kernel_rfl) rfl (fun a w h => h.mem (is := []) (js := [2, 3, 4]) rfl rfl) (i_pure (p_seqT rfl rfl (by rw [hch.2.2.1]))) ?_
                             refine GA.take 7 rfl (by kernel_rfl) (by kernel_rfl) (by kernel_rfl) rfl (fun a w h => h.mem (is := []) (js := [2, 3, 4]) rfl rfl) (i_pure (p_move rfl)) ?_
                             refine GA.takeG (s := 114) 8 rfl rfl rfl (by kernel_rfl) (by kernel_rfl) (by kernel_rfl) rfl (fun a w h => h.mem (is := []) (js := [2, 3, 4]) rfl rfl) (i_pure (p_move rfl)) ?_
                             refine GA.takeG (s := 114) 10 rfl rfl rfl (by kernel_rfl) (by kernel_rfl) (by kernel_rfl) rfl (fun a w h => h.mem (is := []) (js := [2, 3, 4]) rfl rfl) (i_pure (p_move rfl)) ?_
                             refine GA.all (rs := [9]) (by kernel_rfl) (by simp) ?_
                             refine GAs.consG (i := 9) (s := 114) rfl rfl rfl rfl (t_call rfl fn_14 rfl (is := [3, 3, 3]) (js := []) rfl rfl (by exact pages_ct _ _ _ v2 _ hv2)) (by rintro a w ⟨_, _, _, ⟨A116, cp116, cs116, l116, k116, rfl, rfl, rfl⟩, h⟩; exact h.mem (is := []) (js := [3, 4, 5]) rfl rfl) (GA.ret ?_) ?_
                             · rintro _ _ _ ⟨A116, cp116, cs116, l116, k116, rfl, rfl, rfl⟩
                               refine GA.all (rs := [11]) (by kernel_rfl) (by simp) ?_
                               refine GAs.consG (i := 11) (s := 114) rfl rfl rfl rfl (t_call rfl fn_14 rfl (is := [4, 4, 4]) (js := []) rfl rfl (by exact pages_eq _ _ _ (putF u (pagesF v2 (min (before.length : Int) 200))) _ hch.2.1 (pagesF v2 0) (hch.2.2.2 0))) (by rintro a w ⟨_, _, _, ⟨A118, cp118, cs118, l118, k118, rfl, rfl, rfl⟩, h⟩; exact h.mem (is := []) (js := [4, 5, 6]) rfl rfl) (GA.ret ?_) ?_
                               · rintro _ _ _ ⟨A118, cp118, cs118, l118, k118, rfl, rfl, rfl⟩
                                 refine GA.freezeR (i := 4) (j := 1) rfl rfl (by decide) ?_
                                 refine GA.freezeR (i := 0) (j := 1) rfl rfl (by decide) ?_
                                 refine GA.all (rs := [12]) (by kernel_rfl) (by simp) ?_
                                 refine GAs.consG (i := 12) (s := 114) rfl rfl rfl rfl (t_call rfl fn_17 rfl (is := []) (js := [1, 0]) rfl rfl (by exact pgself_ct (pagesF v2 0) _ _ _ _ hlen0)) (by rintro a w ⟨_, _, _, ⟨rfl, rfl, rfl⟩, h⟩; exact h.mem (is := []) (js := [6, 7, 8]) rfl rfl) (GA.ret ?_) ?_
                                 · rintro _ _ _ ⟨rfl, rfl, rfl⟩
                                   refine GA.take 13 rfl (by kernel_rfl) (by kernel_rfl) (by kernel_rfl) rfl (fun a w h => h.mem (is := []) (js := [6, 7, 8]) rfl rfl) (i_pure (p_pick_true rfl rfl)) ?_
                                   refine GA.take 14 rfl (by kernel_rfl) (by kernel_rfl) (by kernel_rfl) rfl (fun a w h => h.mem (is := []) (js := [6, 7, 8]) rfl rfl) (i_pure (p_assign rfl)) ?_
                                   exact GA.done (by kernel_rfl) (fun a w h => h.cut (is := []) (js := []) ⟨rfl, trivial⟩ rfl rfl)
                                 exact GAs.nil
                               exact GAs.nil
                             exact GAs.nil
                           exact GAs.nil
                         exact GAs.nil
                       exact GAs.nil
                     exact GAs.nil
                   · refine (?_ : GC _ _ _ _)
                     refine GC.ret ?_
                     refine fun a w h => Fin.back (rs := [.tmp 6]) (vs := [_]) (is := []) (js := []) rfl ⟨rfl, trivial⟩ rfl rfl ?_ h
                     clear h
                     exact ⟨rfl, rfl, rfl⟩)))
  · skip
    refine Ct.intro Try.func6 rfl rfl rfl (fun c hc => ?_)
    refine GC.know (q := Pers.row kPage none []) (fun _ _ _ => .inl rfl) ?_
    refine GC.seq' ?_
    refine GC.region ?_
    refine GL.step rfl (t_box rfl rfl rfl) (GL.ex fun b_t3 => ?_)
    refine GL.pure rfl (p_assign rfl) ?_
    refine GL.nil (?_ : GC _ _ _ _)
    refine GC.seq' ?_
    refine GC.seq' ?_
    refine GC.region ?_
    refine GL.step rfl (t_call rfl fn_12 rfl (is := []) (js := []) rfl rfl (by exact awake_ct)) (GL.ret ?_)
    rintro _ _ _ ⟨rfl, rfl, rfl⟩
    refine GL.pure rfl (p_not rfl) ?_
    refine GL.nil (?_ : GC _ _ _ _)
    refine GC.cond_false rfl ?_
    refine GC.skip (?_ : GC _ _ _ _)
    refine GC.seq' ?_
    refine GC.region ?_
    refine GL.step rfl (t_mem rfl (m_loadN (i := 0) rfl rfl ag_23 (vs := [_, _]) sz_23 ⟨rfl, rfl, trivial⟩)) ?_
    refine GL.step rfl (t_call rfl fn_15 rfl (is := []) (js := [0]) rfl rfl (by exact begin_bad _ _ none [] 0 hs)) (GL.ret ?_)
    rintro _ _ _ ⟨rfl, rfl, rfl⟩
    refine GL.pure rfl (p_move rfl) ?_
    refine GL.pure rfl (p_extract rfl rfl) ?_
    refine GL.pure rfl (p_extract rfl rfl) ?_
    refine GL.pure rfl (p_extract rfl rfl) ?_
    refine GL.pure rfl (p_assign rfl) ?_
    refine GL.pure rfl (p_assign rfl) ?_
    refine GL.pure rfl (p_assign rfl) ?_
    refine GL.nil (?_ : GC _ _ _ _)
    refine GC.seq' ?_
    refine GC.region ?_
    refine GL.step rfl (t_mem rfl (m_loadN (i := 0) rfl rfl ag_23 (vs := [_, _]) sz_23 ⟨rfl, rfl, trivial⟩)) ?_
    refine GL.step rfl (t_call rfl fn_15 rfl (is := []) (js := [0]) rfl rfl (by exact begin_bad _ _ none [] 0 hs)) (GL.ret ?_)
    rintro _ _ _ ⟨rfl, rfl, rfl⟩
    refine GL.pure rfl (p_move rfl) ?_
    refine GL.pure rfl (p_extract rfl rfl) ?_
    refine GL.pure rfl (p_extract rfl rfl) ?_
    refine GL.pure rfl (p_extract rfl rfl) ?_
    refine GL.pure rfl (p_assign rfl) ?_
    refine GL.pure rfl (p_assign rfl) ?_
    refine GL.pure rfl (p_assign rfl) ?_
    refine GL.nil (?_ : GC _ _ _ _)
    refine GC.seq' ?_
    refine GC.seq' ?_
    refine GC.region ?_
    refine GL.pure rfl (p_move rfl) ?_
    refine GL.pure rfl (p_not rfl) ?_
    refine GL.pure rfl (p_move rfl) ?_
    refine GL.pureG (s := 32) rfl rfl rfl (p_move rfl) ?_
    refine GL.pureG (s := 32) rfl rfl rfl (p_not rfl) ?_
    refine GL.pure rfl (p_pick_false rfl rfl) ?_
    refine GL.pure rfl (p_move rfl) ?_
    refine GL.pureG (s := 36) rfl rfl rfl (p_move rfl) ?_
    refine GL.pureG (s := 36) rfl rfl rfl (p_pnil_eql Try.underlying36 rfl rfl) ?_
    refine GL.pure rfl (p_pick_false rfl rfl) ?_
    refine GL.pure rfl (p_move rfl) ?_
    refine GL.pass (s := 40) rfl rfl rfl ?_
    refine GL.pass (s := 40) rfl rfl rfl ?_
    refine GL.pass (s := 40) rfl rfl rfl ?_
    refine GL.pure rfl (p_pick_true rfl rfl) ?_
    refine GL.nil (?_ : GC _ _ _ _)
    refine GC.cond_true rfl ?_
    refine GC.seq' ?_
    refine GC.region ?_
    refine GL.pure rfl (p_move rfl) ?_
    refine GL.pure rfl (p_move rfl) ?_
    refine GL.pureG (s := 46) rfl rfl rfl (p_move rfl) ?_
    refine GL.pure rfl (p_pick_true rfl rfl) ?_
    refine GL.pure rfl (p_assign rfl) ?_
    refine GL.nil (?_ : GC _ _ _ _)
    refine GC.ret ?_
    refine fun a w h => Fin.back (rs := [.tmp 6]) (vs := [_]) (is := []) (js := []) rfl ⟨rfl, trivial⟩ rfl rfl ?_ h
    clear h
    exact ⟨rfl, rfl, rfl⟩
end Go.Proofs.Ytihhpkbbhfcdcaa
