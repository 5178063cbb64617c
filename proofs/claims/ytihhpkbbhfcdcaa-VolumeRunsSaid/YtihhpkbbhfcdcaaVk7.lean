/- THE VOLUME: what any requests and pages make of any volume: the walk of the law. -/
import Derived.Test.YtihhpkbbhfcdcaaVk6
import Derived.Test.YtihhpkbbhfcdcaaVb7
set_option linter.unusedVariables false
set_option linter.unusedSimpArgs false
set_option maxRecDepth 100000
namespace Go.Proofs.Ytihhpkbbhfcdcaa
open Go Go.Sx Go.Proofs
theorem volumeRuns_ct (bl sz : Int) (A : Option Addr) (l : List Page) (cp : Nat) (B : Option Addr) (steps : List Step) (cq : Nat) (hl : l.length ≤ 140737488351232) (hd : ∀ x ∈ l, x.data.length ≤ 140737488351232) (hl2 : steps.length ≤ 140737488351232) (hst : ∀ x ∈ steps, okStep x) :
    Ct Try.prog 8 [shpV bl sz, .slice A l.length cp, .slice B steps.length cq] [] [Pers.row kPage A l, Pers.row kStep B steps] (fun v G Q => v = .bool true ∧ G = [] ∧ Q = []) := by
  by_cases hs : shapeOk bl sz
  · by_cases hn : laidF bl sz (-1) l = true
    · skip
      refine Ct.intro Try.func8 rfl rfl rfl (fun c hc => ?_)
      refine GC.seq' ?_
      refine GC.region ?_
      refine GL.step rfl (t_box rfl rfl rfl) (GL.ex fun b_t3 => ?_)
      refine GL.pure rfl (p_assign rfl) ?_
      refine GL.nil (?_ : GC _ _ _ _)
      refine GC.seq' ?_
      refine GC.seq' ?_
      refine GC.region ?_
      refine GL.step rfl (t_call rfl fn_12 rfl (is := []) (js := []) rfl rfl (by exact awake_ct)) (GL.ret ?_)
      rintro _ _ _ ⟨rfl, rfl, rfl⟩
      refine GL.pure rfl (p_not rfl) ?_
      refine GL.nil (?_ : GC _ _ _ _)
      refine GC.cond_false rfl ?_
      refine GC.skip (?_ : GC _ _ _ _)
      refine GC.seq' ?_
      refine GC.seq' ?_
      refine GC.region ?_
      refine GL.step rfl (t_mem rfl (m_loadN (i := 0) rfl rfl ag_23 (vs := [_, _]) sz_23 ⟨rfl, rfl, trivial⟩)) ?_
      refine GL.step rfl (t_call rfl fn_11 rfl (is := []) (js := []) rfl rfl (by exact small_ct _ _)) (GL.ret ?_)
      rintro _ _ _ ⟨rfl, rfl, rfl⟩
      refine GL.pure rfl (p_not rfl) ?_
      refine GL.pure rfl (p_move rfl) ?_
      refine GL.split (i := 16) rfl (fun h1 => ?_) (fun h1 => ?_)
      · try simp only [decide_eq_true_eq, decide_eq_false_iff_not, Bool.not_eq_true', Bool.not_eq_false', Bool.not_true, Bool.not_false, Bool.not_not, ne_eq, Decidable.not_not, Int.not_lt, Int.not_le, gt_iff_lt, ge_iff_le, bool_true_eq_, bool_false_eq_] at h1
        first
        | (exfalso; first | omega | (simp at h1; done))
        | (skip
           refine GL.stepG rfl (s := 16) rfl rfl (t_mem rfl (m_loadN (i := 0) rfl rfl ag_23 (vs := [_, _]) sz_23 ⟨rfl, rfl, trivial⟩)) ?_
           refine GL.stepG rfl (s := 16) rfl rfl (t_call rfl fn_10 rfl (is := []) (js := []) rfl rfl (by exact shapeR_ct _ _)) (GL.ret ?_)
           rintro _ _ _ ⟨rfl, rfl, rfl⟩
           refine GL.pureG (s := 16) rfl rfl rfl (p_eql rfl rfl) ?_
           refine GL.pure rfl (p_pick_true rfl rfl) ?_
           refine GL.nil (?_ : GC _ _ _ _)
           refine GC.cond rfl (fun h2 => ?_) (fun h2 => ?_)
           · try simp only [decide_eq_true_eq, decide_eq_false_iff_not, Bool.not_eq_true', Bool.not_eq_false', Bool.not_true, Bool.not_false, Bool.not_not, ne_eq, Decidable.not_not, Int.not_lt, Int.not_le, gt_iff_lt, ge_iff_le, bool_true_eq_, bool_false_eq_] at h2
             first
             | (exfalso; first | omega | (simp at h2; done))
             | (skip
                refine GC.seq' ?_
                refine GC.region ?_
                refine GL.pure rfl (p_assign rfl) ?_
                refine GL.nil (?_ : GC _ _ _ _)
                refine GC.ret ?_
                refine fun a w h => Fin.back (rs := [.tmp 6]) (vs := [_]) (is := []) (js := []) rfl ⟨rfl, trivial⟩ rfl rfl ?_ h
                clear h
                exact ⟨rfl, rfl, rfl⟩)
           · try simp only [decide_eq_true_eq, decide_eq_false_iff_not, Bool.not_eq_true', Bool.not_eq_false', Bool.not_true, Bool.not_false, Bool.not_not, ne_eq, Decidable.not_not, Int.not_lt, Int.not_le, gt_iff_lt, ge_iff_le, bool_true_eq_, bool_false_eq_] at h2
             first
             | (exfalso; first | omega | (simp at h2; done))
             | (skip
                refine GC.skip (?_ : GC _ _ _ _)
                refine GC.seq' ?_
                refine GC.region ?_
                refine GL.step rfl (t_mem rfl (m_loadN (i := 0) rfl rfl ag_23 (vs := [_, _]) sz_23 ⟨rfl, rfl, trivial⟩)) ?_
                refine GL.pure rfl (p_move rfl) ?_
                refine GL.step rfl (t_call rfl fn_15 rfl (is := []) (js := [0]) rfl rfl (by exact begin_ok _ _ _ _ _ hs (by omega) (fun x hx => Nat.le_trans (hd x hx) (by decide)) hn)) (GL.ret ?_)
                rintro _ _ _ ⟨vp24, vb24, vv24, rp24, rB24, rV24, rc124, rc224, sp24, spv24, cs24, rfl, rfl, rfl⟩
                refine GL.pure rfl (p_move rfl) ?_
                refine GL.pure rfl (p_extract rfl rfl) ?_
                refine GL.pure rfl (p_extract rfl rfl) ?_
                refine GL.pure rfl (p_extract rfl rfl) ?_
                refine GL.pure rfl (p_assign rfl) ?_
                refine GL.pure rfl (p_assign rfl) ?_
                refine GL.pure rfl (p_assign rfl) ?_
                refine GL.nil (?_ : GC _ _ _ _)
                refine GC.seq' ?_
                refine GC.seq' ?_
                refine GC.region ?_
                refine GL.pure rfl (p_move rfl) ?_
                refine GL.pure rfl (p_not rfl) ?_
                refine GL.pure rfl (p_move rfl) ?_
                refine GL.pureG (s := 30) rfl rfl rfl (p_move rfl) ?_
                refine GL.pureG (s := 30) rfl rfl rfl (p_pnil_eql Try.underlying36 rfl rfl) ?_
                refine GL.pure rfl (p_pick_false rfl rfl) ?_
                refine GL.nil (?_ : GC _ _ _ _)
                refine GC.cond_false rfl ?_
                refine GC.skip (?_ : GC _ _ _ _)
                refine GC.seq' ?_
                refine GC.seq' ?_
                refine GC.region ?_
                refine GL.pure rfl (p_assign rfl) ?_
                refine GL.nil (?_ : GC _ _ _ _)
                refine GC.block ?_
                refine GC.loopK3 (ks := [2, 7, 8]) (is := [6]) (js := [0, 1, 2]) (fun (k : Nat) (v : Vol) (cs : List Value) => k ≤ 200 ∧ VolOk v) (fun (k : Nat) (v : Vol) (cs : List Value) => [(10, .int .i64 (k : Int))]) (fun (k : Nat) (v : Vol) (cs : List Value) => [.cells vp24 [.int .i64 v.bl, .int .i64 v.sz, .slice (some ⟨vb24, 0, none⟩) (v.bl * v.sz).toNat (v.bl * v.sz).toNat, .slice (some ⟨vv24, 0, none⟩) v.bl.toNat v.bl.toNat, .int .i64 v.last] 58, .cells vb24 (v.b.map u8v) 5, .cells vv24 (v.vs.map (Value.int .i64)) 3, .cells rp24 [.int .i64 v.bl, .int .i64 v.sz, .slice (some ⟨rB24, 0, none⟩) v.bl.toNat rc124, .slice (some ⟨rV24, 0, none⟩) v.bl.toNat rc224, .int .i64 v.last] 79, .cells rB24 (cs ++ sp24) 31, .cells rV24 (v.vs.map (Value.int .i64) ++ spv24) 3]) (fun (k : Nat) (v : Vol) (cs : List Value) => [Pers.reps kBytes (chV v) cs]) (fun (k : Nat) (v : Vol) (cs : List Value) => 200 - k) (0) (loadV bl sz l) (cs24) rfl rfl rfl (fun a w h => ⟨⟨by omega, loadV_ok hs hn⟩, h.cutK (is := [0, 0, 0, 0, 0, 0, 0]) (js := [0, 0, 1, 2]) (ks := [2, 7, 8]) (by exact ⟨rfl, trivial⟩) rfl rfl rfl⟩) ?_
                intro k v cs hk
                try dsimp only [List.cons_append, List.nil_append] at hk ⊢
                obtain ⟨hk, hv⟩ := hk
                refine GC.seq' ?_
                refine GC.seq' ?_
                refine GC.region ?_
                refine GL.pure rfl (p_move rfl) ?_
                refine GL.pure rfl (p_move rfl) ?_
                refine GL.pure rfl (p_len Try.underlying35 rfl) ?_
                refine GL.pure rfl (p_lss rfl rfl) ?_
                refine GL.pure rfl (p_move rfl) ?_
                refine GL.split (i := 39) rfl (fun h3 => ?_) (fun h3 => ?_)
                · try simp only [decide_eq_true_eq, decide_eq_false_iff_not, Bool.not_eq_true', Bool.not_eq_false', Bool.not_true, Bool.not_false, Bool.not_not, ne_eq, Decidable.not_not, Int.not_lt, Int.not_le, gt_iff_lt, ge_iff_le, bool_true_eq_, bool_false_eq_] at h3
                  first
                  | (exfalso; first | omega | (simp at h3; done))
                  | (skip
                     refine GL.pureG (s := 39) rfl rfl rfl (p_move rfl) ?_
                     refine GL.pureG (s := 39) rfl rfl rfl (p_lss rfl rfl) ?_
                     refine GL.pure rfl (p_pick_true rfl rfl) ?_
                     refine GL.nil (?_ : GC _ _ _ _)
                     refine GC.cond rfl (fun h4 => ?_) (fun h4 => ?_)
                     · try simp only [decide_eq_true_eq, decide_eq_false_iff_not, Bool.not_eq_true', Bool.not_eq_false', Bool.not_true, Bool.not_false, Bool.not_not, ne_eq, Decidable.not_not, Int.not_lt, Int.not_le, gt_iff_lt, ge_iff_le, bool_true_eq_, bool_false_eq_] at h4
                       first
                       | (exfalso; first | omega | (simp at h4; done))
                       | (skip
                          refine GC.skip (?_ : GC _ _ _ _)
                          refine GC.seq' ?_
                          refine GC.block ?_
                          refine GC.seq' ?_
                          refine GC.region ?_
                          refine GL.pure rfl (p_move rfl) ?_
                          refine GL.pure rfl (p_move rfl) ?_
                          refine GL.pure rfl (p_move rfl) ?_
                          refine GL.pure rfl (p_move rfl) ?_
                          refine GL.step rfl (t_index (i := 3) rfl rfl rfl rfl Try.underlying35 sz_44 (by omega) (gt_ok (by omega) (by omega))) (GL.ex fun p_x49 => GL.ex fun r_x49 => GL.and fun ok_x49 => ?_)
                          rcases r_x49 with ⟨⟨_, ⟨_, ⟨_, ⟨⟨Ax49_0, cpx49_0⟩, ⟨Ax49_1, cpx49_1⟩⟩⟩⟩⟩, ⟨_, ⟨Ax49_2, cpx49_2⟩⟩⟩
                          refine GL.step rfl (t_mem rfl (m_loadPN (i := 0) rfl rfl ag_44 (vs := [_, _, _, _, _, _, _]) sz_44 ⟨rfl, rfl, rfl, rfl, rfl, rfl, rfl, trivial⟩)) ?_
                          refine GL.step rfl (t_call rfl fn_16 rfl (is := [0, 0, 0, 0, 0, 0]) (js := [4, 1, 2, 3]) rfl rfl (by exact step_ct _ _ _ _ _ _ _ _ _ _ _ v (gt steps (k : Int)) _ _ _ _ _ _ hv (StepOk.of (hst _ (gt_mem (by omega)))) ok_x49.1.2.2.2.1.1)) (GL.ret ?_)
                          rintro _ _ _ ⟨cs51, rfl, rfl, rfl⟩
                          refine GL.pure rfl (p_not rfl) ?_
                          refine GL.nil (?_ : GC _ _ _ _)
                          refine GC.cond_false rfl ?_
                          refine GC.skip (?_ : GC _ _ _ _)
                          refine GC.region ?_
                          refine GL.pure rfl (p_move rfl) ?_
                          refine GL.pure rfl (p_add rfl rfl (w64 (by omega) (by omega))) ?_
                          refine GL.pure rfl (p_assign rfl) ?_
                          refine GL.nil ?_
                          exact fun a w h => ⟨(k + 1), (stepF v (gt steps (k : Int))), (cs51), (by omega), ⟨by omega, stepF_ok hv _⟩, h.cut (is := [0, 0, 0, 0, 0, 0, 0]) (js := [0, 6, 7, 8]) ⟨rfl, rfl, rfl, rfl, trivial⟩ rfl rfl⟩)
                     · try simp only [decide_eq_true_eq, decide_eq_false_iff_not, Bool.not_eq_true', Bool.not_eq_false', Bool.not_true, Bool.not_false, Bool.not_not, ne_eq, Decidable.not_not, Int.not_lt, Int.not_le, gt_iff_lt, ge_iff_le, bool_true_eq_, bool_false_eq_] at h4
                       first
                       | (exfalso; first | omega | (simp at h4; done))
                       | (skip
                          refine GC.exit (?_ : GC _ _ _ _)
                          refine GC.seq' ?_
                          refine GC.region ?_
                          refine GL.pure rfl (p_move rfl) ?_
                          refine GL.pure rfl (p_move rfl) ?_
                          refine GL.step rfl (t_call rfl fn_25 rfl (is := [0, 0, 0, 0, 0, 0]) (js := [0]) rfl rfl (by exact vsame_ct _ _ _ _ _ _ _ _ _ _ _ v hv)) (GL.ret ?_)
                          rintro _ _ _ ⟨rfl, rfl, rfl⟩
                          refine GL.pure rfl (p_assign rfl) ?_
                          refine GL.nil (?_ : GC _ _ _ _)
                          refine GC.ret ?_
                          refine fun a w h => Fin.back (rs := [.tmp 6]) (vs := [_]) (is := []) (js := []) rfl ⟨rfl, trivial⟩ rfl rfl ?_ h
                          clear h
                          exact ⟨rfl, rfl, rfl⟩))
                · try simp only [decide_eq_true_eq, decide_eq_false_iff_not, Bool.not_eq_true', Bool.not_eq_false', Bool.not_true, Bool.not_false, Bool.not_not, ne_eq, Decidable.not_not, Int.not_lt, Int.not_le, gt_iff_lt, ge_iff_le, bool_true_eq_, bool_false_eq_] at h3
                  first
                  | (exfalso; first | omega | (simp at h3; done))
                  | (skip
                     refine GL.pass (s := 39) rfl rfl rfl ?_
                     refine GL.pass (s := 39) rfl rfl rfl ?_
                     refine GL.pure rfl (p_pick_false rfl rfl) ?_
                     refine GL.nil (?_ : GC _ _ _ _)
                     refine GC.cond_false rfl ?_
                     refine GC.exit (?_ : GC _ _ _ _)
                     refine GC.seq' ?_
                     refine GC.region ?_
                     refine GL.pure rfl (p_move rfl) ?_
                     refine GL.pure rfl (p_move rfl) ?_
                     refine GL.step rfl (t_call rfl fn_25 rfl (is := [0, 0, 0, 0, 0, 0]) (js := [0]) rfl rfl (by exact vsame_ct _ _ _ _ _ _ _ _ _ _ _ v hv)) (GL.ret ?_)
                     rintro _ _ _ ⟨rfl, rfl, rfl⟩
                     refine GL.pure rfl (p_assign rfl) ?_
                     refine GL.nil (?_ : GC _ _ _ _)
                     refine GC.ret ?_
                     refine fun a w h => Fin.back (rs := [.tmp 6]) (vs := [_]) (is := []) (js := []) rfl ⟨rfl, trivial⟩ rfl rfl ?_ h
                     clear h
                     exact ⟨rfl, rfl, rfl⟩)))
      · try simp only [decide_eq_true_eq, decide_eq_false_iff_not, Bool.not_eq_true', Bool.not_eq_false', Bool.not_true, Bool.not_false, Bool.not_not, ne_eq, Decidable.not_not, Int.not_lt, Int.not_le, gt_iff_lt, ge_iff_le, bool_true_eq_, bool_false_eq_] at h1
        first
        | (exfalso; first | omega | (simp at h1; done))
        | (skip
           refine GL.pass (s := 16) rfl rfl rfl ?_
           refine GL.pass (s := 16) rfl rfl rfl ?_
           refine GL.pass (s := 16) rfl rfl rfl ?_
           refine GL.pure rfl (p_pick_false rfl rfl) ?_
           refine GL.nil (?_ : GC _ _ _ _)
           refine GC.cond_false rfl ?_
           refine GC.skip (?_ : GC _ _ _ _)
           refine GC.seq' ?_
           refine GC.region ?_
           refine GL.step rfl (t_mem rfl (m_loadN (i := 0) rfl rfl ag_23 (vs := [_, _]) sz_23 ⟨rfl, rfl, trivial⟩)) ?_
           refine GL.pure rfl (p_move rfl) ?_
           refine GL.step rfl (t_call rfl fn_15 rfl (is := []) (js := [0]) rfl rfl (by exact begin_ok _ _ _ _ _ hs (by omega) (fun x hx => Nat.le_trans (hd x hx) (by decide)) hn)) (GL.ret ?_)
           rintro _ _ _ ⟨vp24, vb24, vv24, rp24, rB24, rV24, rc124, rc224, sp24, spv24, cs24, rfl, rfl, rfl⟩
           refine GL.pure rfl (p_move rfl) ?_
           refine GL.pure rfl (p_extract rfl rfl) ?_
           refine GL.pure rfl (p_extract rfl rfl) ?_
           refine GL.pure rfl (p_extract rfl rfl) ?_
           refine GL.pure rfl (p_assign rfl) ?_
           refine GL.pure rfl (p_assign rfl) ?_
           refine GL.pure rfl (p_assign rfl) ?_
           refine GL.nil (?_ : GC _ _ _ _)
           refine GC.seq' ?_
           refine GC.seq' ?_
           refine GC.region ?_
           refine GL.pure rfl (p_move rfl) ?_
           refine GL.pure rfl (p_not rfl) ?_
           refine GL.pure rfl (p_move rfl) ?_
           refine GL.pureG (s := 30) rfl rfl rfl (p_move rfl) ?_
           refine GL.pureG (s := 30) rfl rfl rfl (p_pnil_eql Try.underlying36 rfl rfl) ?_
           refine GL.pure rfl (p_pick_false rfl rfl) ?_
           refine GL.nil (?_ : GC _ _ _ _)
           refine GC.cond_false rfl ?_
           refine GC.skip (?_ : GC _ _ _ _)
           refine GC.seq' ?_
           refine GC.seq' ?_
           refine GC.region ?_
           refine GL.pure rfl (p_assign rfl) ?_
           refine GL.nil (?_ : GC _ _ _ _)
           refine GC.block ?_
           refine GC.loopK3 (ks := [2, 7, 8]) (is := [6]) (js := [0, 1, 2]) (fun (k : Nat) (v : Vol) (cs : List Value) => k ≤ 200 ∧ VolOk v) (fun (k : Nat) (v : Vol) (cs : List Value) => [(10, .int .i64 (k : Int))]) (fun (k : Nat) (v : Vol) (cs : List Value) => [.cells vp24 [.int .i64 v.bl, .int .i64 v.sz, .slice (some ⟨vb24, 0, none⟩) (v.bl * v.sz).toNat (v.bl * v.sz).toNat, .slice (some ⟨vv24, 0, none⟩) v.bl.toNat v.bl.toNat, .int .i64 v.last] 58, .cells vb24 (v.b.map u8v) 5, .cells vv24 (v.vs.map (Value.int .i64)) 3, .cells rp24 [.int .i64 v.bl, .int .i64 v.sz, .slice (some ⟨rB24, 0, none⟩) v.bl.toNat rc124, .slice (some ⟨rV24, 0, none⟩) v.bl.toNat rc224, .int .i64 v.last] 79, .cells rB24 (cs ++ sp24) 31, .cells rV24 (v.vs.map (Value.int .i64) ++ spv24) 3]) (fun (k : Nat) (v : Vol) (cs : List Value) => [Pers.reps kBytes (chV v) cs]) (fun (k : Nat) (v : Vol) (cs : List Value) => 200 - k) (0) (loadV bl sz l) (cs24) rfl rfl rfl (fun a w h => ⟨⟨by omega, loadV_ok hs hn⟩, h.cutK (is := [0, 0, 0, 0, 0, 0, 0]) (js := [0, 0, 1, 2]) (ks := [2, 7, 8]) (by exact ⟨rfl, trivial⟩) rfl rfl rfl⟩) ?_
           intro k v cs hk
           try dsimp only [List.cons_append, List.nil_append] at hk ⊢
           obtain ⟨hk, hv⟩ := hk
           refine GC.seq' ?_
           refine GC.seq' ?_
           refine GC.region ?_
           refine GL.pure rfl (p_move rfl) ?_
           refine GL.pure rfl (p_move rfl) ?_
           refine GL.pure rfl (p_len Try.underlying35 rfl) ?_
           refine GL.pure rfl (p_lss rfl rfl) ?_
           refine GL.pure rfl (p_move rfl) ?_
           refine GL.split (i := 39) rfl (fun h5 => ?_) (fun h5 => ?_)
           · try simp only [decide_eq_true_eq, decide_eq_false_iff_not, Bool.not_eq_true', Bool.not_eq_false', Bool.not_true, Bool.not_false, Bool.not_not, ne_eq, Decidable.not_not, Int.not_lt, Int.not_le, gt_iff_lt, ge_iff_le, bool_true_eq_, bool_false_eq_] at h5
             first
             | (exfalso; first | omega | (simp at h5; done))
             | (skip
                refine GL.pureG (s := 39) rfl rfl rfl (p_move rfl) ?_
                refine GL.pureG (s := 39) rfl rfl rfl (p_lss rfl rfl) ?_
                refine GL.pure rfl (p_pick_true rfl rfl) ?_
                refine GL.nil (?_ : GC _ _ _ _)
                refine GC.cond rfl (fun h6 => ?_) (fun h6 => ?_)
                · try simp only [decide_eq_true_eq, decide_eq_false_iff_not, Bool.not_eq_true', Bool.not_eq_false', Bool.not_true, Bool.not_false, Bool.not_not, ne_eq, Decidable.not_not, Int.not_lt, Int.not_le, gt_iff_lt, ge_iff_le, bool_true_eq_, bool_false_eq_] at h6
                  first
                  | (exfalso; first | omega | (simp at h6; done))
                  | (skip
                     refine GC.skip (?_ : GC _ _ _ _)
                     refine GC.seq' ?_
                     refine GC.block ?_
                     refine GC.seq' ?_
                     refine GC.region ?_
                     refine GL.pure rfl (p_move rfl) ?_
                     refine GL.pure rfl (p_move rfl) ?_
                     refine GL.pure rfl (p_move rfl) ?_
                     refine GL.pure rfl (p_move rfl) ?_
                     refine GL.step rfl (t_index (i := 3) rfl rfl rfl rfl Try.underlying35 sz_44 (by omega) (gt_ok (by omega) (by omega))) (GL.ex fun p_x49 => GL.ex fun r_x49 => GL.and fun ok_x49 => ?_)
                     rcases r_x49 with ⟨⟨_, ⟨_, ⟨_, ⟨⟨Ax49_0, cpx49_0⟩, ⟨Ax49_1, cpx49_1⟩⟩⟩⟩⟩, ⟨_, ⟨Ax49_2, cpx49_2⟩⟩⟩
                     refine GL.step rfl (t_mem rfl (m_loadPN (i := 0) rfl rfl ag_44 (vs := [_, _, _, _, _, _, _]) sz_44 ⟨rfl, rfl, rfl, rfl, rfl, rfl, rfl, trivial⟩)) ?_
                     refine GL.step rfl (t_call rfl fn_16 rfl (is := [0, 0, 0, 0, 0, 0]) (js := [4, 1, 2, 3]) rfl rfl (by exact step_ct _ _ _ _ _ _ _ _ _ _ _ v (gt steps (k : Int)) _ _ _ _ _ _ hv (StepOk.of (hst _ (gt_mem (by omega)))) ok_x49.1.2.2.2.1.1)) (GL.ret ?_)
                     rintro _ _ _ ⟨cs51, rfl, rfl, rfl⟩
                     refine GL.pure rfl (p_not rfl) ?_
                     refine GL.nil (?_ : GC _ _ _ _)
                     refine GC.cond_false rfl ?_
                     refine GC.skip (?_ : GC _ _ _ _)
                     refine GC.region ?_
                     refine GL.pure rfl (p_move rfl) ?_
                     refine GL.pure rfl (p_add rfl rfl (w64 (by omega) (by omega))) ?_
                     refine GL.pure rfl (p_assign rfl) ?_
                     refine GL.nil ?_
                     exact fun a w h => ⟨(k + 1), (stepF v (gt steps (k : Int))), (cs51), (by omega), ⟨by omega, stepF_ok hv _⟩, h.cut (is := [0, 0, 0, 0, 0, 0, 0]) (js := [0, 6, 7, 8]) ⟨rfl, rfl, rfl, rfl, trivial⟩ rfl rfl⟩)
                · try simp only [decide_eq_true_eq, decide_eq_false_iff_not, Bool.not_eq_true', Bool.not_eq_false', Bool.not_true, Bool.not_false, Bool.not_not, ne_eq, Decidable.not_not, Int.not_lt, Int.not_le, gt_iff_lt, ge_iff_le, bool_true_eq_, bool_false_eq_] at h6
                  first
                  | (exfalso; first | omega | (simp at h6; done))
                  | (skip
                     refine GC.exit (?_ : GC _ _ _ _)
                     refine GC.seq' ?_
                     refine GC.region ?_
                     refine GL.pure rfl (p_move rfl) ?_
                     refine GL.pure rfl (p_move rfl) ?_
                     refine GL.step rfl (t_call rfl fn_25 rfl (is := [0, 0, 0, 0, 0, 0]) (js := [0]) rfl rfl (by exact vsame_ct _ _ _ _ _ _ _ _ _ _ _ v hv)) (GL.ret ?_)
                     rintro _ _ _ ⟨rfl, rfl, rfl⟩
                     refine GL.pure rfl (p_assign rfl) ?_
                     refine GL.nil (?_ : GC _ _ _ _)
                     refine GC.ret ?_
                     refine fun a w h => Fin.back (rs := [.tmp 6]) (vs := [_]) (is := []) (js := []) rfl ⟨rfl, trivial⟩ rfl rfl ?_ h
                     clear h
                     exact ⟨rfl, rfl, rfl⟩))
           · try simp only [decide_eq_true_eq, decide_eq_false_iff_not, Bool.not_eq_true', Bool.not_eq_false', Bool.not_true, Bool.not_false, Bool.not_not, ne_eq, Decidable.not_not, Int.not_lt, Int.not_le, gt_iff_lt, ge_iff_le, bool_true_eq_, bool_false_eq_] at h5
             first
             | (exfalso; first | omega | (simp at h5; done))
             | (skip
                refine GL.pass (s := 39) rfl rfl rfl ?_
                refine GL.pass (s := 39) rfl rfl rfl ?_
                refine GL.pure rfl (p_pick_false rfl rfl) ?_
                refine GL.nil (?_ : GC _ _ _ _)
                refine GC.cond_false rfl ?_
                refine GC.exit (?_ : GC _ _ _ _)
                refine GC.seq' ?_
                refine GC.region ?_
                refine GL.pure rfl (p_move rfl) ?_
                refine GL.pure rfl (p_move rfl) ?_
                refine GL.step rfl (t_call rfl fn_25 rfl (is := [0, 0, 0, 0, 0, 0]) (js := [0]) rfl rfl (by exact vsame_ct _ _ _ _ _ _ _ _ _ _ _ v hv)) (GL.ret ?_)
                rintro _ _ _ ⟨rfl, rfl, rfl⟩
                refine GL.pure rfl (p_assign rfl) ?_
                refine GL.nil (?_ : GC _ _ _ _)
                refine GC.ret ?_
                refine fun a w h => Fin.back (rs := [.tmp 6]) (vs := [_]) (is := []) (js := []) rfl ⟨rfl, trivial⟩ rfl rfl ?_ h
                clear h
                exact ⟨rfl, rfl, rfl⟩))
    · skip
      refine Ct.intro Try.func8 rfl rfl rfl (fun c hc => ?_)
      refine GC.seq' ?_
      refine GC.region ?_
      refine GL.step rfl (t_box rfl rfl rfl) (GL.ex fun b_t3 => ?_)
      refine GL.pure rfl (p_assign rfl) ?_
      refine GL.nil (?_ : GC _ _ _ _)
      refine GC.seq' ?_
      refine GC.seq' ?_
      refine GC.region ?_
      refine GL.step rfl (t_call rfl fn_12 rfl (is := []) (js := []) rfl rfl (by exact awake_ct)) (GL.ret ?_)
      rintro _ _ _ ⟨rfl, rfl, rfl⟩
      refine GL.pure rfl (p_not rfl) ?_
      refine GL.nil (?_ : GC _ _ _ _)
      refine GC.cond_false rfl ?_
      refine GC.skip (?_ : GC _ _ _ _)
      refine GC.seq' ?_
      refine GC.seq' ?_
      refine GC.region ?_
      refine GL.step rfl (t_mem rfl (m_loadN (i := 0) rfl rfl ag_23 (vs := [_, _]) sz_23 ⟨rfl, rfl, trivial⟩)) ?_
      refine GL.step rfl (t_call rfl fn_11 rfl (is := []) (js := []) rfl rfl (by exact small_ct _ _)) (GL.ret ?_)
      rintro _ _ _ ⟨rfl, rfl, rfl⟩
      refine GL.pure rfl (p_not rfl) ?_
      refine GL.pure rfl (p_move rfl) ?_
      refine GL.split (i := 16) rfl (fun h1 => ?_) (fun h1 => ?_)
      · try simp only [decide_eq_true_eq, decide_eq_false_iff_not, Bool.not_eq_true', Bool.not_eq_false', Bool.not_true, Bool.not_false, Bool.not_not, ne_eq, Decidable.not_not, Int.not_lt, Int.not_le, gt_iff_lt, ge_iff_le, bool_true_eq_, bool_false_eq_] at h1
        first
        | (exfalso; first | omega | (simp at h1; done))
        | (skip
           refine GL.stepG rfl (s := 16) rfl rfl (t_mem rfl (m_loadN (i := 0) rfl rfl ag_23 (vs := [_, _]) sz_23 ⟨rfl, rfl, trivial⟩)) ?_
           refine GL.stepG rfl (s := 16) rfl rfl (t_call rfl fn_10 rfl (is := []) (js := []) rfl rfl (by exact shapeR_ct _ _)) (GL.ret ?_)
           rintro _ _ _ ⟨rfl, rfl, rfl⟩
           refine GL.pureG (s := 16) rfl rfl rfl (p_eql rfl rfl) ?_
           refine GL.pure rfl (p_pick_true rfl rfl) ?_
           refine GL.nil (?_ : GC _ _ _ _)
           refine GC.cond rfl (fun h2 => ?_) (fun h2 => ?_)
           · try simp only [decide_eq_true_eq, decide_eq_false_iff_not, Bool.not_eq_true', Bool.not_eq_false', Bool.not_true, Bool.not_false, Bool.not_not, ne_eq, Decidable.not_not, Int.not_lt, Int.not_le, gt_iff_lt, ge_iff_le, bool_true_eq_, bool_false_eq_] at h2
             first
             | (exfalso; first | omega | (simp at h2; done))
             | (skip
                refine GC.seq' ?_
                refine GC.region ?_
                refine GL.pure rfl (p_assign rfl) ?_
                refine GL.nil (?_ : GC _ _ _ _)
                refine GC.ret ?_
                refine fun a w h => Fin.back (rs := [.tmp 6]) (vs := [_]) (is := []) (js := []) rfl ⟨rfl, trivial⟩ rfl rfl ?_ h
                clear h
                exact ⟨rfl, rfl, rfl⟩)
           · try simp only [decide_eq_true_eq, decide_eq_false_iff_not, Bool.not_eq_true', Bool.not_eq_false', Bool.not_true, Bool.not_false, Bool.not_not, ne_eq, Decidable.not_not, Int.not_lt, Int.not_le, gt_iff_lt, ge_iff_le, bool_true_eq_, bool_false_eq_] at h2
             first
             | (exfalso; first | omega | (simp at h2; done))
             | (skip
                refine GC.skip (?_ : GC _ _ _ _)
                refine GC.seq' ?_
                refine GC.region ?_
                refine GL.step rfl (t_mem rfl (m_loadN (i := 0) rfl rfl ag_23 (vs := [_, _]) sz_23 ⟨rfl, rfl, trivial⟩)) ?_
                refine GL.pure rfl (p_move rfl) ?_
                refine GL.step rfl (t_call rfl fn_15 rfl (is := []) (js := [0]) rfl rfl (by exact begin_no _ _ _ _ _ hs (by omega) (fun x hx => Nat.le_trans (hd x hx) (by decide)) (by simpa using hn))) (GL.ret ?_)
                rintro _ _ _ ⟨rfl, rfl, rfl⟩
                refine GL.pure rfl (p_move rfl) ?_
                refine GL.pure rfl (p_extract rfl rfl) ?_
                refine GL.pure rfl (p_extract rfl rfl) ?_
                refine GL.pure rfl (p_extract rfl rfl) ?_
                refine GL.pure rfl (p_assign rfl) ?_
                refine GL.pure rfl (p_assign rfl) ?_
                refine GL.pure rfl (p_assign rfl) ?_
                refine GL.nil (?_ : GC _ _ _ _)
                refine GC.seq' ?_
                refine GC.seq' ?_
                refine GC.region ?_
                refine GL.pure rfl (p_move rfl) ?_
                refine GL.pure rfl (p_not rfl) ?_
                refine GL.pure rfl (p_move rfl) ?_
                refine GL.pureG (s := 30) rfl rfl rfl (p_move rfl) ?_
                refine GL.pureG (s := 30) rfl rfl rfl (p_pnil_eql Try.underlying36 rfl rfl) ?_
                refine GL.pure rfl (p_pick_false rfl rfl) ?_
                refine GL.nil (?_ : GC _ _ _ _)
                refine GC.cond_true rfl ?_
                refine GC.seq' ?_
                refine GC.region ?_
                refine GL.pure rfl (p_move rfl) ?_
                refine GL.pure rfl (p_assign rfl) ?_
                refine GL.nil (?_ : GC _ _ _ _)
                refine GC.ret ?_
                refine fun a w h => Fin.back (rs := [.tmp 6]) (vs := [_]) (is := []) (js := []) rfl ⟨rfl, trivial⟩ rfl rfl ?_ h
                clear h
                exact ⟨rfl, rfl, rfl⟩))
      · try simp only [decide_eq_true_eq, decide_eq_false_iff_not, Bool.not_eq_true', Bool.not_eq_false', Bool.not_true, Bool.not_false, Bool.not_not, ne_eq, Decidable.not_not, Int.not_lt, Int.not_le, gt_iff_lt, ge_iff_le, bool_true_eq_, bool_false_eq_] at h1
        first
        | (exfalso; first | omega | (simp at h1; done))
        | (skip
           refine GL.pass (s := 16) rfl rfl rfl ?_
           refine GL.pass (s := 16) rfl rfl rfl ?_
           refine GL.pass (s := 16) rfl rfl rfl ?_
           refine GL.pure rfl (p_pick_false rfl rfl) ?_
           refine GL.nil (?_ : GC _ _ _ _)
           refine GC.cond_false rfl ?_
           refine GC.skip (?_ : GC _ _ _ _)
           refine GC.seq' ?_
           refine GC.region ?_
           refine GL.step rfl (t_mem rfl (m_loadN (i := 0) rfl rfl ag_23 (vs := [_, _]) sz_23 ⟨rfl, rfl, trivial⟩)) ?_
           refine GL.pure rfl (p_move rfl) ?_
           refine GL.step rfl (t_call rfl fn_15 rfl (is := []) (js := [0]) rfl rfl (by exact begin_no _ _ _ _ _ hs (by omega) (fun x hx => Nat.le_trans (hd x hx) (by decide)) (by simpa using hn))) (GL.ret ?_)
           rintro _ _ _ ⟨rfl, rfl, rfl⟩
           refine GL.pure rfl (p_move rfl) ?_
           refine GL.pure rfl (p_extract rfl rfl) ?_
           refine GL.pure rfl (p_extract rfl rfl) ?_
           refine GL.pure rfl (p_extract rfl rfl) ?_
           refine GL.pure rfl (p_assign rfl) ?_
           refine GL.pure rfl (p_assign rfl) ?_
           refine GL.pure rfl (p_assign rfl) ?_
           refine GL.nil (?_ : GC _ _ _ _)
           refine GC.seq' ?_
           refine GC.seq' ?_
           refine GC.region ?_
           refine GL.pure rfl (p_move rfl) ?_
           refine GL.pure rfl (p_not rfl) ?_
           refine GL.pure rfl (p_move rfl) ?_
           refine GL.pureG (s := 30) rfl rfl rfl (p_move rfl) ?_
           refine GL.pureG (s := 30) rfl rfl rfl (p_pnil_eql Try.underlying36 rfl rfl) ?_
           refine GL.pure rfl (p_pick_false rfl rfl) ?_
           refine GL.nil (?_ : GC _ _ _ _)
           refine GC.cond_true rfl ?_
           refine GC.seq' ?_
           refine GC.region ?_
           refine GL.pure rfl (p_move rfl) ?_
           refine GL.pure rfl (p_assign rfl) ?_
           refine GL.nil (?_ : GC _ _ _ _)
           refine GC.ret ?_
           refine fun a w h => Fin.back (rs := [.tmp 6]) (vs := [_]) (is := []) (js := []) rfl ⟨rfl, trivial⟩ rfl rfl ?_ h
           clear h
           exact ⟨rfl, rfl, rfl⟩)
  · skip
    refine Ct.intro Try.func8 rfl rfl rfl (fun c hc => ?_)
    refine GC.seq' ?_
    refine GC.region ?_
    refine GL.step rfl (t_box rfl rfl rfl) (GL.ex fun b_t3 => ?_)
    refine GL.pure rfl (p_assign rfl) ?_
    refine GL.nil (?_ : GC _ _ _ _)
    refine GC.seq' ?_
    refine GC.seq' ?_
    refine GC.region ?_
    refine GL.step rfl (t_call rfl fn_12 rfl (is := []) (js := []) rfl rfl (by exact awake_ct)) (GL.ret ?_)
    rintro _ _ _ ⟨rfl, rfl, rfl⟩
    refine GL.pure rfl (p_not rfl) ?_
    refine GL.nil (?_ : GC _ _ _ _)
    refine GC.cond_false rfl ?_
    refine GC.skip (?_ : GC _ _ _ _)
    refine GC.seq' ?_
    refine GC.seq' ?_
    refine GC.region ?_
    refine GL.step rfl (t_mem rfl (m_loadN (i := 0) rfl rfl ag_23 (vs := [_, _]) sz_23 ⟨rfl, rfl, trivial⟩)) ?_
    refine GL.step rfl (t_call rfl fn_11 rfl (is := []) (js := []) rfl rfl (by exact small_ct _ _)) (GL.ret ?_)
    rintro _ _ _ ⟨rfl, rfl, rfl⟩
    refine GL.pure rfl (p_not rfl) ?_
    refine GL.pure rfl (p_move rfl) ?_
    refine GL.split (i := 16) rfl (fun h1 => ?_) (fun h1 => ?_)
    · try simp only [decide_eq_true_eq, decide_eq_false_iff_not, Bool.not_eq_true', Bool.not_eq_false', Bool.not_true, Bool.not_false, Bool.not_not, ne_eq, Decidable.not_not, Int.not_lt, Int.not_le, gt_iff_lt, ge_iff_le, bool_true_eq_, bool_false_eq_] at h1
      refine GL.stepG rfl (s := 16) rfl rfl (t_mem rfl (m_loadN (i := 0) rfl rfl ag_23 (vs := [_, _]) sz_23 ⟨rfl, rfl, trivial⟩)) ?_
      refine GL.stepG rfl (s := 16) rfl rfl (t_call rfl fn_10 rfl (is := []) (js := []) rfl rfl (by exact shapeR_ct _ _)) (GL.ret ?_)
      rintro _ _ _ ⟨rfl, rfl, rfl⟩
      refine GL.pureG (s := 16) rfl rfl rfl (p_eql rfl rfl) ?_
      refine GL.pure rfl (p_pick_true rfl rfl) ?_
      refine GL.nil (?_ : GC _ _ _ _)
      refine GC.cond rfl (fun h2 => ?_) (fun h2 => ?_)
      · try simp only [decide_eq_true_eq, decide_eq_false_iff_not, Bool.not_eq_true', Bool.not_eq_false', Bool.not_true, Bool.not_false, Bool.not_not, ne_eq, Decidable.not_not, Int.not_lt, Int.not_le, gt_iff_lt, ge_iff_le, bool_true_eq_, bool_false_eq_] at h2
        refine GC.seq' ?_
        refine GC.region ?_
        refine GL.pure rfl (p_assign rfl) ?_
        refine GL.nil (?_ : GC _ _ _ _)
        refine GC.ret ?_
        refine fun a w h => Fin.back (rs := [.tmp 6]) (vs := [_]) (is := []) (js := []) rfl ⟨rfl, trivial⟩ rfl rfl ?_ h
        clear h
        exact ⟨rfl, rfl, rfl⟩
      · try simp only [decide_eq_true_eq, decide_eq_false_iff_not, Bool.not_eq_true', Bool.not_eq_false', Bool.not_true, Bool.not_false, Bool.not_not, ne_eq, Decidable.not_not, Int.not_lt, Int.not_le, gt_iff_lt, ge_iff_le, bool_true_eq_, bool_false_eq_] at h2
        refine GC.skip (?_ : GC _ _ _ _)
        refine GC.seq' ?_
        refine GC.region ?_
        refine GL.step rfl (t_mem rfl (m_loadN (i := 0) rfl rfl ag_23 (vs := [_, _]) sz_23 ⟨rfl, rfl, trivial⟩)) ?_
        refine GL.pure rfl (p_move rfl) ?_
        refine GL.step rfl (t_call rfl fn_15 rfl (is := []) (js := [0]) rfl rfl (by exact begin_bad _ _ _ _ _ hs)) (GL.ret ?_)
        rintro _ _ _ ⟨rfl, rfl, rfl⟩
        refine GL.pure rfl (p_move rfl) ?_
        refine GL.pure rfl (p_extract rfl rfl) ?_
        refine GL.pure rfl (p_extract rfl rfl) ?_
        refine GL.pure rfl (p_extract rfl rfl) ?_
        refine GL.pure rfl (p_assign rfl) ?_
        refine GL.pure rfl (p_assign rfl) ?_
        refine GL.pure rfl (p_assign rfl) ?_
        refine GL.nil (?_ : GC _ _ _ _)
        refine GC.seq' ?_
        refine GC.seq' ?_
        refine GC.region ?_
        refine GL.pure rfl (p_move rfl) ?_
        refine GL.pure rfl (p_not rfl) ?_
        refine GL.pure rfl (p_move rfl) ?_
        refine GL.pureG (s := 30) rfl rfl rfl (p_move rfl) ?_
        refine GL.pureG (s := 30) rfl rfl rfl (p_pnil_eql Try.underlying36 rfl rfl) ?_
        refine GL.pure rfl (p_pick_false rfl rfl) ?_
        refine GL.nil (?_ : GC _ _ _ _)
        refine GC.cond_true rfl ?_
        refine GC.seq' ?_
        refine GC.region ?_
        refine GL.pure rfl (p_move rfl) ?_
        refine GL.pure rfl (p_assign rfl) ?_
        refine GL.nil (?_ : GC _ _ _ _)
        refine GC.ret ?_
        refine fun a w h => Fin.back (rs := [.tmp 6]) (vs := [_]) (is := []) (js := []) rfl ⟨rfl, trivial⟩ rfl rfl ?_ h
        clear h
        exact ⟨rfl, rfl, rfl⟩
    · try simp only [decide_eq_true_eq, decide_eq_false_iff_not, Bool.not_eq_true', Bool.not_eq_false', Bool.not_true, Bool.not_false, Bool.not_not, ne_eq, Decidable.not_not, Int.not_lt, Int.not_le, gt_iff_lt, ge_iff_le, bool_true_eq_, bool_false_eq_] at h1
      refine GL.pass (s := 16) rfl rfl rfl ?_
      refine GL.pass (s := 16) rfl rfl rfl ?_
      refine GL.pass (s := 16) rfl rfl rfl ?_
      refine GL.pure rfl (p_pick_false rfl rfl) ?_
      refine GL.nil (?_ : GC _ _ _ _)
      refine GC.cond_false rfl ?_
      refine GC.skip (?_ : GC _ _ _ _)
      refine GC.seq' ?_
      refine GC.region ?_
      refine GL.step rfl (t_mem rfl (m_loadN (i := 0) rfl rfl ag_23 (vs := [_, _]) sz_23 ⟨rfl, rfl, trivial⟩)) ?_
      refine GL.pure rfl (p_move rfl) ?_
      refine GL.step rfl (t_call rfl fn_15 rfl (is := []) (js := [0]) rfl rfl (by exact begin_bad _ _ _ _ _ hs)) (GL.ret ?_)
      rintro _ _ _ ⟨rfl, rfl, rfl⟩
      refine GL.pure rfl (p_move rfl) ?_
      refine GL.pure rfl (p_extract rfl rfl) ?_
      refine GL.pure rfl (p_extract rfl rfl) ?_
      refine GL.pure rfl (p_extract rfl rfl) ?_
      refine GL.pure rfl (p_assign rfl) ?_
      refine GL.pure rfl (p_assign rfl) ?_
      refine GL.pure rfl (p_assign rfl) ?_
      refine GL.nil (?_ : GC _ _ _ _)
      refine GC.seq' ?_
      refine GC.seq' ?_
      refine GC.region ?_
      refine GL.pure rfl (p_move rfl) ?_
      refine GL.pure rfl (p_not rfl) ?_
      refine GL.pure rfl (p_move rfl) ?_
      refine GL.pureG (s := 30) rfl rfl rfl (p_move rfl) ?_
      refine GL.pureG (s := 30) rfl rfl rfl (p_pnil_eql Try.underlying36 rfl rfl) ?_
      refine GL.pure rfl (p_pick_false rfl rfl) ?_
      refine GL.nil (?_ : GC _ _ _ _)
      refine GC.cond_true rfl ?_
      refine GC.seq' ?_
      refine GC.region ?_
      refine GL.pure rfl (p_move rfl) ?_
      refine GL.pure rfl (p_assign rfl) ?_
      refine GL.nil (?_ : GC _ _ _ _)
      refine GC.ret ?_
      refine fun a w h => Fin.back (rs := [.tmp 6]) (vs := [_]) (is := []) (js := []) rfl ⟨rfl, trivial⟩ rfl rfl ?_ h
      clear h
      exact ⟨rfl, rfl, rfl⟩
end Go.Proofs.Ytihhpkbbhfcdcaa
