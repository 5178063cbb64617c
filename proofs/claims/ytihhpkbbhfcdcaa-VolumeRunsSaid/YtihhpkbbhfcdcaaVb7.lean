/- THE VOLUME: a new volume of any shape holds nothing but 0: the walk of the law. -/
import Derived.Test.YtihhpkbbhfcdcaaVb6
set_option linter.unusedVariables false
set_option linter.unusedSimpArgs false
set_option maxRecDepth 100000
namespace Go.Proofs.Ytihhpkbbhfcdcaa
open Go Go.Sx Go.Proofs
theorem new_gt (bl sz i : Int) : gt (newV bl sz).b i = 0 := by
  simp only [newV, gt, List.getD_eq_getElem?_getD, List.getElem?_replicate]
  split <;> rfl
theorem new_gtv (bl sz i : Int) : gt (newV bl sz).vs i = 0 := by
  simp only [newV, gt, List.getD_eq_getElem?_getD, List.getElem?_replicate]
  split <;> rfl
theorem new_pagesA (bl sz since : Int) : ∀ k, pagesA (newV bl sz) since k = []
  | 0 => rfl
  | k + 1 => by
    rw [pagesA, new_gtv, if_neg (by omega)]
    exact new_pagesA bl sz since k
theorem new_pages (bl sz since : Int) : pagesF (newV bl sz) since = [] := new_pagesA bl sz since _
theorem new_len {bl sz : Int} (h : shapeOk bl sz) : ((newV bl sz).b.length : Int) = bl * sz := by
  have := mulS h
  simp only [newV, List.length_replicate]
  omega
theorem volumeNew_ct (bl sz : Int) : Ct Try.prog 3 [shpV bl sz] [] [] (fun v G Q => v = .bool true ∧ G = [] ∧ Q = []) := by
  by_cases hs : shapeOk bl sz
  · have he : shapeE bl sz = 0 := by simp [shapeE, hs]
    have hm := mulS hs
    have hok := newV_ok hs
    have hlen := new_len hs
    refine Ct.intro Try.func3 rfl rfl rfl (fun c hc => ?_)
    refine GC.seq' ?_
    refine GC.region ?_
    refine GL.step rfl (t_box rfl rfl rfl) (GL.ex fun b_t1 => ?_)
    refine GL.pure rfl (p_assign rfl) ?_
    refine GL.nil (?_ : GC _ _ _ _)
    refine GC.seq' ?_
    refine GC.region ?_
    refine GL.step rfl (t_mem rfl (m_loadN (i := 0) rfl rfl ag_23 (vs := [_, _]) sz_23 ⟨rfl, rfl, trivial⟩)) ?_
    refine GL.step rfl (t_call rfl fn_9 rfl (is := []) (js := []) rfl rfl (by exact new_ok _ _ hs)) (GL.ret ?_)
    rintro _ _ _ ⟨p9, pb9, pv9, rfl, rfl, rfl⟩
    refine GL.pure rfl (p_move rfl) ?_
    refine GL.pure rfl (p_extract rfl rfl) ?_
    refine GL.pure rfl (p_extract rfl rfl) ?_
    refine GL.pure rfl (p_assign rfl) ?_
    refine GL.pure rfl (p_assign rfl) ?_
    refine GL.nil (?_ : GC _ _ _ _)
    refine GC.seq' ?_
    refine GC.seq' ?_
    refine GC.region ?_
    refine GL.pure rfl (p_move rfl) ?_
    refine GL.step rfl (t_mem rfl (m_loadN (i := 3) rfl rfl ag_23 (vs := [_, _]) sz_23 ⟨rfl, rfl, trivial⟩)) ?_
    refine GL.step rfl (t_call rfl fn_10 rfl (is := []) (js := []) rfl rfl (by exact shapeR_eq _ _ _ he)) (GL.ret ?_)
    rintro _ _ _ ⟨rfl, rfl, rfl⟩
    refine GL.pure rfl (p_neq rfl rfl) ?_
    refine GL.pure rfl (p_move rfl) ?_
    refine GL.pureG (s := 16) rfl rfl rfl (p_move rfl) ?_
    refine GL.pureG (s := 16) rfl rfl rfl (p_pnil_eql Try.underlying24 rfl rfl) ?_
    refine GL.pureG (s := 16) rfl rfl rfl (p_move rfl) ?_
    refine GL.pureG (s := 16) rfl rfl rfl (p_neq rfl rfl) ?_
    refine GL.pureG (s := 16) rfl rfl rfl (p_bneq Try.underlying4 rfl rfl) ?_
    refine GL.pure rfl (p_pick_false rfl rfl) ?_
    refine GL.nil (?_ : GC _ _ _ _)
    refine GC.cond_false rfl ?_
    refine GC.skip (?_ : GC _ _ _ _)
    refine GC.seq' ?_
    refine GC.seq' ?_
    refine GC.region ?_
    refine GL.pure rfl (p_move rfl) ?_
    refine GL.pure rfl (p_neq rfl rfl) ?_
    refine GL.pure rfl (p_move rfl) ?_
    refine GL.stepG rfl (s := 25) rfl rfl (t_mem rfl (m_loadN (i := 3) rfl rfl ag_23 (vs := [_, _]) sz_23 ⟨rfl, rfl, trivial⟩)) ?_
    refine GL.stepG rfl (s := 25) rfl rfl (t_call rfl fn_11 rfl (is := []) (js := []) rfl rfl (by exact small_ct _ _)) (GL.ret ?_)
    rintro _ _ _ ⟨rfl, rfl, rfl⟩
    refine GL.pureG (s := 25) rfl rfl rfl (p_not rfl) ?_
    refine GL.pure rfl (p_pick_false rfl rfl) ?_
    refine GL.nil (?_ : GC _ _ _ _)
    refine GC.cond rfl (fun h1 => ?_) (fun h1 => ?_)
    · try simp only [decide_eq_true_eq, decide_eq_false_iff_not, Bool.not_eq_true', Bool.not_eq_false', Bool.not_true, Bool.not_false, Bool.not_not, ne_eq, Decidable.not_not, Int.not_lt, Int.not_le, gt_iff_lt, ge_iff_le, bool_true_eq_, bool_false_eq_] at h1
      first
      | (exfalso; first | omega | (simp at h1; done) | exact h1 (by rw [new_gt]; rfl))
      | (skip
         refine GC.seq' ?_
         refine GC.region ?_
         refine GL.step rfl (t_call rfl fn_12 rfl (is := []) (js := []) rfl rfl (by exact awake_ct)) (GL.ret ?_)
         rintro _ _ _ ⟨rfl, rfl, rfl⟩
         refine GL.pure rfl (p_assign rfl) ?_
         refine GL.nil (?_ : GC _ _ _ _)
         refine GC.ret ?_
         refine fun a w h => Fin.back (rs := [.tmp 2]) (vs := [_]) (is := []) (js := []) rfl ⟨rfl, trivial⟩ rfl rfl ?_ h
         clear h
         exact ⟨rfl, rfl, rfl⟩)
    · try simp only [decide_eq_true_eq, decide_eq_false_iff_not, Bool.not_eq_true', Bool.not_eq_false', Bool.not_true, Bool.not_false, Bool.not_not, ne_eq, Decidable.not_not, Int.not_lt, Int.not_le, gt_iff_lt, ge_iff_le, bool_true_eq_, bool_false_eq_] at h1
      first
      | (exfalso; first | omega | (simp at h1; done) | exact h1 (by rw [new_gt]; rfl))
      | (skip
         refine GC.skip (?_ : GC _ _ _ _)
         refine GC.seq' ?_
         refine GC.region ?_
         refine GL.pure rfl (p_move rfl) ?_
         refine GL.step rfl (t_call rfl fn_13 rfl (is := [0, 0, 0]) (js := []) rfl rfl (by exact bytes_ct _ _ _ _ hok)) (GL.ret ?_)
         rintro _ _ _ ⟨A32, cp32, l32, k32, rfl, rfl, rfl⟩
         refine GL.pure rfl (p_assign rfl) ?_
         refine GL.nil (?_ : GC _ _ _ _)
         refine GC.seq' ?_
         refine GC.seq' ?_
         refine GC.region ?_
         refine GL.freezeB (i := 0) rfl ?_
         refine GL.pure rfl (p_assign rfl) ?_
         refine GL.nil (?_ : GC _ _ _ _)
         refine GC.block ?_
         refine GC.imp (fun a w h => (⟨by omega, h.cut (is := [3, 0, 0, 0]) (js := [0]) ⟨rfl, rfl, rfl, rfl, trivial⟩ rfl rfl⟩ : (fun (i : Nat) (a : Act) (w : World) => i ≤ (newV bl sz).b.length ∧ St c 61 [(1, .pointer (some ⟨b_t1, 0, none⟩)), (3, .pointer (some ⟨p9, 0, none⟩)), (5, .slice A32 (newV bl sz).b.length cp32), (6, .int .i64 (i : Int))] [.cells b_t1 [.int .i64 bl, .int .i64 sz] 23, .cells p9 [.int .i64 bl, .int .i64 sz, .slice (some ⟨pb9, 0, none⟩) (bl * sz).toNat (bl * sz).toNat, .slice (some ⟨pv9, 0, none⟩) bl.toNat bl.toNat, .int .i64 0] 58, .cells pb9 ((newV bl sz).b.map u8v) 5, .cells pv9 ((newV bl sz).vs.map (Value.int .i64)) 3] [Pers.row Kd.u8 A32 (newV bl sz).b] a w) 0 a w)) (GC.loop (fun (i : Nat) (a : Act) (w : World) => i ≤ (newV bl sz).b.length ∧ St c 61 [(1, .pointer (some ⟨b_t1, 0, none⟩)), (3, .pointer (some ⟨p9, 0, none⟩)), (5, .slice A32 (newV bl sz).b.length cp32), (6, .int .i64 (i : Int))] [.cells b_t1 [.int .i64 bl, .int .i64 sz] 23, .cells p9 [.int .i64 bl, .int .i64 sz, .slice (some ⟨pb9, 0, none⟩) (bl * sz).toNat (bl * sz).toNat, .slice (some ⟨pv9, 0, none⟩) bl.toNat bl.toNat, .int .i64 0] 58, .cells pb9 ((newV bl sz).b.map u8v) 5, .cells pv9 ((newV bl sz).vs.map (Value.int .i64)) 3] [Pers.row Kd.u8 A32 (newV bl sz).b] a w) (fun i => (newV bl sz).b.length - i) 0 ?_)
         intro i
         refine GC.and fun hi => ?_
         refine GC.seq' ?_
         refine GC.seq' ?_
         refine GC.region ?_
         refine GL.pure rfl (p_move rfl) ?_
         refine GL.pure rfl (p_move rfl) ?_
         refine GL.pure rfl (p_len Try.underlying31 rfl) ?_
         refine GL.pure rfl (p_lss rfl rfl) ?_
         refine GL.nil (?_ : GC _ _ _ _)
         refine GC.cond rfl (fun h2 => ?_) (fun h2 => ?_)
         · try simp only [decide_eq_true_eq, decide_eq_false_iff_not, Bool.not_eq_true', Bool.not_eq_false', Bool.not_true, Bool.not_false, Bool.not_not, ne_eq, Decidable.not_not, Int.not_lt, Int.not_le, gt_iff_lt, ge_iff_le, bool_true_eq_, bool_false_eq_] at h2
           first
           | (exfalso; first | omega | (simp at h2; done) | exact h2 (by rw [new_gt]; rfl))
           | (skip
              refine GC.skip (?_ : GC _ _ _ _)
              refine GC.seq' ?_
              refine GC.block ?_
              refine GC.seq' ?_
              refine GC.region ?_
              refine GL.pure rfl (p_move rfl) ?_
              refine GL.pure rfl (p_move rfl) ?_
              refine GL.step rfl (t_index (i := 0) rfl rfl rfl rfl Try.underlying31 sz_5 (by omega) (gt_ok (by omega) (by omega))) (GL.ex fun p_x41 => GL.ex fun r_x41 => GL.and fun ok_x41 => ?_)
              rcases r_x41 with _
              refine GL.step rfl (t_mem rfl (m_loadP (i := 0) rfl rfl ag_5 rfl)) ?_
              refine GL.pure rfl (p_neq rfl rfl) ?_
              refine GL.nil (?_ : GC _ _ _ _)
              refine GC.cond rfl (fun h3 => ?_) (fun h3 => ?_)
              · try simp only [decide_eq_true_eq, decide_eq_false_iff_not, Bool.not_eq_true', Bool.not_eq_false', Bool.not_true, Bool.not_false, Bool.not_not, ne_eq, Decidable.not_not, Int.not_lt, Int.not_le, gt_iff_lt, ge_iff_le, bool_true_eq_, bool_false_eq_] at h3
                first
                | (exfalso; first | omega | (simp at h3; done) | exact h3 (by rw [new_gt]; rfl))
                | (skip
                   refine GC.seq' ?_
                   refine GC.region ?_
                   refine GL.pure rfl (p_assign rfl) ?_
                   refine GL.nil (?_ : GC _ _ _ _)
                   refine GC.ret ?_
                   refine fun a w h => Fin.back (rs := [.tmp 2]) (vs := [_]) (is := []) (js := []) rfl ⟨rfl, trivial⟩ rfl rfl ?_ h
                   clear h
                   exact ⟨rfl, rfl, rfl⟩)
              · try simp only [decide_eq_true_eq, decide_eq_false_iff_not, Bool.not_eq_true', Bool.not_eq_false', Bool.not_true, Bool.not_false, Bool.not_not, ne_eq, Decidable.not_not, Int.not_lt, Int.not_le, gt_iff_lt, ge_iff_le, bool_true_eq_, bool_false_eq_] at h3
                first
                | (exfalso; first | omega | (simp at h3; done) | exact h3 (by rw [new_gt]; rfl))
                | (skip
                   refine GC.skip (?_ : GC _ _ _ _)
                   refine GC.region ?_
                   refine GL.pure rfl (p_move rfl) ?_
                   refine GL.pure rfl (p_add rfl rfl (w64 (by omega) (by omega))) ?_
                   refine GL.pure rfl (p_assign rfl) ?_
                   refine GL.nil ?_
                   exact fun a w h => ⟨(i + 1), (by omega), (by omega), h.cut (is := [0, 0, 0, 0]) (js := [1]) ⟨rfl, rfl, rfl, rfl, trivial⟩ rfl rfl⟩))
         · try simp only [decide_eq_true_eq, decide_eq_false_iff_not, Bool.not_eq_true', Bool.not_eq_false', Bool.not_true, Bool.not_false, Bool.not_not, ne_eq, Decidable.not_not, Int.not_lt, Int.not_le, gt_iff_lt, ge_iff_le, bool_true_eq_, bool_false_eq_] at h2
           first
           | (exfalso; first | omega | (simp at h2; done) | exact h2 (by rw [new_gt]; rfl))
           | (skip
              refine GC.exit (?_ : GC _ _ _ _)
              refine GC.seq' ?_
              refine GC.region ?_
              refine GL.pure rfl (p_move rfl) ?_
              refine GL.pure rfl (p_len Try.underlying31 rfl) ?_
              refine GL.pure rfl (p_fieldAddr fo_23_0 rfl) ?_
              refine GL.step rfl (t_mem rfl (m_load (i := 0) rfl rfl ag_3 rfl)) ?_
              refine GL.pure rfl (p_fieldAddr fo_23_1 rfl) ?_
              refine GL.step rfl (t_mem rfl (m_load (i := 0) rfl rfl ag_3 rfl)) ?_
              refine GL.pure rfl (p_mul rfl rfl (w64 (by omega) (by omega))) ?_
              refine GL.pure rfl (p_eql rfl rfl) ?_
              refine GL.pure rfl (p_move rfl) ?_
              refine GL.split (i := 52) rfl (fun h4 => ?_) (fun h4 => ?_)
              · try simp only [decide_eq_true_eq, decide_eq_false_iff_not, Bool.not_eq_true', Bool.not_eq_false', Bool.not_true, Bool.not_false, Bool.not_not, ne_eq, Decidable.not_not, Int.not_lt, Int.not_le, gt_iff_lt, ge_iff_le, bool_true_eq_, bool_false_eq_] at h4
                first
                | (exfalso; first | omega | (simp at h4; done) | exact h4 (by rw [new_gt]; rfl))
                | (skip
                   refine GL.pureG (s := 52) rfl rfl rfl (p_move rfl) ?_
                   refine GL.stepG rfl (s := 52) rfl rfl (t_call rfl fn_14 rfl (is := [1, 1, 1]) (js := []) rfl rfl (by exact pages_eq _ _ _ _ _ hok [] (new_pages _ _ _))) (GL.ret ?_)
                   rintro _ _ _ ⟨A54, cp54, cs54, l54, k54, rfl, rfl, rfl⟩
                   refine GL.pureG (s := 52) rfl rfl rfl (p_len Try.underlying33 rfl) ?_
                   refine GL.pureG (s := 52) rfl rfl rfl (p_eql rfl rfl) ?_
                   refine GL.pure rfl (p_pick_true rfl rfl) ?_
                   refine GL.pure rfl (p_move rfl) ?_
                   refine GL.split (i := 58) rfl (fun h5 => ?_) (fun h5 => ?_)
                   · try simp only [decide_eq_true_eq, decide_eq_false_iff_not, Bool.not_eq_true', Bool.not_eq_false', Bool.not_true, Bool.not_false, Bool.not_not, ne_eq, Decidable.not_not, Int.not_lt, Int.not_le, gt_iff_lt, ge_iff_le, bool_true_eq_, bool_false_eq_] at h5
                     first
                     | (exfalso; first | omega | (simp at h5; done) | exact h5 (by rw [new_gt]; rfl))
                     | (skip
                        refine GL.stepG rfl (s := 58) rfl rfl (t_call rfl fn_12 rfl (is := []) (js := []) rfl rfl (by exact awake_ct)) (GL.ret ?_)
                        rintro _ _ _ ⟨rfl, rfl, rfl⟩
                        refine GL.pure rfl (p_pick_true rfl rfl) ?_
                        refine GL.pure rfl (p_assign rfl) ?_
                        refine GL.nil (?_ : GC _ _ _ _)
                        refine GC.ret ?_
                        refine fun a w h => Fin.back (rs := [.tmp 2]) (vs := [_]) (is := []) (js := []) rfl ⟨rfl, trivial⟩ rfl rfl ?_ h
                        clear h
                        exact ⟨rfl, rfl, rfl⟩)
                   · try simp only [decide_eq_true_eq, decide_eq_false_iff_not, Bool.not_eq_true', Bool.not_eq_false', Bool.not_true, Bool.not_false, Bool.not_not, ne_eq, Decidable.not_not, Int.not_lt, Int.not_le, gt_iff_lt, ge_iff_le, bool_true_eq_, bool_false_eq_] at h5
                     first
                     | (exfalso; first | omega | (simp at h5; done) | exact h5 (by rw [new_gt]; rfl))
                     | (skip
                        refine GL.pass (s := 58) rfl rfl rfl ?_
                        refine GL.pure rfl (p_pick_false rfl rfl) ?_
                        refine GL.pure rfl (p_assign rfl) ?_
                        refine GL.nil (?_ : GC _ _ _ _)
                        refine GC.ret ?_
                        refine fun a w h => Fin.back (rs := [.tmp 2]) (vs := [_]) (is := []) (js := []) rfl ⟨rfl, trivial⟩ rfl rfl ?_ h
                        clear h
                        exact ⟨rfl, rfl, rfl⟩))
              · try simp only [decide_eq_true_eq, decide_eq_false_iff_not, Bool.not_eq_true', Bool.not_eq_false', Bool.not_true, Bool.not_false, Bool.not_not, ne_eq, Decidable.not_not, Int.not_lt, Int.not_le, gt_iff_lt, ge_iff_le, bool_true_eq_, bool_false_eq_] at h4
                first
                | (exfalso; first | omega | (simp at h4; done) | exact h4 (by rw [new_gt]; rfl))
                | (skip
                   refine GL.pass (s := 52) rfl rfl rfl ?_
                   refine GL.pass (s := 52) rfl rfl rfl ?_
                   refine GL.pass (s := 52) rfl rfl rfl ?_
                   refine GL.pass (s := 52) rfl rfl rfl ?_
                   refine GL.pure rfl (p_pick_false rfl rfl) ?_
                   refine GL.pure rfl (p_move rfl) ?_
                   refine GL.pass (s := 58) rfl rfl rfl ?_
                   refine GL.pure rfl (p_pick_false rfl rfl) ?_
                   refine GL.pure rfl (p_assign rfl) ?_
                   refine GL.nil (?_ : GC _ _ _ _)
                   refine GC.ret ?_
                   refine fun a w h => Fin.back (rs := [.tmp 2]) (vs := [_]) (is := []) (js := []) rfl ⟨rfl, trivial⟩ rfl rfl ?_ h
                   clear h
                   exact ⟨rfl, rfl, rfl⟩)))
  · have he : shapeE bl sz = 40 := by simp [shapeE, hs]
    refine Ct.intro Try.func3 rfl rfl rfl (fun c hc => ?_)
    refine GC.seq' ?_
    refine GC.region ?_
    refine GL.step rfl (t_box rfl rfl rfl) (GL.ex fun b_t1 => ?_)
    refine GL.pure rfl (p_assign rfl) ?_
    refine GL.nil (?_ : GC _ _ _ _)
    refine GC.seq' ?_
    refine GC.region ?_
    refine GL.step rfl (t_mem rfl (m_loadN (i := 0) rfl rfl ag_23 (vs := [_, _]) sz_23 ⟨rfl, rfl, trivial⟩)) ?_
    refine GL.step rfl (t_call rfl fn_9 rfl (is := []) (js := []) rfl rfl (by exact new_bad _ _ hs)) (GL.ret ?_)
    rintro _ _ _ ⟨rfl, rfl, rfl⟩
    refine GL.pure rfl (p_move rfl) ?_
    refine GL.pure rfl (p_extract rfl rfl) ?_
    refine GL.pure rfl (p_extract rfl rfl) ?_
    refine GL.pure rfl (p_assign rfl) ?_
    refine GL.pure rfl (p_assign rfl) ?_
    refine GL.nil (?_ : GC _ _ _ _)
    refine GC.seq' ?_
    refine GC.seq' ?_
    refine GC.region ?_
    refine GL.pure rfl (p_move rfl) ?_
    refine GL.step rfl (t_mem rfl (m_loadN (i := 0) rfl rfl ag_23 (vs := [_, _]) sz_23 ⟨rfl, rfl, trivial⟩)) ?_
    refine GL.step rfl (t_call rfl fn_10 rfl (is := []) (js := []) rfl rfl (by exact shapeR_eq _ _ _ he)) (GL.ret ?_)
    rintro _ _ _ ⟨rfl, rfl, rfl⟩
    refine GL.pure rfl (p_neq rfl rfl) ?_
    refine GL.pure rfl (p_move rfl) ?_
    refine GL.pureG (s := 16) rfl rfl rfl (p_move rfl) ?_
    refine GL.pureG (s := 16) rfl rfl rfl (p_pnil_eql Try.underlying24 rfl rfl) ?_
    refine GL.pureG (s := 16) rfl rfl rfl (p_move rfl) ?_
    refine GL.pureG (s := 16) rfl rfl rfl (p_neq rfl rfl) ?_
    refine GL.pureG (s := 16) rfl rfl rfl (p_bneq Try.underlying4 rfl rfl) ?_
    refine GL.pure rfl (p_pick_false rfl rfl) ?_
    refine GL.nil (?_ : GC _ _ _ _)
    refine GC.cond_false rfl ?_
    refine GC.skip (?_ : GC _ _ _ _)
    refine GC.seq' ?_
    refine GC.seq' ?_
    refine GC.region ?_
    refine GL.pure rfl (p_move rfl) ?_
    refine GL.pure rfl (p_neq rfl rfl) ?_
    refine GL.pure rfl (p_move rfl) ?_
    refine GL.pass (s := 25) rfl rfl rfl ?_
    refine GL.pass (s := 25) rfl rfl rfl ?_
    refine GL.pass (s := 25) rfl rfl rfl ?_
    refine GL.pure rfl (p_pick_true rfl rfl) ?_
    refine GL.nil (?_ : GC _ _ _ _)
    refine GC.cond_true rfl ?_
    refine GC.seq' ?_
    refine GC.region ?_
    refine GL.step rfl (t_call rfl fn_12 rfl (is := []) (js := []) rfl rfl (by exact awake_ct)) (GL.ret ?_)
    rintro _ _ _ ⟨rfl, rfl, rfl⟩
    refine GL.pure rfl (p_assign rfl) ?_
    refine GL.nil (?_ : GC _ _ _ _)
    refine GC.ret ?_
    refine fun a w h => Fin.back (rs := [.tmp 2]) (vs := [_]) (is := []) (js := []) rfl ⟨rfl, trivial⟩ rfl rfl ?_ h
    clear h
    exact ⟨rfl, rfl, rfl⟩
end Go.Proofs.Ytihhpkbbhfcdcaa
