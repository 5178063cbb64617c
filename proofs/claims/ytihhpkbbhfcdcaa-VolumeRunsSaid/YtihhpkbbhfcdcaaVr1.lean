/- THE VOLUME OF THE REFERENCE: a new one; blocks read and written. -/
import Derived.Test.YtihhpkbbhfcdcaaVc
import Derived.Test.YtihhpkbbhfcdcaaSx13
set_option linter.unusedVariables false
set_option linter.unusedSimpArgs false
set_option maxRecDepth 100000
namespace Go.Proofs.Ytihhpkbbhfcdcaa
open Go Go.Sx Go.Proofs

abbrev rvG (p pB pV c1 c2 : Nat) (sp spv cs : List Value) (v : Vol) : List Own := [.cells p [.int .i64 v.bl, .int .i64 v.sz, .slice (some ⟨pB, 0, none⟩) v.bl.toNat c1, .slice (some ⟨pV, 0, none⟩) v.bl.toNat c2, .int .i64 v.last] 79,
  .cells pB (cs ++ sp) 31, .cells pV (v.vs.map (Value.int .i64) ++ spv) 3]
theorem seg_rep {α : Type} (x : α) (n l h : Nat) (hh : h ≤ n) : seg (List.replicate n x) l h = List.replicate (h - l) x := by
  unfold seg; rw [List.take_replicate, List.drop_replicate, Nat.min_eq_left hh]
theorem chV_new {bl sz : Int} (h : shapeOk bl sz) : chV (newV bl sz) = List.replicate bl.toNat (List.replicate sz.toNat 0) := by
  have hl := (newV_ok h).lb'
  apply List.ext_getElem?
  intro i
  by_cases hi : i < bl.toNat
  · show (chunks (newV bl sz).b sz.toNat bl.toNat)[i]? = _
    rw [chunks_get hi, List.getElem?_replicate, if_pos hi]
    have e : (i + 1) * sz.toNat ≤ (bl * sz).toNat := by
      have : (newV bl sz).b.length = (bl * sz).toNat := by simp [newV]
      rw [← this, hl]
      exact Nat.mul_le_mul_right _ hi
    have e2 : (i + 1) * sz.toNat = i * sz.toNat + sz.toNat := by rw [Nat.add_mul, Nat.one_mul]
    show some (seg (List.replicate (bl * sz).toNat 0) (i * sz.toNat) ((i + 1) * sz.toNat)) = _
    rw [seg_rep _ _ _ _ e, show (i + 1) * sz.toNat - i * sz.toNat = sz.toNat by omega]
  · rw [List.getElem?_eq_none (by simp [chV, chunks_length, newV]; omega), List.getElem?_eq_none (by simp; omega)]

theorem rnew_bad (bl sz : Int) (h : ¬ shapeOk bl sz) : Ct Try.prog 42 [shpV bl sz] [] [] (fun v G Q => v = .tuple #[.pointer none, .int .i64 40] ∧ G = [] ∧ Q = []) := by
  have he : shapeE bl sz = 40 := by simp [shapeE, h]
  refine Ct.intro Try.func42 rfl rfl rfl (fun c hc => ?_)
  refine GC.seq' ?_
  refine GC.region ?_
  refine GL.step rfl (t_box rfl rfl rfl) (GL.ex fun b_t1 => ?_)
  refine GL.pure rfl (p_assign rfl) ?_
  refine GL.pure rfl (p_assign rfl) ?_
  refine GL.nil (?_ : GC _ _ _ _)
  refine GC.seq' ?_
  refine GC.region ?_
  refine GL.step rfl (t_mem rfl (m_loadN (i := 0) rfl rfl ag_23 (vs := [_, _]) sz_23 ⟨rfl, rfl, trivial⟩)) ?_
  refine GL.step rfl (t_call rfl fn_10 rfl (is := []) (js := []) rfl rfl (by exact shapeR_eq _ _ _ he)) (GL.ret ?_)
  rintro _ _ _ ⟨rfl, rfl, rfl⟩
  refine GL.pure rfl (p_assign rfl) ?_
  refine GL.nil (?_ : GC _ _ _ _)
  refine GC.seq' ?_
  refine GC.seq' ?_
  refine GC.region ?_
  refine GL.pure rfl (p_move rfl) ?_
  refine GL.pure rfl (p_neq rfl rfl) ?_
  refine GL.nil (?_ : GC _ _ _ _)
  refine GC.cond_true rfl ?_
  refine GC.seq' ?_
  refine GC.region ?_
  refine GL.pure rfl (p_move rfl) ?_
  refine GL.pure rfl (p_assign rfl) ?_
  refine GL.pure rfl (p_assign rfl) ?_
  refine GL.nil (?_ : GC _ _ _ _)
  refine GC.ret ?_
  refine fun a w h => Fin.back (rs := [.tmp 2, .tmp 3]) (vs := [_, _]) (is := []) (js := []) rfl ⟨rfl, rfl, trivial⟩ rfl rfl ?_ h
  clear h
  exact ⟨rfl, rfl, rfl⟩
theorem rnew_ok (bl sz : Int) (h : shapeOk bl sz) : Ct Try.prog 42 [shpV bl sz] [] [] (fun v G Q => ∃ p pB pV c1 c2 sp spv cs, v = .tuple #[.pointer (some ⟨p, 0, none⟩), .int .i64 0] ∧ G = rvG p pB pV c1 c2 sp spv cs (newV bl sz) ∧ Q = [Pers.reps kBytes (chV (newV bl sz)) cs]) := by
  have he : shapeE bl sz = 0 := by simp [shapeE, h]
  have hm := mulS h
  have hs := h
  simp only [shapeOk] at hs
  refine Ct.intro Try.func42 rfl rfl rfl (fun c hc => ?_)
  refine GC.seq' ?_
  refine GC.region ?_
  refine GL.step rfl (t_box rfl rfl rfl) (GL.ex fun b_t1 => ?_)
  refine GL.pure rfl (p_assign rfl) ?_
  refine GL.pure rfl (p_assign rfl) ?_
  refine GL.nil (?_ : GC _ _ _ _)
  refine GC.seq' ?_
  refine GC.region ?_
  refine GL.step rfl (t_mem rfl (m_loadN (i := 0) rfl rfl ag_23 (vs := [_, _]) sz_23 ⟨rfl, rfl, trivial⟩)) ?_
  refine GL.step rfl (t_call rfl fn_10 rfl (is := []) (js := []) rfl rfl (by exact shapeR_eq _ _ _ he)) (GL.ret ?_)
  rintro _ _ _ ⟨rfl, rfl, rfl⟩
  refine GL.pure rfl (p_assign rfl) ?_
  refine GL.nil (?_ : GC _ _ _ _)
  refine GC.seq' ?_
  refine GC.seq' ?_
  refine GC.region ?_
  refine GL.pure rfl (p_move rfl) ?_
  refine GL.pure rfl (p_neq rfl rfl) ?_
  refine GL.nil (?_ : GC _ _ _ _)
  refine GC.cond_false rfl ?_
  refine GC.skip (?_ : GC _ _ _ _)
  refine GC.seq' ?_
  refine GC.region ?_
  refine GL.step rfl (t_mem rfl (m_loadN (i := 0) rfl rfl ag_23 (vs := [_, _]) sz_23 ⟨rfl, rfl, trivial⟩)) ?_
  refine GL.pure rfl (p_build ze_79 of_79 rfl rfl) ?_
  refine GL.step rfl (t_box rfl rfl rfl) (GL.ex fun b_t14 => ?_)
  refine GL.pure rfl (p_assign rfl) ?_
  refine GL.nil (?_ : GC _ _ _ _)
  refine GC.seq' ?_
  refine GC.seq' ?_
  refine GC.region ?_
  refine GL.nilrow 31 1 ?_
  refine GL.nilrow 3 1 ?_
  refine GL.know (q := Pers.reps kBytes [] []) (fun _ _ _ => rfl) ?_
  refine GL.pure rfl (p_assign rfl) ?_
  refine GL.nil (?_ : GC _ _ _ _)
  refine GC.block ?_
  refine GC.imp (fun a w h => (⟨by simp, h.cut (is := [3, 2, 1, 0]) (js := [0]) ⟨rfl, rfl, rfl, trivial⟩ rfl rfl⟩ : (fun (y : Nat × Option Addr × Nat × Option Addr × Nat × List Value) (a : Act) (w : World) => y.1 ≤ bl.toNat ∧ St c 43 [(1, .pointer (some ⟨b_t1, 0, none⟩)), (5, .pointer (some ⟨b_t14, 0, none⟩)), (6, .int .i64 (y.1 : Int))] [.cells b_t1 [.int .i64 bl, .int .i64 sz] 23, .cells b_t14 [.int .i64 bl, .int .i64 sz, .slice y.2.1 y.1 y.2.2.1, .slice y.2.2.2.1 y.1 y.2.2.2.2.1, .int .i64 0] 79, .row (.slice y.2.1 y.1 y.2.2.1) 31 1 y.1 y.2.2.2.2.2, .row (.slice y.2.2.2.1 y.1 y.2.2.2.2.1) 3 1 y.1 ((List.replicate y.1 (0 : Int)).map (Value.int .i64))] [Pers.reps kBytes (List.replicate y.1 (List.replicate sz.toNat 0)) y.2.2.2.2.2] a w) (0, none, 0, none, 0, []) a w)) (GC.loop (fun (y : Nat × Option Addr × Nat × Option Addr × Nat × List Value) (a : Act) (w : World) => y.1 ≤ bl.toNat ∧ St c 43 [(1, .pointer (some ⟨b_t1, 0, none⟩)), (5, .pointer (some ⟨b_t14, 0, none⟩)), (6, .int .i64 (y.1 : Int))] [.cells b_t1 [.int .i64 bl, .int .i64 sz] 23, .cells b_t14 [.int .i64 bl, .int .i64 sz, .slice y.2.1 y.1 y.2.2.1, .slice y.2.2.2.1 y.1 y.2.2.2.2.1, .int .i64 0] 79, .row (.slice y.2.1 y.1 y.2.2.1) 31 1 y.1 y.2.2.2.2.2, .row (.slice y.2.2.2.1 y.1 y.2.2.2.2.1) 3 1 y.1 ((List.replicate y.1 (0 : Int)).map (Value.int .i64))] [Pers.reps kBytes (List.replicate y.1 (List.replicate sz.toNat 0)) y.2.2.2.2.2] a w) (fun y => bl.toNat - y.1) (0, none, 0, none, 0, []) ?_)
  intro y
  refine GC.and fun hk => ?_
  obtain ⟨k, A1, c1, A2, c2, cs⟩ := y
  dsimp only at hk ⊢
  refine GC.seq' ?_
  refine GC.seq' ?_
  refine GC.region ?_
  refine GL.pure rfl (p_move rfl) ?_
  refine GL.pure rfl (p_fieldAddr fo_23_0 rfl) ?_
  refine GL.step rfl (t_mem rfl (m_load (i := 0) rfl rfl ag_3 rfl)) ?_
  refine GL.pure rfl (p_lss rfl rfl) ?_
  refine GL.nil (?_ : GC _ _ _ _)
  refine GC.cond rfl (fun h1 => ?_) (fun h1 => ?_)
  · try simp only [decide_eq_true_eq, decide_eq_false_iff_not, Bool.not_eq_true', Bool.not_eq_false', Bool.not_true, Bool.not_false, Bool.not_not, ne_eq, Decidable.not_not, Int.not_lt, Int.not_le, gt_iff_lt, ge_iff_le, bool_true_eq_, bool_false_eq_] at h1
    refine GC.skip (?_ : GC _ _ _ _)
    refine GC.seq' ?_
    refine GC.block ?_
    refine GC.seq' ?_
    refine GC.regionM (m := 13) (M := fun a w => ∃ b28 : Nat, ∃ A30 : Option Addr, ∃ c30 : Nat, St c 43 [(1, .pointer (some ⟨b_t1, 0, none⟩)), (5, .pointer (some ⟨b_t14, 0, none⟩)), (6, .int .i64 (k : Int))] [.cells b_t1 [.int .i64 bl, .int .i64 sz] 23, .cells b_t14 [.int .i64 bl, .int .i64 sz, .slice A30 (k + 1) c30, .slice A2 k c2, .int .i64 0] 79, .row (.slice A30 (k + 1) c30) 31 1 (k + 1) (cs ++ [.slice (some ⟨b28, 0, none⟩) sz.toNat sz.toNat]), .row (.slice A2 k c2) 3 1 k ((List.replicate k (0 : Int)).map (Value.int .i64)), .cells b28 ((List.replicate sz.toNat 0).map u8v) 5] [Pers.reps kBytes (List.replicate k (List.replicate sz.toNat 0)) cs] a w) (is := [0, 2]) (js := [0]) wide_ rfl rfl rfl ?_ ?_
    · refine GA.take 0 rfl (by kernel_rfl) (by kernel_rfl) (by kernel_rfl) rfl (fun a w h => h.mem (is := [0, 2]) (js := [0]) rfl rfl) (i_pure (p_move rfl)) ?_
      refine GA.take 1 rfl (by kernel_rfl) (by kernel_rfl) (by kernel_rfl) rfl (fun a w h => h.mem (is := [0, 2]) (js := [0]) rfl rfl) (i_pure (p_move rfl)) ?_
      refine GA.take 2 rfl (by kernel_rfl) (by kernel_rfl) (by kernel_rfl) rfl (fun a w h => h.mem (is := [0, 2]) (js := [0]) rfl rfl) (i_pure (p_nilCheck rfl)) ?_
      refine GA.take 3 rfl (by kernel_rfl) (by kernel_rfl) (by kernel_rfl) rfl (fun a w h => h.mem (is := [0, 2]) (js := [0]) rfl rfl) (i_pure (p_fieldAddr fo_79_1 rfl)) ?_
      refine GA.take 5 rfl (by kernel_rfl) (by kernel_rfl) (by kernel_rfl) rfl (fun a w h => h.mem (is := [0, 2]) (js := [0]) rfl rfl) (i_pure (p_fieldAddr fo_23_1 rfl)) ?_
      refine GA.take 6 rfl (by kernel_rfl) (by kernel_rfl) (by kernel_rfl) rfl (fun a w h => h.mem (is := [0, 2]) (js := [0]) rfl rfl) (i_mem (m_load (i := 0) rfl rfl ag_3 rfl)) ?_
      refine GA.all (rs := [4, 7]) (by kernel_rfl) (by simp) ?_
      refine GAs.cons (i := 4) rfl rfl (t_mem rfl (m_load (i := 1) rfl rfl ag_77 rfl)) (by rintro a w h; exact h.mem (is := [0, 2]) (js := [0]) rfl rfl) ?_ ?_
      · refine GA.all (rs := [7]) (by kernel_rfl) (by simp) ?_
        refine GAs.cons (i := 7) rfl rfl (t_make rfl el_31 rfl rfl (by omega) (by omega)) (by rintro a w ⟨_, h⟩; exact h.mem (is := [1, 3]) (js := [0]) rfl rfl) (GA.ex fun b_t28 => ?_) ?_
        · rw [reps_u8]
          refine GA.all (rs := [8]) (by kernel_rfl) (by simp) ?_
          refine GAs.cons (i := 8) rfl rfl (t_buildSlice rfl Try.underlying77 sz_31 ze_31 rfl rfl rfl rfl rfl rfl) (by rintro a w ⟨_, h⟩; exact h.mem (is := [2, 4]) (js := [0]) rfl rfl) (GA.ex fun b_t29 => ?_) ?_
          · refine GA.all (rs := [9]) (by kernel_rfl) (by simp) ?_
            refine GAs.cons (i := 9) rfl rfl (t_append (i := 4) (k := 0) rfl el_77 rfl rfl rfl rfl rfl (allOne_mem rfl) (by omega) (fun _ => rfl)) (by rintro a w ⟨_, h⟩; exact h.mem (is := [2, 4]) (js := [0]) rfl rfl) (GA.ex fun v30 => ?_) ?_
            · refine GA.shape (i := 4) rfl (fun A_v30 c_v30 e_v30 l_v30 k_v30 => ?_)
              subst e_v30
              refine GA.take 10 rfl (by kernel_rfl) (by kernel_rfl) (by kernel_rfl) rfl (fun a w h => h.mem (is := [2, 4]) (js := [0]) rfl rfl) (i_pure (p_nilCheck rfl)) ?_
              refine GA.take 11 rfl (by kernel_rfl) (by kernel_rfl) (by kernel_rfl) rfl (fun a w h => h.mem (is := [2, 4]) (js := [0]) rfl rfl) (i_pure (p_fieldAddr fo_79_1 rfl)) ?_
              refine GA.all (rs := [12]) (by kernel_rfl) (by simp) ?_
              refine GAs.cons (i := 12) rfl rfl (t_store (i := 3) rfl rfl rfl rfl sz_77 rfl rfl rfl) (by rintro a w h; exact h.mem (is := [2, 4]) (js := [0]) rfl rfl) ?_ ?_
              · exact GA.done (by kernel_rfl) (fun a w h => ⟨b_t28, A_v30, c_v30, h.cut (is := [2, 2, 2, 2, 1]) (js := [0]) ⟨rfl, rfl, rfl, trivial⟩ rfl rfl⟩)
              exact GAs.nil
            exact GAs.nil
          exact GAs.nil
        exact GAs.nil
      refine GAs.cons (i := 7) rfl rfl (t_make rfl el_31 rfl rfl (by omega) (by omega)) (by rintro a w ⟨_, h⟩; exact h.mem (is := [1, 3]) (js := [0]) rfl rfl) (GA.ex fun b_t28 => ?_) ?_
      · rw [reps_u8]
        refine GA.all (rs := [4, 8]) (by kernel_rfl) (by simp) ?_
        refine GAs.cons (i := 4) rfl rfl (t_mem rfl (m_load (i := 2) rfl rfl ag_77 rfl)) (by rintro a w h; exact h.mem (is := [1, 3]) (js := [0]) rfl rfl) ?_ ?_
        · refine GA.all (rs := [8]) (by kernel_rfl) (by simp) ?_
          refine GAs.cons (i := 8) rfl rfl (t_buildSlice rfl Try.underlying77 sz_31 ze_31 rfl rfl rfl rfl rfl rfl) (by rintro a w ⟨_, h⟩; exact h.mem (is := [2, 4]) (js := [0]) rfl rfl) (GA.ex fun b_t29 => ?_) ?_
          · refine GA.all (rs := [9]) (by kernel_rfl) (by simp) ?_
            refine GAs.cons (i := 9) rfl rfl (t_append (i := 4) (k := 0) rfl el_77 rfl rfl rfl rfl rfl (allOne_mem rfl) (by omega) (fun _ => rfl)) (by rintro a w ⟨_, h⟩; exact h.mem (is := [2, 4]) (js := [0]) rfl rfl) (GA.ex fun v30 => ?_) ?_
            · refine GA.shape (i := 4) rfl (fun A_v30 c_v30 e_v30 l_v30 k_v30 => ?_)
              subst e_v30
              refine GA.take 10 rfl (by kernel_rfl) (by kernel_rfl) (by kernel_rfl) rfl (fun a w h => h.mem (is := [2, 4]) (js := [0]) rfl rfl) (i_pure (p_nilCheck rfl)) ?_
              refine GA.take 11 rfl (by kernel_rfl) (by kernel_rfl) (by kernel_rfl) rfl (fun a w h => h.mem (is := [2, 4]) (js := [0]) rfl rfl) (i_pure (p_fieldAddr fo_79_1 rfl)) ?_
              refine GA.all (rs := [12]) (by kernel_rfl) (by simp) ?_
              refine GAs.cons (i := 12) rfl rfl (t_store (i := 3) rfl rfl rfl rfl sz_77 rfl rfl rfl) (by rintro a w h; exact h.mem (is := [2, 4]) (js := [0]) rfl rfl) ?_ ?_
              · exact GA.done (by kernel_rfl) (fun a w h => ⟨b_t28, A_v30, c_v30, h.cut (is := [2, 2, 2, 2, 1]) (js := [0]) ⟨rfl, rfl, rfl, trivial⟩ rfl rfl⟩)
              exact GAs.nil
            exact GAs.nil
          exact GAs.nil
        refine GAs.cons (i := 8) rfl rfl (t_buildSlice rfl Try.underlying77 sz_31 ze_31 rfl rfl rfl rfl rfl rfl) (by rintro a w ⟨_, h⟩; exact h.mem (is := [2, 4]) (js := [0]) rfl rfl) (GA.ex fun b_t29 => ?_) ?_
        · refine GA.all (rs := [4]) (by kernel_rfl) (by simp) ?_
          refine GAs.cons (i := 4) rfl rfl (t_mem rfl (m_load (i := 3) rfl rfl ag_77 rfl)) (by rintro a w h; exact h.mem (is := [2, 4]) (js := [0]) rfl rfl) ?_ ?_
          · refine GA.all (rs := [9]) (by kernel_rfl) (by simp) ?_
            refine GAs.cons (i := 9) rfl rfl (t_append (i := 4) (k := 0) rfl el_77 rfl rfl rfl rfl rfl (allOne_mem rfl) (by omega) (fun _ => rfl)) (by rintro a w ⟨_, h⟩; exact h.mem (is := [2, 4]) (js := [0]) rfl rfl) (GA.ex fun v30 => ?_) ?_
            · refine GA.shape (i := 4) rfl (fun A_v30 c_v30 e_v30 l_v30 k_v30 => ?_)
              subst e_v30
              refine GA.take 10 rfl (by kernel_rfl) (by kernel_rfl) (by kernel_rfl) rfl (fun a w h => h.mem (is := [2, 4]) (js := [0]) rfl rfl) (i_pure (p_nilCheck rfl)) ?_
              refine GA.take 11 rfl (by kernel_rfl) (by kernel_rfl) (by kernel_rfl) rfl (fun a w h => h.mem (is := [2, 4]) (js := [0]) rfl rfl) (i_pure (p_fieldAddr fo_79_1 rfl)) ?_
              refine GA.all (rs := [12]) (by kernel_rfl) (by simp) ?_
              refine GAs.cons (i := 12) rfl rfl (t_store (i := 3) rfl rfl rfl rfl sz_77 rfl rfl rfl) (by rintro a w h; exact h.mem (is := [2, 4]) (js := [0]) rfl rfl) ?_ ?_
              · exact GA.done (by kernel_rfl) (fun a w h => ⟨b_t28, A_v30, c_v30, h.cut (is := [2, 2, 2, 2, 1]) (js := [0]) ⟨rfl, rfl, rfl, trivial⟩ rfl rfl⟩)
              exact GAs.nil
            exact GAs.nil
          exact GAs.nil
        exact GAs.nil
      exact GAs.nil
    · refine (?_ : GC _ _ _ _)
      refine GC.ex fun b28 => GC.ex fun A30 => GC.ex fun c30 => ?_
      refine GC.region ?_
      refine GL.freezeC (h1 := fun _ => rfl) (i := 4) rfl ?_
      refine GL.snocL (List.replicate sz.toNat (0 : UInt8)) (some ⟨b28, 0, none⟩, sz.toNat) (l := [.slice (some ⟨b28, 0, none⟩) sz.toNat sz.toNat]) (by simp [kBytes, Kd.slice]) (j := 1) (js := [0]) rfl rfl ⟨by simp, by simp; omega⟩ ?_
      skip
      refine GL.pure rfl (p_move rfl) ?_
      refine GL.pure rfl (p_move rfl) ?_
      refine GL.pure rfl (p_nilCheck rfl) ?_
      refine GL.pure rfl (p_fieldAddr fo_79_2 rfl) ?_
      refine GL.step rfl (t_mem rfl (m_load (i := 1) rfl rfl ag_56 rfl)) ?_
      refine GL.step rfl (t_buildSlice rfl Try.underlying56 sz_3 ze_3 rfl rfl rfl rfl rfl rfl) (GL.ex fun b_t38 => ?_)
      refine GL.step rfl (t_append (i := 4) (k := 0) rfl el_56 rfl rfl rfl rfl rfl (allOne_mem rfl) (by omega) (fun _ => rfl)) (GL.ex fun v39 => ?_)
      refine GL.shape (i := 4) rfl (fun A_v39 c_v39 e_v39 l_v39 k_v39 => ?_)
      subst e_v39
      refine GL.pure rfl (p_nilCheck rfl) ?_
      refine GL.pure rfl (p_fieldAddr fo_79_2 rfl) ?_
      refine GL.step rfl (t_store (i := 2) rfl rfl rfl rfl sz_56 rfl rfl rfl) ?_
      refine GL.nil (?_ : GC _ _ _ _)
      refine GC.region ?_
      refine GL.pure rfl (p_move rfl) ?_
      refine GL.pure rfl (p_add rfl rfl (w64 (by omega) (by omega))) ?_
      refine GL.pure rfl (p_assign rfl) ?_
      refine GL.nil ?_
      exact fun a w h => ⟨(k + 1, A30, c30, A_v39, c_v39, cs ++ [.slice (some ⟨b28, 0, none⟩) sz.toNat sz.toNat]), (by simp only; omega), (by simp only; omega), by simp only [List.replicate_succ', List.map_append]; exact h.cut (is := [1, 1, 1, 1]) (js := [0]) ⟨rfl, rfl, rfl, trivial⟩ rfl rfl⟩
  · try simp only [decide_eq_true_eq, decide_eq_false_iff_not, Bool.not_eq_true', Bool.not_eq_false', Bool.not_true, Bool.not_false, Bool.not_not, ne_eq, Decidable.not_not, Int.not_lt, Int.not_le, gt_iff_lt, ge_iff_le, bool_true_eq_, bool_false_eq_] at h1
    refine GC.exit (?_ : GC _ _ _ _)
    refine GC.seq' ?_
    refine GC.region ?_
    obtain rfl : k = bl.toNat := by omega
    refine GL.toblk (i := 2) rfl (by omega) (fun _ _ => rfl) (fun pB sp eB lB => ?_)
    subst eB
    refine GL.toblk (i := 3) rfl (by omega) (fun _ _ => rfl) (fun pV spv eV lV => ?_)
    subst eV
    refine GL.pure rfl (p_move rfl) ?_
    refine GL.pure rfl (p_assign rfl) ?_
    refine GL.pure rfl (p_assign rfl) ?_
    refine GL.nil (?_ : GC _ _ _ _)
    refine GC.ret ?_
    refine fun a w h => Fin.back (rs := [.tmp 2, .tmp 3]) (vs := [_, _]) (is := [1, 1, 1]) (js := [0]) rfl ⟨rfl, rfl, trivial⟩ rfl rfl ?_ h
    clear h
    exact ⟨_, _, _, _, _, _, _, _, rfl, rfl, by rw [chV_new h]⟩
end Go.Proofs.Ytihhpkbbhfcdcaa
