/- THE VOLUME OF THE REFERENCE: the blocks that were changed since. -/
import Derived.Test.YtihhpkbbhfcdcaaVp6
set_option linter.unusedVariables false
set_option linter.unusedSimpArgs false
set_option maxRecDepth 100000
namespace Go.Proofs.Ytihhpkbbhfcdcaa
open Go Go.Sx Go.Proofs
theorem rpages_ct (p pB pV c1 c2 : Nat) (sp spv cs : List Value) (v : Vol) (since : Int) (hv : VolOk v) : Ct Try.prog 18 [.pointer (some ⟨p, 0, none⟩), .int .i64 since] (rvG p pB pV c1 c2 sp spv cs v) [Pers.reps kBytes (chV v) cs]
    (fun u G Q => ∃ A cp ds, (pagesF v since).length ≤ cp ∧ cp ≤ 9223372036854775807 ∧ u = .slice A (pagesF v since).length cp ∧ G = .row (.slice A (pagesF v since).length cp) 71 3 (pagesF v since).length ds :: rvG p pB pV c1 c2 sp spv cs v ∧ Q = [Pers.reps kPage (pagesF v since) ds]) := by
  have hl := hv.lv
  have hs := hv.shp
  simp only [shapeOk] at hs
  have hch : (chV v).length = v.bl.toNat := chunks_length _ _ _
  refine Ct.intro Try.func18 rfl rfl rfl (fun c hc => ?_)
  refine GC.seq' ?_
  refine GC.region ?_
  refine GL.pure rfl (p_assign rfl) ?_
  refine GL.nil (?_ : GC _ _ _ _)
  refine GC.seq' ?_
  refine GC.region ?_
  refine GL.pure rfl (p_assign rfl) ?_
  refine GL.nil (?_ : GC _ _ _ _)
  refine GC.seq' ?_
  refine GC.seq' ?_
  refine GC.region ?_
  refine GL.nilrow 71 3 ?_
  refine GL.know (q := Pers.reps kPage [] []) (fun _ _ _ => rfl) ?_
  refine GL.pure rfl (p_assign rfl) ?_
  refine GL.nil (?_ : GC _ _ _ _)
  refine GC.block ?_
  refine GC.imp (fun a w h => (⟨⟨by simp, rfl⟩, h.cut (is := [1, 1, 1, 0]) (js := [0, 1]) ⟨rfl, rfl, rfl, rfl, trivial⟩ rfl rfl⟩ : (fun (y : Nat × Nat × Option Addr × Nat × List Value) (a : Act) (w : World) => (y.1 ≤ v.bl.toNat ∧ y.2.1 = (pagesA v since y.1).length) ∧ St c 57 [(0, .pointer (some ⟨p, 0, none⟩)), (1, .int .i64 since), (5, .slice y.2.2.1 y.2.1 y.2.2.2.1), (6, .int .i64 (y.1 : Int))] [.cells p [.int .i64 v.bl, .int .i64 v.sz, .slice (some ⟨pB, 0, none⟩) v.bl.toNat c1, .slice (some ⟨pV, 0, none⟩) v.bl.toNat c2, .int .i64 v.last] 79, .cells pB (cs ++ sp) 31, .cells pV (v.vs.map (Value.int .i64) ++ spv) 3, .row (.slice y.2.2.1 y.2.1 y.2.2.2.1) 71 3 y.2.1 y.2.2.2.2] [Pers.reps kPage (pagesA v since y.1) y.2.2.2.2, Pers.reps kBytes (chV v) cs] a w) (0, 0, none, 0, []) a w)) (GC.loop (fun (y : Nat × Nat × Option Addr × Nat × List Value) (a : Act) (w : World) => (y.1 ≤ v.bl.toNat ∧ y.2.1 = (pagesA v since y.1).length) ∧ St c 57 [(0, .pointer (some ⟨p, 0, none⟩)), (1, .int .i64 since), (5, .slice y.2.2.1 y.2.1 y.2.2.2.1), (6, .int .i64 (y.1 : Int))] [.cells p [.int .i64 v.bl, .int .i64 v.sz, .slice (some ⟨pB, 0, none⟩) v.bl.toNat c1, .slice (some ⟨pV, 0, none⟩) v.bl.toNat c2, .int .i64 v.last] 79, .cells pB (cs ++ sp) 31, .cells pV (v.vs.map (Value.int .i64) ++ spv) 3, .row (.slice y.2.2.1 y.2.1 y.2.2.2.1) 71 3 y.2.1 y.2.2.2.2] [Pers.reps kPage (pagesA v since y.1) y.2.2.2.2, Pers.reps kBytes (chV v) cs] a w) (fun y => v.bl.toNat - y.1) (0, 0, none, 0, []) ?_)
  intro y
  refine GC.and fun hk => ?_
  obtain ⟨k, n, A1, c1_, ds⟩ := y
  dsimp only at hk ⊢
  obtain ⟨hk, hn⟩ := hk
  have hle := pagesA_le v since k
  refine GC.seq' ?_
  refine GC.seq' ?_
  refine GC.region ?_
  refine GL.pure rfl (p_move rfl) ?_
  refine GL.pure rfl (p_move rfl) ?_
  refine GL.pure rfl (p_nilCheck rfl) ?_
  refine GL.pure rfl (p_fieldAddr fo_79_1 rfl) ?_
  refine GL.step rfl (t_mem rfl (m_load (i := 0) rfl rfl ag_77 rfl)) ?_
  refine GL.pure rfl (p_len Try.underlying77 rfl) ?_
  refine GL.pure rfl (p_lss rfl rfl) ?_
  refine GL.nil (?_ : GC _ _ _ _)
  refine GC.cond rfl (fun h1 => ?_) (fun h1 => ?_)
  · try simp only [decide_eq_true_eq, decide_eq_false_iff_not, Bool.not_eq_true', Bool.not_eq_false', Bool.not_true, Bool.not_false, Bool.not_not, ne_eq, Decidable.not_not, Int.not_lt, Int.not_le, gt_iff_lt, ge_iff_le, bool_true_eq_, bool_false_eq_] at h1
    refine GC.skip (?_ : GC _ _ _ _)
    refine GC.seq' ?_
    refine GC.block ?_
    refine GC.seq' ?_
    refine GC.region ?_
    refine GL.pure rfl (p_move rfl) ?_
    refine GL.pure rfl (p_nilCheck rfl) ?_
    refine GL.pure rfl (p_fieldAddr fo_79_2 rfl) ?_
    refine GL.step rfl (t_mem rfl (m_load (i := 0) rfl rfl ag_56 rfl)) ?_
    refine GL.pure rfl (p_move rfl) ?_
    refine GL.pure rfl (p_indexB rfl rfl Try.underlying56 sz_3 (by omega) (by omega)) ?_
    refine GL.step rfl (t_mem rfl (m_load (i := 2) rfl rfl ag_3 (nth_mapS _ (by omega) (by omega)))) ?_
    refine GL.pure rfl (p_gtr rfl rfl) ?_
    refine GL.pure rfl (p_move rfl) ?_
    refine GL.split (i := 24) rfl (fun h2 => ?_) (fun h2 => ?_)
    · try simp only [decide_eq_true_eq, decide_eq_false_iff_not, Bool.not_eq_true', Bool.not_eq_false', Bool.not_true, Bool.not_false, Bool.not_not, ne_eq, Decidable.not_not, Int.not_lt, Int.not_le, gt_iff_lt, ge_iff_le, bool_true_eq_, bool_false_eq_] at h2
      refine GL.pureG (s := 24) rfl rfl rfl (p_move rfl) ?_
      refine GL.pureG (s := 24) rfl rfl rfl (p_nilCheck rfl) ?_
      refine GL.pureG (s := 24) rfl rfl rfl (p_fieldAddr fo_79_2 rfl) ?_
      refine GL.stepG rfl (s := 24) rfl rfl (t_mem rfl (m_load (i := 0) rfl rfl ag_56 rfl)) ?_
      refine GL.pureG (s := 24) rfl rfl rfl (p_move rfl) ?_
      refine GL.pureG (s := 24) rfl rfl rfl (p_indexB rfl rfl Try.underlying56 sz_3 (by omega) (by omega)) ?_
      refine GL.stepG rfl (s := 24) rfl rfl (t_mem rfl (m_load (i := 2) rfl rfl ag_3 (nth_mapS _ (by omega) (by omega)))) ?_
      refine GL.pureG (s := 24) rfl rfl rfl (p_move rfl) ?_
      refine GL.pureG (s := 24) rfl rfl rfl (p_gtr rfl rfl) ?_
      refine GL.pure rfl (p_pick_true rfl rfl) ?_
      refine GL.nil (?_ : GC _ _ _ _)
      refine GC.cond rfl (fun h3 => ?_) (fun h3 => ?_)
      · try simp only [decide_eq_true_eq, decide_eq_false_iff_not, Bool.not_eq_true', Bool.not_eq_false', Bool.not_true, Bool.not_false, Bool.not_not, ne_eq, Decidable.not_not, Int.not_lt, Int.not_le, gt_iff_lt, ge_iff_le, bool_true_eq_, bool_false_eq_] at h3
        refine GC.layE (j := 1) (m := (k : Int)) (sp) rfl (by omega) (gt_ok (by omega) (by omega)) (fun r_e ok_e hc_e => ?_)
        rcases r_e with ⟨A_e, c_e⟩
        have hg := chV_gt hv (show 0 ≤ (k : Int) by omega) (by omega)
        have hl1 := pc_length hv (a := (k : Int)) (n := 1) (by omega) (by omega) (by omega)
        rw [hg] at ok_e hc_e ⊢
        have hyes : gt v.vs (k : Int) > max since 0 := by omega
        refine GC.regionM (m := 22) (M := fun a w => ∃ A52 : Option Addr, ∃ c52 : Nat, ∃ A55 : Option Addr, ∃ c55 : Nat, ((pc v (k : Int) 1).length ≤ c52 ∧ c52 ≤ 9223372036854775807) ∧ St c 57 [(0, .pointer (some ⟨p, 0, none⟩)), (1, .int .i64 since), (5, .slice A55 (n + 1) c55), (6, .int .i64 (k : Int))] [.cells p [.int .i64 v.bl, .int .i64 v.sz, .slice (some ⟨pB, 0, none⟩) v.bl.toNat c1, .slice (some ⟨pV, 0, none⟩) v.bl.toNat c2, .int .i64 v.last] 79, .cells pB (cs ++ sp) 31, .cells pV (v.vs.map (Value.int .i64) ++ spv) 3, .row (.slice A55 (n + 1) c55) 71 3 (n + 1) (ds ++ [.int .i64 (k : Int), .int .i64 (gt v.vs (k : Int)), .slice A52 (pc v (k : Int) 1).length c52])] [Pers.row Kd.u8 A52 (pc v (k : Int) 1), Pers.reps kPage (pagesA v since k) ds, Pers.reps kBytes (chV v) cs] a w) (is := [0, 0, 0]) (js := [0, 1, 2]) wide_ rfl rfl rfl ?_ ?_
        · refine GA.take 0 rfl (by kernel_rfl) (by kernel_rfl) (by kernel_rfl) rfl (fun a w h => h.mem (is := [0, 0, 0]) (js := [0, 1, 2]) rfl rfl) (i_pure (p_move rfl)) ?_
          refine GA.take 1 rfl (by kernel_rfl) (by kernel_rfl) (by kernel_rfl) rfl (fun a w h => h.mem (is := [0, 0, 0]) (js := [0, 1, 2]) rfl rfl) (i_pure (p_move rfl)) ?_
          refine GA.take 2 rfl (by kernel_rfl) (by kernel_rfl) (by kernel_rfl) rfl (fun a w h => h.mem (is := [0, 0, 0]) (js := [0, 1, 2]) rfl rfl) (i_pure (p_move rfl)) ?_
          refine GA.take 3 rfl (by kernel_rfl) (by kernel_rfl) (by kernel_rfl) rfl (fun a w h => h.mem (is := [0, 0, 0]) (js := [0, 1, 2]) rfl rfl) (i_pure (p_nilCheck rfl)) ?_
          refine GA.take 4 rfl (by kernel_rfl) (by kernel_rfl) (by kernel_rfl) rfl (fun a w h => h.mem (is := [0, 0, 0]) (js := [0, 1, 2]) rfl rfl) (i_pure (p_fieldAddr fo_79_2 rfl)) ?_
          refine GA.take 5 rfl (by kernel_rfl) (by kernel_rfl) (by kernel_rfl) rfl (fun a w h => h.mem (is := [0, 0, 0]) (js := [0, 1, 2]) rfl rfl) (i_mem (m_load (i := 0) rfl rfl ag_56 rfl)) ?_
          refine GA.take 6 rfl (by kernel_rfl) (by kernel_rfl) (by kernel_rfl) rfl (fun a w h => h.mem (is := [0, 0, 0]) (js := [0, 1, 2]) rfl rfl) (i_pure (p_move rfl)) ?_
          refine GA.take 7 rfl (by kernel_rfl) (by kernel_rfl) (by kernel_rfl) rfl (fun a w h => h.mem (is := [0, 0, 0]) (js := [0, 1, 2]) rfl rfl) (i_pure (p_indexB rfl rfl Try.underlying56 sz_3 (by omega) (by omega))) ?_
          refine GA.take 8 rfl (by kernel_rfl) (by kernel_rfl) (by kernel_rfl) rfl (fun a w h => h.mem (is := [0, 0, 0]) (js := [0, 1, 2]) rfl rfl) (i_mem (m_load (i := 2) rfl rfl ag_3 (nth_mapS _ (by omega) (by omega)))) ?_
          refine GA.take 10 rfl (by kernel_rfl) (by kernel_rfl) (by kernel_rfl) rfl (fun a w h => h.mem (is := [0, 0, 0]) (js := [0, 1, 2]) rfl rfl) (i_pure (p_move rfl)) ?_
          refine GA.take 11 rfl (by kernel_rfl) (by kernel_rfl) (by kernel_rfl) rfl (fun a w h => h.mem (is := [0, 0, 0]) (js := [0, 1, 2]) rfl rfl) (i_pure (p_nilCheck rfl)) ?_
          refine GA.take 12 rfl (by kernel_rfl) (by kernel_rfl) (by kernel_rfl) rfl (fun a w h => h.mem (is := [0, 0, 0]) (js := [0, 1, 2]) rfl rfl) (i_pure (p_fieldAddr fo_79_1 rfl)) ?_
          refine GA.take 13 rfl (by kernel_rfl) (by kernel_rfl) (by kernel_rfl) rfl (fun a w h => h.mem (is := [0, 0, 0]) (js := [0, 1, 2]) rfl rfl) (i_mem (m_load (i := 0) rfl rfl ag_77 rfl)) ?_
          refine GA.take 14 rfl (by kernel_rfl) (by kernel_rfl) (by kernel_rfl) rfl (fun a w h => h.mem (is := [0, 0, 0]) (js := [0, 1, 2]) rfl rfl) (i_pure (p_move rfl)) ?_
          refine GA.take 15 rfl (by kernel_rfl) (by kernel_rfl) (by kernel_rfl) rfl (fun a w h => h.mem (is := [0, 0, 0]) (js := [0, 1, 2]) rfl rfl) (i_pure (p_indexB rfl rfl Try.underlying77 sz_31 (by omega) (by omega))) ?_
          refine GA.all (rs := [9, 16]) (by kernel_rfl) (by simp) ?_
          refine GAs.cons (i := 9) rfl rfl (t_buildSlice rfl Try.underlying31 sz_5 ze_5 rfl rfl rfl rfl rfl rfl) (by rintro a w ⟨_, h⟩; exact h.mem (is := [1, 1, 1]) (js := [0, 1, 2]) rfl rfl) (GA.ex fun b_t44 => ?_) ?_
          · refine GA.all (rs := [16]) (by kernel_rfl) (by simp) ?_
            refine GAs.cons (i := 16) rfl rfl (t_mem rfl (m_load (i := 2) rfl rfl ag_31 (hc_e 0 _ rfl))) (by rintro a w h; exact h.mem (is := [1, 1, 1]) (js := [0, 1, 2]) rfl rfl) ?_ ?_
            · refine GA.torow (i := 0) (m := 0) (sz := 1) rfl rfl (by decide) rfl ?_
              refine GA.all (rs := [17]) (by kernel_rfl) (by simp) ?_
              refine GAs.cons (i := 17) rfl rfl (t_appendS (i := 0) (k := 0) rfl el_31 rfl rfl rfl rfl (by omega) (fun _ => rfl)) (by rintro a w ⟨_, h⟩; exact h.mem (is := [1, 1, 1]) (js := [0, 1, 2]) rfl rfl) (GA.ex fun v52 => ?_) ?_
              · refine GA.shape (i := 0) rfl (fun A_v52 c_v52 e_v52 l_v52 k_v52 => ?_)
                subst e_v52
                refine GA.take 18 rfl (by kernel_rfl) (by kernel_rfl) (by kernel_rfl) rfl (fun a w h => h.mem (is := [1, 1, 1]) (js := [0, 1, 2]) rfl rfl) (i_pure (p_build ze_71 of_71 rfl rfl)) ?_
                rw [Nat.zero_add (pc v (k : Int) 1).length]
                refine GA.freezeB (i := 0) rfl ?_
                refine GA.all (rs := [19]) (by kernel_rfl) (by simp) ?_
                refine GAs.cons (i := 19) rfl rfl (t_buildSlice rfl Try.underlying33 sz_71 ze_71 rfl rfl rfl rfl rfl rfl) (by rintro a w ⟨_, h⟩; exact h.mem (is := [1, 1, 1]) (js := [1, 2, 3]) rfl rfl) (GA.ex fun b_t54 => ?_) ?_
                · refine GA.all (rs := [20]) (by kernel_rfl) (by simp) ?_
                  refine GAs.cons (i := 20) rfl rfl (t_append (i := 4) (k := 0) rfl el_33 rfl rfl rfl rfl rfl (allOne_mem rfl) (by omega) (fun _ => rfl)) (by rintro a w ⟨_, h⟩; exact h.mem (is := [1, 1, 1]) (js := [1, 2, 3]) rfl rfl) (GA.ex fun v55 => ?_) ?_
                  · refine GA.shape (i := 4) rfl (fun A_v55 c_v55 e_v55 l_v55 k_v55 => ?_)
                    subst e_v55
                    refine GA.take 21 rfl (by kernel_rfl) (by kernel_rfl) (by kernel_rfl) rfl (fun a w h => h.mem (is := [1, 1, 1]) (js := [1, 2, 3]) rfl rfl) (i_pure (p_assign rfl)) ?_
                    exact GA.done (by kernel_rfl) (fun a w h => ⟨A_v52, c_v52, A_v55, c_v55, ⟨by omega, k_v52⟩, h.cut (is := [1, 1, 1, 1]) (js := [0, 2, 3]) ⟨rfl, rfl, rfl, rfl, trivial⟩ rfl rfl⟩)
                  exact GAs.nil
                exact GAs.nil
              exact GAs.nil
            exact GAs.nil
          refine GAs.cons (i := 16) rfl rfl (t_mem rfl (m_load (i := 1) rfl rfl ag_31 (hc_e 0 _ rfl))) (by rintro a w h; exact h.mem (is := [0, 0, 0]) (js := [0, 1, 2]) rfl rfl) ?_ ?_
          · refine GA.all (rs := [9]) (by kernel_rfl) (by simp) ?_
            refine GAs.cons (i := 9) rfl rfl (t_buildSlice rfl Try.underlying31 sz_5 ze_5 rfl rfl rfl rfl rfl rfl) (by rintro a w ⟨_, h⟩; exact h.mem (is := [1, 1, 1]) (js := [0, 1, 2]) rfl rfl) (GA.ex fun b_t44 => ?_) ?_
            · refine GA.torow (i := 0) (m := 0) (sz := 1) rfl rfl (by decide) rfl ?_
              refine GA.all (rs := [17]) (by kernel_rfl) (by simp) ?_
              refine GAs.cons (i := 17) rfl rfl (t_appendS (i := 0) (k := 0) rfl el_31 rfl rfl rfl rfl (by omega) (fun _ => rfl)) (by rintro a w ⟨_, h⟩; exact h.mem (is := [1, 1, 1]) (js := [0, 1, 2]) rfl rfl) (GA.ex fun v52 => ?_) ?_
              · refine GA.shape (i := 0) rfl (fun A_v52 c_v52 e_v52 l_v52 k_v52 => ?_)
                subst e_v52
                refine GA.take 18 rfl (by kernel_rfl) (by kernel_rfl) (by kernel_rfl) rfl (fun a w h => h.mem (is := [1, 1, 1]) (js := [0, 1, 2]) rfl rfl) (i_pure (p_build ze_71 of_71 rfl rfl)) ?_
                rw [Nat.zero_add (pc v (k : Int) 1).length]
                refine GA.freezeB (i := 0) rfl ?_
                refine GA.all (rs := [19]) (by kernel_rfl) (by simp) ?_
                refine GAs.cons (i := 19) rfl rfl (t_buildSlice rfl Try.underlying33 sz_71 ze_71 rfl rfl rfl rfl rfl rfl) (by rintro a w ⟨_, h⟩; exact h.mem (is := [1, 1, 1]) (js := [1, 2, 3]) rfl rfl) (GA.ex fun b_t54 => ?_) ?_
                · refine GA.all (rs := [20]) (by kernel_rfl) (by simp) ?_
                  refine GAs.cons (i := 20) rfl rfl (t_append (i := 4) (k := 0) rfl el_33 rfl rfl rfl rfl rfl (allOne_mem rfl) (by omega) (fun _ => rfl)) (by rintro a w ⟨_, h⟩; exact h.mem (is := [1, 1, 1]) (js := [1, 2, 3]) rfl rfl) (GA.ex fun v55 => ?_) ?_
                  · refine GA.shape (i := 4) rfl (fun A_v55 c_v55 e_v55 l_v55 k_v55 => ?_)
                    subst e_v55
                    refine GA.take 21 rfl (by kernel_rfl) (by kernel_rfl) (by kernel_rfl) rfl (fun a w h => h.mem (is := [1, 1, 1]) (js := [1, 2, 3]) rfl rfl) (i_pure (p_assign rfl)) ?_
                    exact GA.done (by kernel_rfl) (fun a w h => ⟨A_v52, c_v52, A_v55, c_v55, ⟨by omega, k_v52⟩, h.cut (is := [1, 1, 1, 1]) (js := [0, 2, 3]) ⟨rfl, rfl, rfl, rfl, trivial⟩ rfl rfl⟩)
                  exact GAs.nil
                exact GAs.nil
              exact GAs.nil
            exact GAs.nil
          exact GAs.nil
        · refine (?_ : GC _ _ _ _)
          refine GC.ex fun A52 => GC.ex fun c52 => GC.ex fun A55 => GC.ex fun c55 => GC.and fun h6 => ?_
          refine GC.region ?_
          refine GL.snocL (j := 1) (js := [0]) (⟨k, gt v.vs k, pc v k 1⟩ : Page) ((), ((), (A52, c52))) (l := [.int .i64 (k : Int), .int .i64 (gt v.vs (k : Int)), .slice A52 (pc v (k : Int) 1).length c52]) rfl rfl rfl (by exact ⟨trivial, trivial, h6⟩) ?_
          skip
          refine GL.pure rfl (p_move rfl) ?_
          refine GL.pure rfl (p_add rfl rfl (w64 (by omega) (by omega))) ?_
          refine GL.pure rfl (p_assign rfl) ?_
          refine GL.nil ?_
          exact fun a w h => ⟨(k + 1, n + 1, A55, c55, ds ++ [.int .i64 (k : Int), .int .i64 (gt v.vs (k : Int)), .slice A52 (pc v (k : Int) 1).length c52]), (by simp only; omega), ⟨by simp only; omega, by simp only; rw [pages_yes hyes]; simp [hn]⟩, by rw [pages_yes hyes]; exact h.cut (is := [0, 0, 0, 0]) (js := [0, 3]) ⟨rfl, rfl, rfl, rfl, trivial⟩ rfl rfl⟩
      · try simp only [decide_eq_true_eq, decide_eq_false_iff_not, Bool.not_eq_true', Bool.not_eq_false', Bool.not_true, Bool.not_false, Bool.not_not, ne_eq, Decidable.not_not, Int.not_lt, Int.not_le, gt_iff_lt, ge_iff_le, bool_true_eq_, bool_false_eq_] at h3
        refine GC.skip (?_ : GC _ _ _ _)
        refine GC.region ?_
        have hno : ¬ gt v.vs (k : Int) > max since 0 := by omega
        refine GL.pure rfl (p_move rfl) ?_
        refine GL.pure rfl (p_add rfl rfl (w64 (by omega) (by omega))) ?_
        refine GL.pure rfl (p_assign rfl) ?_
        refine GL.nil ?_
        exact fun a w h => ⟨(k + 1, n, A1, c1_, ds), (by simp only; omega), ⟨by simp only; omega, by simp only; rw [pages_no hno]; exact hn⟩, by rw [pages_no hno]; exact h.cut (is := [0, 0, 0, 0]) (js := [0, 1]) ⟨rfl, rfl, rfl, rfl, trivial⟩ rfl rfl⟩
    · try simp only [decide_eq_true_eq, decide_eq_false_iff_not, Bool.not_eq_true', Bool.not_eq_false', Bool.not_true, Bool.not_false, Bool.not_not, ne_eq, Decidable.not_not, Int.not_lt, Int.not_le, gt_iff_lt, ge_iff_le, bool_true_eq_, bool_false_eq_] at h2
      refine GL.pass (s := 24) rfl rfl rfl ?_
      refine GL.pass (s := 24) rfl rfl rfl ?_
      refine GL.pass (s := 24) rfl rfl rfl ?_
      refine GL.pass (s := 24) rfl rfl rfl ?_
      refine GL.pass (s := 24) rfl rfl rfl ?_
      refine GL.pass (s := 24) rfl rfl rfl ?_
      refine GL.pass (s := 24) rfl rfl rfl ?_
      refine GL.pass (s := 24) rfl rfl rfl ?_
      refine GL.pass (s := 24) rfl rfl rfl ?_
      refine GL.pure rfl (p_pick_false rfl rfl) ?_
      refine GL.nil (?_ : GC _ _ _ _)
      refine GC.cond_false rfl ?_
      refine GC.skip (?_ : GC _ _ _ _)
      refine GC.region ?_
      have hno : ¬ gt v.vs (k : Int) > max since 0 := by omega
      refine GL.pure rfl (p_move rfl) ?_
      refine GL.pure rfl (p_add rfl rfl (w64 (by omega) (by omega))) ?_
      refine GL.pure rfl (p_assign rfl) ?_
      refine GL.nil ?_
      exact fun a w h => ⟨(k + 1, n, A1, c1_, ds), (by simp only; omega), ⟨by simp only; omega, by simp only; rw [pages_no hno]; exact hn⟩, by rw [pages_no hno]; exact h.cut (is := [0, 0, 0, 0]) (js := [0, 1]) ⟨rfl, rfl, rfl, rfl, trivial⟩ rfl rfl⟩
  · try simp only [decide_eq_true_eq, decide_eq_false_iff_not, Bool.not_eq_true', Bool.not_eq_false', Bool.not_true, Bool.not_false, Bool.not_not, ne_eq, Decidable.not_not, Int.not_lt, Int.not_le, gt_iff_lt, ge_iff_le, bool_true_eq_, bool_false_eq_] at h1
    refine GC.exit (?_ : GC _ _ _ _)
    refine GC.seq' ?_
    refine GC.region ?_
    refine GL.pure rfl (p_move rfl) ?_
    refine GL.pure rfl (p_assign rfl) ?_
    refine GL.nil (?_ : GC _ _ _ _)
    obtain rfl : k = v.bl.toNat := by omega
    subst hn
    refine GC.shape (i := 3) rfl (fun A2 c2_ e2 l2 k2 => ?_)
    refine GC.ret ?_
    refine fun a w h => Fin.back (rs := [.tmp 4]) (vs := [_]) (is := [3, 0, 0, 0]) (js := [0]) rfl ⟨rfl, trivial⟩ rfl rfl ?_ h
    clear h
    cases e2
    exact ⟨_, _, _, l2, k2, rfl, rfl, rfl⟩
end Go.Proofs.Ytihhpkbbhfcdcaa
