/- GROUPS: walks of the laws: which may be, who leads, the next group, each leads in turn. -/
import Derived.Test.YtoofbjclockcdaaGb6
set_option linter.unusedVariables false
set_option linter.unusedSimpArgs false
set_option maxRecDepth 100000
namespace Go.Proofs.Ytoofbjclockcdaa
open Go Go.Sx Go.Proofs
theorem awake_next : nextF 0 [1, 4, 6] [2] [4] = (1, [1, 2, 6], 0) := by rw [next_eq]; decide +kernel
theorem nextA_ct (A : Option Addr) (cp : Nat) (B : Option Addr) (cq : Nat) (D : Option Addr) (cr : Nat) :
    Ct Try.prog 10 [grpV 0 A 3 cp, .slice B 1 cq, .slice D 1 cr] [] [Pers.row kI A [1, 4, 6], Pers.row kI B [2], Pers.row kI D [4]]
      (fun u G Q => ∃ R cs, u = .tuple #[grpV 1 R 3 cs, .int .i64 0] ∧ G = [] ∧ Q = [Pers.row kI R [1, 2, 6]]) := by
  have h := next_ct 0 A [1, 4, 6] cp B [2] cq D [4] cr (by decide) (by decide) (by decide)
  rw [awake_next] at h
  exact h
theorem primA_ct (A : Option Addr) (cp : Nat) : Ct Try.prog 15 [grpV 0 A 3 cp, .int .i64 5] [] [Pers.row kI A [1, 4, 6]] (fun u G Q => u = .tuple #[.int .i64 6, .int .i64 0] ∧ G = [] ∧ Q = []) := by
  have h := prim_ct 0 A [1, 4, 6] cp 5 (by decide)
  rw [show primF 0 [1, 4, 6] 5 = (6, 0) from by decide +kernel] at h
  exact h
theorem awake_ct : Ct Try.prog 13 [] [] [] (fun v G Q => v = .bool true ∧ G = [] ∧ Q = []) := by
  refine Ct.intro Try.func13 rfl rfl rfl (fun c hc => ?_)
  refine GC.seq' ?_
  refine GC.region ?_
  refine GL.pure rfl (p_assign rfl) ?_
  refine GL.nil (?_ : GC _ _ _ _)
  refine GC.seq' ?_
  refine GC.region ?_
  refine GL.step rfl (t_buildSlice rfl Try.underlying22 sz_3 ze_3 rfl rfl rfl rfl rfl rfl) (GL.ex fun b_t6 => ?_)
  refine GL.freezeC (enc := Value.int .i64) (xs := [1, 4, 6]) (h1 := fun _ => rfl) (i := 0) rfl ?_
  refine GL.pure rfl (p_build ze_24 of_24 rfl rfl) ?_
  refine GL.step rfl (t_alloc rfl ze_24) (GL.ex fun b_t1 => ?_)
  refine GL.step rfl (t_storeN (i := 0) rfl rfl rfl sz_24 rfl rfl rfl) ?_
  refine GL.nil (?_ : GC _ _ _ _)
  refine GC.seq' ?_
  refine GC.region ?_
  refine GL.step rfl (t_mem rfl (m_loadN (i := 0) rfl rfl ag_24 (vs := [_, _]) sz_24 ⟨rfl, rfl, trivial⟩)) ?_
  refine GL.step rfl (t_call rfl fn_15 rfl (is := []) (js := [0]) rfl rfl (by exact primA_ct _ _)) (GL.ret ?_)
  rintro _ _ _ ⟨rfl, rfl, rfl⟩
  refine GL.pure rfl (p_move rfl) ?_
  refine GL.pure rfl (p_extract rfl rfl) ?_
  refine GL.pure rfl (p_extract rfl rfl) ?_
  refine GL.pure rfl (p_assign rfl) ?_
  refine GL.pure rfl (p_assign rfl) ?_
  refine GL.nil (?_ : GC _ _ _ _)
  refine GC.seq' ?_
  refine GC.region ?_
  refine GL.step rfl (t_mem rfl (m_loadN (i := 0) rfl rfl ag_24 (vs := [_, _]) sz_24 ⟨rfl, rfl, trivial⟩)) ?_
  refine GL.step rfl (t_buildSlice rfl Try.underlying22 sz_3 ze_3 rfl rfl rfl rfl rfl rfl) (GL.ex fun b_t15 => ?_)
  refine GL.freezeC (enc := Value.int .i64) (xs := [2]) (h1 := fun _ => rfl) (i := 0) rfl ?_
  refine GL.step rfl (t_buildSlice rfl Try.underlying22 sz_3 ze_3 rfl rfl rfl rfl rfl rfl) (GL.ex fun b_t16 => ?_)
  refine GL.freezeC (enc := Value.int .i64) (xs := [4]) (h1 := fun _ => rfl) (i := 0) rfl ?_
  refine GL.step rfl (t_call rfl fn_10 rfl (is := []) (js := [2, 1, 0]) rfl rfl (by exact nextA_ct _ _ _ _ _ _)) (GL.ret ?_)
  rintro _ _ _ ⟨A17, cp17, rfl, rfl, rfl⟩
  refine GL.pure rfl (p_move rfl) ?_
  refine GL.pure rfl (p_extract rfl rfl) ?_
  refine GL.pure rfl (p_extract rfl rfl) ?_
  refine GL.step rfl (t_alloc rfl ze_24) (GL.ex fun b_t4 => ?_)
  refine GL.step rfl (t_storeN (i := 0) rfl rfl rfl sz_24 rfl rfl rfl) ?_
  refine GL.pure rfl (p_assign rfl) ?_
  refine GL.nil (?_ : GC _ _ _ _)
  refine GC.seq' ?_
  refine GC.region ?_
  refine GL.pure rfl (p_move rfl) ?_
  refine GL.pure rfl (p_eql rfl rfl) ?_
  refine GL.pure rfl (p_move rfl) ?_
  refine GL.pureG (s := 22) rfl rfl rfl (p_move rfl) ?_
  refine GL.pureG (s := 22) rfl rfl rfl (p_eql rfl rfl) ?_
  refine GL.pure rfl (p_pick_true rfl rfl) ?_
  refine GL.pure rfl (p_move rfl) ?_
  refine GL.pureG (s := 26) rfl rfl rfl (p_move rfl) ?_
  refine GL.pureG (s := 26) rfl rfl rfl (p_eql rfl rfl) ?_
  refine GL.pure rfl (p_pick_true rfl rfl) ?_
  refine GL.pure rfl (p_move rfl) ?_
  refine GL.stepG rfl (s := 30) rfl rfl (t_mem rfl (m_loadN (i := 1) rfl rfl ag_24 (vs := [_, _]) sz_24 ⟨rfl, rfl, trivial⟩)) ?_
  refine GL.stepG rfl (s := 30) rfl rfl (t_call rfl fn_23 rfl (is := []) (js := []) rfl rfl (by exact quorum_ct _ _ 3 _ (by decide))) (GL.ret ?_)
  rintro _ _ _ ⟨rfl, rfl, rfl⟩
  refine GL.pureG (s := 30) rfl rfl rfl (p_eql rfl rfl) ?_
  refine GL.pure rfl (p_pick_true rfl rfl) ?_
  refine GL.pure rfl (p_move rfl) ?_
  refine GL.pureG (s := 35) rfl rfl rfl (p_fieldAddr fo_24_0 rfl) ?_
  refine GL.stepG rfl (s := 35) rfl rfl (t_mem rfl (m_load (i := 0) rfl rfl ag_3 rfl)) ?_
  refine GL.pureG (s := 35) rfl rfl rfl (p_eql rfl rfl) ?_
  refine GL.pure rfl (p_pick_true rfl rfl) ?_
  refine GL.pure rfl (p_move rfl) ?_
  refine GL.pureG (s := 40) rfl rfl rfl (p_fieldAddr fo_24_1 rfl) ?_
  refine GL.stepG rfl (s := 40) rfl rfl (t_mem rfl (m_load (i := 0) rfl rfl ag_22 rfl)) ?_
  refine GL.pureG (s := 40) rfl rfl rfl (p_len Try.underlying22 rfl) ?_
  refine GL.pureG (s := 40) rfl rfl rfl (p_eql rfl rfl) ?_
  refine GL.pure rfl (p_pick_true rfl rfl) ?_
  refine GL.pure rfl (p_move rfl) ?_
  refine GL.split (i := 46) rfl (fun h1 => ?_) (fun h1 => ?_)
  · try simp only [decide_eq_true_eq, decide_eq_false_iff_not, Bool.not_eq_true', Bool.not_eq_false', Bool.not_true, Bool.not_false, Bool.not_not, ne_eq, Decidable.not_not, Int.not_lt, Int.not_le, gt_iff_lt, ge_iff_le, bool_true_eq_, bool_false_eq_] at h1
    first
    | (exfalso; first | omega | (simp at h1; done))
    | (skip
       refine GL.pureG (s := 46) rfl rfl rfl (p_fieldAddr fo_24_1 rfl) ?_
       refine GL.stepG rfl (s := 46) rfl rfl (t_mem rfl (m_load (i := 0) rfl rfl ag_22 rfl)) ?_
       refine GL.stepG rfl (s := 46) rfl rfl (t_index (xs := [1, 2, 6]) (i := 0) rfl rfl rfl rfl Try.underlying22 sz_3 (by omega) (gt_ok (xs := [1, 2, 6]) (by omega) (by decide))) (GL.ex fun p_x49 => GL.ex fun r_x49 => GL.and fun ok_x49 => ?_)
       rcases r_x49 with _
       refine GL.stepG rfl (s := 46) rfl rfl (t_mem rfl (m_loadP (i := 0) rfl rfl ag_3 rfl)) ?_
       refine GL.pureG (s := 46) rfl rfl rfl (p_eql rfl rfl) ?_
       refine GL.pure rfl (p_pick_true rfl rfl) ?_
       refine GL.pure rfl (p_assign rfl) ?_
       refine GL.nil (?_ : GC _ _ _ _)
       refine GC.ret ?_
       refine fun a w h => Fin.back (rs := [.tmp 0]) (vs := [_]) (is := []) (js := []) rfl ⟨rfl, trivial⟩ rfl rfl ?_ h
       clear h
       refine ⟨?_, rfl, rfl⟩
       first | rfl | (show Value.bool _ = _; simp; done) | (show Value.bool (decide _) = _; decide))
  · try simp only [decide_eq_true_eq, decide_eq_false_iff_not, Bool.not_eq_true', Bool.not_eq_false', Bool.not_true, Bool.not_false, Bool.not_not, ne_eq, Decidable.not_not, Int.not_lt, Int.not_le, gt_iff_lt, ge_iff_le, bool_true_eq_, bool_false_eq_] at h1
    first
    | (exfalso; first | omega | (simp at h1; done))
    | (skip
       refine GL.pass (s := 46) rfl rfl rfl ?_
       refine GL.pass (s := 46) rfl rfl rfl ?_
       refine GL.pass (s := 46) rfl rfl rfl ?_
       refine GL.pass (s := 46) rfl rfl rfl ?_
       refine GL.pass (s := 46) rfl rfl rfl ?_
       refine GL.pure rfl (p_pick_false rfl rfl) ?_
       refine GL.pure rfl (p_assign rfl) ?_
       refine GL.nil (?_ : GC _ _ _ _)
       refine GC.ret ?_
       refine fun a w h => Fin.back (rs := [.tmp 0]) (vs := [_]) (is := []) (js := []) rfl ⟨rfl, trivial⟩ rfl rfl ?_ h
       clear h
       refine ⟨?_, rfl, rfl⟩
       first | rfl | (show Value.bool _ = _; simp; done) | (show Value.bool (decide _) = _; decide))
theorem groupAsks_ct (e : Int) (A : Option Addr) (l : List Int) (cp : Nat) (f : Int) (B : Option Addr) (m : List Int) (cq : Nat) (node : Int) (hl : l.length ≤ cp) (hm : m.length ≤ cq) :
    Ct Try.prog 6 [grpV e A l.length cp, grpV f B m.length cq, .int .i64 node] [] [Pers.row kI A l, Pers.row kI B m] (fun u G Q => u = .bool true ∧ G = [] ∧ Q = []) := by
  have q1 : (l.take 100).length ≤ 140737488355328 := by simp; omega
  have q2 : (m.take 100).length ≤ 140737488355328 := by simp; omega
  refine Ct.intro Try.func6 rfl rfl rfl (fun c hc => ?_)
  refine GC.seq' ?_
  refine GC.region ?_
  refine GL.step rfl (t_box rfl rfl rfl) (GL.ex fun b_t3 => ?_)
  refine GL.step rfl (t_box rfl rfl rfl) (GL.ex fun b_t4 => ?_)
  refine GL.pure rfl (p_assign rfl) ?_
  refine GL.nil (?_ : GC _ _ _ _)
  refine GC.seq' ?_
  refine GC.regionC (m := 6) (is := []) (js := [0, 1]) wide_ rfl rfl rfl ?_
  refine GA.all (rs := [0, 2]) (by kernel_rfl) (by simp) ?_
  refine GAs.cons (i := 0) rfl rfl (t_mem rfl (m_loadN (i := 1) rfl rfl ag_24 (vs := [_, _]) sz_24 ⟨rfl, rfl, trivial⟩)) (by rintro a w h; exact h.mem (is := []) (js := [0, 1]) rfl rfl) ?_ ?_
  · refine GA.all (rs := [1, 2]) (by kernel_rfl) (by simp) ?_
    refine GAs.cons (i := 1) rfl rfl (t_call rfl fn_8 rfl (is := []) (js := [0]) rfl rfl (by exact cut_ct _ _ _ _ (by first | assumption | omega))) (by rintro a w ⟨_, _, _, ⟨A8, cp8, rfl, rfl, rfl⟩, h⟩; exact h.mem (is := []) (js := [1, 2]) rfl rfl) (GA.ret ?_) ?_
    · rintro _ _ _ ⟨A8, cp8, rfl, rfl, rfl⟩
      refine GA.all (rs := [2]) (by kernel_rfl) (by simp) ?_
      refine GAs.cons (i := 2) rfl rfl (t_mem rfl (m_loadN (i := 0) rfl rfl ag_24 (vs := [_, _]) sz_24 ⟨rfl, rfl, trivial⟩)) (by rintro a w h; exact h.mem (is := []) (js := [1, 2]) rfl rfl) ?_ ?_
      · refine GA.all (rs := [3]) (by kernel_rfl) (by simp) ?_
        refine GAs.cons (i := 3) rfl rfl (t_call rfl fn_8 rfl (is := []) (js := [2]) rfl rfl (by exact cut_ct _ _ _ _ (by first | assumption | omega))) (by rintro a w ⟨_, _, _, ⟨A10, cp10, rfl, rfl, rfl⟩, h⟩; exact h.mem (is := []) (js := [2, 3]) rfl rfl) (GA.ret ?_) ?_
        · rintro _ _ _ ⟨A10, cp10, rfl, rfl, rfl⟩
          refine GA.all (rs := [4]) (by kernel_rfl) (by simp) ?_
          refine GAs.cons (i := 4) rfl rfl (t_storeN (i := 1) rfl rfl rfl sz_24 rfl rfl rfl) (by rintro a w h; exact h.mem (is := []) (js := [2, 3]) rfl rfl) ?_ ?_
          · refine GA.all (rs := [5]) (by kernel_rfl) (by simp) ?_
            refine GAs.cons (i := 5) rfl rfl (t_storeN (i := 0) rfl rfl rfl sz_24 rfl rfl rfl) (by rintro a w h; exact h.mem (is := []) (js := [2, 3]) rfl rfl) ?_ ?_
            · refine GA.done (by kernel_rfl) (?_ : GC _ _ _ _)
              refine GC.seq' ?_
              refine GC.regionQ wide_ (by kernel_rfl) ?_
              refine GQ.step rfl (q_mem (m_loadN (i := 1) rfl rfl ag_24 (vs := [_, _]) sz_24 ⟨rfl, rfl, trivial⟩)) ?_
              refine GQ.step rfl (q_call fn_22 rfl (js := [1]) rfl (by exact check_ct _ _ (l.take 100) _ q1)) ?_
              refine GQ.step rfl (q_mem (m_loadN (i := 1) rfl rfl ag_24 (vs := [_, _]) sz_24 ⟨rfl, rfl, trivial⟩)) ?_
              refine GQ.step rfl (q_call fn_14 rfl (js := [1]) rfl (by exact rcheck_ct _ _ (l.take 100) _ q1)) ?_
              refine GQ.step rfl (q_pure (p_eql rfl rfl)) ?_
              refine GQ.step rfl (q_pure (p_move rfl)) ?_
              refine GQ.split (i := 16) rfl (fun h1 => ?_) (fun h1 => ?_)
              · try simp only [decide_eq_true_eq, decide_eq_false_iff_not, Bool.not_eq_true', Bool.not_eq_false', Bool.not_true, Bool.not_false, Bool.not_not, ne_eq, Decidable.not_not, Int.not_lt, Int.not_le, gt_iff_lt, ge_iff_le, bool_true_eq_, bool_false_eq_] at h1
                first
                | (exfalso; first | omega | (simp at h1; done) | (simp [sameG] at h1; done))
                | (skip
                   refine GQ.stepG (s := 16) rfl rfl rfl (q_mem (m_loadN (i := 1) rfl rfl ag_24 (vs := [_, _]) sz_24 ⟨rfl, rfl, trivial⟩)) ?_
                   refine GQ.stepG (s := 16) rfl rfl rfl (q_call fn_23 rfl (js := []) rfl (by exact quorum_ct _ _ _ _ q1)) ?_
                   refine GQ.stepG (s := 16) rfl rfl rfl (q_mem (m_loadN (i := 1) rfl rfl ag_24 (vs := [_, _]) sz_24 ⟨rfl, rfl, trivial⟩)) ?_
                   refine GQ.stepG (s := 16) rfl rfl rfl (q_call fn_24 rfl (js := []) rfl (by exact rquorum_ct _ _ _ _ q1)) ?_
                   refine GQ.stepG (s := 16) rfl rfl rfl (q_pure (p_eql rfl rfl)) ?_
                   refine GQ.step rfl (q_pure (p_pick_true rfl rfl)) ?_
                   refine GQ.step rfl (q_pure (p_move rfl)) ?_
                   refine GQ.split (i := 23) rfl (fun h2 => ?_) (fun h2 => ?_)
                   · try simp only [decide_eq_true_eq, decide_eq_false_iff_not, Bool.not_eq_true', Bool.not_eq_false', Bool.not_true, Bool.not_false, Bool.not_not, ne_eq, Decidable.not_not, Int.not_lt, Int.not_le, gt_iff_lt, ge_iff_le, bool_true_eq_, bool_false_eq_] at h2
                     first
                     | (exfalso; first | omega | (simp at h2; done) | (simp [sameG] at h2; done))
                     | (skip
                        refine GQ.stepG (s := 23) rfl rfl rfl (q_mem (m_loadN (i := 1) rfl rfl ag_24 (vs := [_, _]) sz_24 ⟨rfl, rfl, trivial⟩)) ?_
                        refine GQ.stepG (s := 23) rfl rfl rfl (q_pure (p_move rfl)) ?_
                        refine GQ.stepG (s := 23) rfl rfl rfl (q_call fn_17 rfl (js := [1]) rfl (by exact has_ct _ _ (l.take 100) _ _ q1)) ?_
                        refine GQ.stepG (s := 23) rfl rfl rfl (q_pure (p_fieldAddr fo_24_1 rfl)) ?_
                        refine GQ.stepG (s := 23) rfl rfl rfl (q_mem (m_load (i := 1) rfl rfl ag_22 rfl)) ?_
                        refine GQ.stepG (s := 23) rfl rfl rfl (q_pure (p_move rfl)) ?_
                        refine GQ.stepG (s := 23) rfl rfl rfl (q_call fn_16 rfl (js := [1]) rfl (by exact in_ct _ (l.take 100) _ _ q1)) ?_
                        refine GQ.stepG (s := 23) rfl rfl rfl (q_pure (p_beql Try.underlying4 rfl rfl)) ?_
                        refine GQ.step rfl (q_pure (p_pick_true rfl rfl)) ?_
                        refine GQ.step rfl (q_pure (p_move rfl)) ?_
                        refine GQ.split (i := 33) rfl (fun h3 => ?_) (fun h3 => ?_)
                        · try simp only [decide_eq_true_eq, decide_eq_false_iff_not, Bool.not_eq_true', Bool.not_eq_false', Bool.not_true, Bool.not_false, Bool.not_not, ne_eq, Decidable.not_not, Int.not_lt, Int.not_le, gt_iff_lt, ge_iff_le, bool_true_eq_, bool_false_eq_] at h3
                          first
                          | (exfalso; first | omega | (simp at h3; done) | (simp [sameG] at h3; done))
                          | (skip
                             refine GQ.stepG (s := 33) rfl rfl rfl (q_mem (m_loadN (i := 1) rfl rfl ag_24 (vs := [_, _]) sz_24 ⟨rfl, rfl, trivial⟩)) ?_
                             refine GQ.stepG (s := 33) rfl rfl rfl (q_mem (m_loadN (i := 0) rfl rfl ag_24 (vs := [_, _]) sz_24 ⟨rfl, rfl, trivial⟩)) ?_
                             refine GQ.stepG (s := 33) rfl rfl rfl (q_call fn_25 rfl (js := [1, 0]) rfl (by exact gsame_ct _ _ (l.take 100) _ _ _ (m.take 100) _ q1)) ?_
                             refine GQ.stepG (s := 33) rfl rfl rfl (q_mem (m_loadN (i := 1) rfl rfl ag_24 (vs := [_, _]) sz_24 ⟨rfl, rfl, trivial⟩)) ?_
                             refine GQ.stepG (s := 33) rfl rfl rfl (q_mem (m_loadN (i := 0) rfl rfl ag_24 (vs := [_, _]) sz_24 ⟨rfl, rfl, trivial⟩)) ?_
                             refine GQ.stepG (s := 33) rfl rfl rfl (q_call fn_12 rfl (js := [1, 0]) rfl (by exact rgsame_ct _ _ (l.take 100) _ _ _ (m.take 100) _ q1)) ?_
                             refine GQ.stepG (s := 33) rfl rfl rfl (q_pure (p_beql Try.underlying4 rfl rfl)) ?_
                             refine GQ.step rfl (q_pure (p_pick_true rfl rfl)) ?_
                             refine GQ.step rfl (q_pure (p_move rfl)) ?_
                             refine GQ.split (i := 42) rfl (fun h4 => ?_) (fun h4 => ?_)
                             · try simp only [decide_eq_true_eq, decide_eq_false_iff_not, Bool.not_eq_true', Bool.not_eq_false', Bool.not_true, Bool.not_false, Bool.not_not, ne_eq, Decidable.not_not, Int.not_lt, Int.not_le, gt_iff_lt, ge_iff_le, bool_true_eq_, bool_false_eq_] at h4
                               first
                               | (exfalso; first | omega | (simp at h4; done) | (simp [sameG] at h4; done))
                               | (skip
                                  refine GQ.stepG (s := 42) rfl rfl rfl (q_mem (m_loadN (i := 1) rfl rfl ag_24 (vs := [_, _]) sz_24 ⟨rfl, rfl, trivial⟩)) ?_
                                  refine GQ.stepG (s := 42) rfl rfl rfl (q_mem (m_loadN (i := 1) rfl rfl ag_24 (vs := [_, _]) sz_24 ⟨rfl, rfl, trivial⟩)) ?_
                                  refine GQ.stepG (s := 42) rfl rfl rfl (q_call fn_25 rfl (js := [1, 1]) rfl (by exact gsame_ct _ _ (l.take 100) _ _ _ (l.take 100) _ q1)) ?_
                                  refine GQ.step rfl (q_pure (p_pick_true rfl rfl)) ?_
                                  refine GQ.step rfl (q_pure (p_move rfl)) ?_
                                  refine GQ.split (i := 47) rfl (fun h5 => ?_) (fun h5 => ?_)
                                  · try simp only [decide_eq_true_eq, decide_eq_false_iff_not, Bool.not_eq_true', Bool.not_eq_false', Bool.not_true, Bool.not_false, Bool.not_not, ne_eq, Decidable.not_not, Int.not_lt, Int.not_le, gt_iff_lt, ge_iff_le, bool_true_eq_, bool_false_eq_] at h5
                                    first
                                    | (exfalso; first | omega | (simp at h5; done) | (simp [sameG] at h5; done))
                                    | (skip
                                       refine GQ.stepG (s := 47) rfl rfl rfl (q_call fn_13 rfl (js := []) rfl (by exact awake_ct)) ?_
                                       refine GQ.step rfl (q_pure (p_pick_true rfl rfl)) ?_
                                       refine GQ.step rfl (q_pure (p_assign rfl)) ?_
                                       refine GQ.nil (?_ : GC _ _ _ _)
                                       refine GC.ret ?_
                                       refine fun a w h => Fin.back (rs := [.tmp 6]) (vs := [_]) (is := []) (js := []) rfl ⟨rfl, trivial⟩ rfl rfl ?_ h
                                       clear h
                                       refine ⟨?_, rfl, rfl⟩
                                       first | rfl | (show Value.bool _ = _; simp [sameG]))
                                  · try simp only [decide_eq_true_eq, decide_eq_false_iff_not, Bool.not_eq_true', Bool.not_eq_false', Bool.not_true, Bool.not_false, Bool.not_not, ne_eq, Decidable.not_not, Int.not_lt, Int.not_le, gt_iff_lt, ge_iff_le, bool_true_eq_, bool_false_eq_] at h5
                                    first
                                    | (exfalso; first | omega | (simp at h5; done) | (simp [sameG] at h5; done))
                                    | (skip
                                       refine GQ.pass (s := 47) rfl rfl rfl ?_
                                       refine GQ.step rfl (q_pure (p_pick_false rfl rfl)) ?_
                                       refine GQ.step rfl (q_pure (p_assign rfl)) ?_
                                       refine GQ.nil (?_ : GC _ _ _ _)
                                       refine GC.ret ?_
                                       refine fun a w h => Fin.back (rs := [.tmp 6]) (vs := [_]) (is := []) (js := []) rfl ⟨rfl, trivial⟩ rfl rfl ?_ h
                                       clear h
                                       refine ⟨?_, rfl, rfl⟩
                                       first | rfl | (show Value.bool _ = _; simp [sameG])))
                             · try simp only [decide_eq_true_eq, decide_eq_false_iff_not, Bool.not_eq_true', Bool.not_eq_false', Bool.not_true, Bool.not_false, Bool.not_not, ne_eq, Decidable.not_not, Int.not_lt, Int.not_le, gt_iff_lt, ge_iff_le, bool_true_eq_, bool_false_eq_] at h4
                               first
                               | (exfalso; first | omega | (simp at h4; done) | (simp [sameG] at h4; done))
                               | (skip
                                  refine GQ.pass (s := 42) rfl rfl rfl ?_
                                  refine GQ.pass (s := 42) rfl rfl rfl ?_
                                  refine GQ.pass (s := 42) rfl rfl rfl ?_
                                  refine GQ.step rfl (q_pure (p_pick_false rfl rfl)) ?_
                                  refine GQ.step rfl (q_pure (p_move rfl)) ?_
                                  refine GQ.pass (s := 47) rfl rfl rfl ?_
                                  refine GQ.step rfl (q_pure (p_pick_false rfl rfl)) ?_
                                  refine GQ.step rfl (q_pure (p_assign rfl)) ?_
                                  refine GQ.nil (?_ : GC _ _ _ _)
                                  refine GC.ret ?_
                                  refine fun a w h => Fin.back (rs := [.tmp 6]) (vs := [_]) (is := []) (js := []) rfl ⟨rfl, trivial⟩ rfl rfl ?_ h
                                  clear h
                                  refine ⟨?_, rfl, rfl⟩
                                  first | rfl | (show Value.bool _ = _; simp [sameG])))
                        · try simp only [decide_eq_true_eq, decide_eq_false_iff_not, Bool.not_eq_true', Bool.not_eq_false', Bool.not_true, Bool.not_false, Bool.not_not, ne_eq, Decidable.not_not, Int.not_lt, Int.not_le, gt_iff_lt, ge_iff_le, bool_true_eq_, bool_false_eq_] at h3
                          first
                          | (exfalso; first | omega | (simp at h3; done) | (simp [sameG] at h3; done))
                          | (skip
                             refine GQ.pass (s := 33) rfl rfl rfl ?_
                             refine GQ.pass (s := 33) rfl rfl rfl ?_
                             refine GQ.pass (s := 33) rfl rfl rfl ?_
                             refine GQ.pass (s := 33) rfl rfl rfl ?_
                             refine GQ.pass (s := 33) rfl rfl rfl ?_
                             refine GQ.pass (s := 33) rfl rfl rfl ?_
                             refine GQ.pass (s := 33) rfl rfl rfl ?_
                             refine GQ.step rfl (q_pure (p_pick_false rfl rfl)) ?_
                             refine GQ.step rfl (q_pure (p_move rfl)) ?_
                             refine GQ.pass (s := 42) rfl rfl rfl ?_
                             refine GQ.pass (s := 42) rfl rfl rfl ?_
                             refine GQ.pass (s := 42) rfl rfl rfl ?_
                             refine GQ.step rfl (q_pure (p_pick_false rfl rfl)) ?_
                             refine GQ.step rfl (q_pure (p_move rfl)) ?_
                             refine GQ.pass (s := 47) rfl rfl rfl ?_
                             refine GQ.step rfl (q_pure (p_pick_false rfl rfl)) ?_
                             refine GQ.step rfl (q_pure (p_assign rfl)) ?_
                             refine GQ.nil (?_ : GC _ _ _ _)
                             refine GC.ret ?_
                             refine fun a w h => Fin.back (rs := [.tmp 6]) (vs := [_]) (is := []) (js := []) rfl ⟨rfl, trivial⟩ rfl rfl ?_ h
                             clear h
                             refine ⟨?_, rfl, rfl⟩
                             first | rfl | (show Value.bool _ = _; simp [sameG])))
                   · try simp only [decide_eq_true_eq, decide_eq_false_iff_not, Bool.not_eq_true', Bool.not_eq_false', Bool.not_true, Bool.not_false, Bool.not_not, ne_eq, Decidable.not_not, Int.not_lt, Int.not_le, gt_iff_lt, ge_iff_le, bool_true_eq_, bool_false_eq_] at h2
                     first
                     | (exfalso; first | omega | (simp at h2; done) | (simp [sameG] at h2; done))
                     | (skip
                        refine GQ.pass (s := 23) rfl rfl rfl ?_
                        refine GQ.pass (s := 23) rfl rfl rfl ?_
                        refine GQ.pass (s := 23) rfl rfl rfl ?_
                        refine GQ.pass (s := 23) rfl rfl rfl ?_
                        refine GQ.pass (s := 23) rfl rfl rfl ?_
                        refine GQ.pass (s := 23) rfl rfl rfl ?_
                        refine GQ.pass (s := 23) rfl rfl rfl ?_
                        refine GQ.pass (s := 23) rfl rfl rfl ?_
                        refine GQ.step rfl (q_pure (p_pick_false rfl rfl)) ?_
                        refine GQ.step rfl (q_pure (p_move rfl)) ?_
                        refine GQ.pass (s := 33) rfl rfl rfl ?_
                        refine GQ.pass (s := 33) rfl rfl rfl ?_
                        refine GQ.pass (s := 33) rfl rfl rfl ?_
                        refine GQ.pass (s := 33) rfl rfl rfl ?_
                        refine GQ.pass (s := 33) rfl rfl rfl ?_
                        refine GQ.pass (s := 33) rfl rfl rfl ?_
                        refine GQ.pass (s := 33) rfl rfl rfl ?_
                        refine GQ.step rfl (q_pure (p_pick_false rfl rfl)) ?_
                        refine GQ.step rfl (q_pure (p_move rfl)) ?_
                        refine GQ.pass (s := 42) rfl rfl rfl ?_
                        refine GQ.pass (s := 42) rfl rfl rfl ?_
                        refine GQ.pass (s := 42) rfl rfl rfl ?_
                        refine GQ.step rfl (q_pure (p_pick_false rfl rfl)) ?_
                        refine GQ.step rfl (q_pure (p_move rfl)) ?_
                        refine GQ.pass (s := 47) rfl rfl rfl ?_
                        refine GQ.step rfl (q_pure (p_pick_false rfl rfl)) ?_
                        refine GQ.step rfl (q_pure (p_assign rfl)) ?_
                        refine GQ.nil (?_ : GC _ _ _ _)
                        refine GC.ret ?_
                        refine fun a w h => Fin.back (rs := [.tmp 6]) (vs := [_]) (is := []) (js := []) rfl ⟨rfl, trivial⟩ rfl rfl ?_ h
                        clear h
                        refine ⟨?_, rfl, rfl⟩
                        first | rfl | (show Value.bool _ = _; simp [sameG])))
              · try simp only [decide_eq_true_eq, decide_eq_false_iff_not, Bool.not_eq_true', Bool.not_eq_false', Bool.not_true, Bool.not_false, Bool.not_not, ne_eq, Decidable.not_not, Int.not_lt, Int.not_le, gt_iff_lt, ge_iff_le, bool_true_eq_, bool_false_eq_] at h1
                first
                | (exfalso; first | omega | (simp at h1; done) | (simp [sameG] at h1; done))
                | (skip
                   refine GQ.pass (s := 16) rfl rfl rfl ?_
                   refine GQ.pass (s := 16) rfl rfl rfl ?_
                   refine GQ.pass (s := 16) rfl rfl rfl ?_
                   refine GQ.pass (s := 16) rfl rfl rfl ?_
                   refine GQ.pass (s := 16) rfl rfl rfl ?_
                   refine GQ.step rfl (q_pure (p_pick_false rfl rfl)) ?_
                   refine GQ.step rfl (q_pure (p_move rfl)) ?_
                   refine GQ.pass (s := 23) rfl rfl rfl ?_
                   refine GQ.pass (s := 23) rfl rfl rfl ?_
                   refine GQ.pass (s := 23) rfl rfl rfl ?_
                   refine GQ.pass (s := 23) rfl rfl rfl ?_
                   refine GQ.pass (s := 23) rfl rfl rfl ?_
                   refine GQ.pass (s := 23) rfl rfl rfl ?_
                   refine GQ.pass (s := 23) rfl rfl rfl ?_
                   refine GQ.pass (s := 23) rfl rfl rfl ?_
                   refine GQ.step rfl (q_pure (p_pick_false rfl rfl)) ?_
                   refine GQ.step rfl (q_pure (p_move rfl)) ?_
                   refine GQ.pass (s := 33) rfl rfl rfl ?_
                   refine GQ.pass (s := 33) rfl rfl rfl ?_
                   refine GQ.pass (s := 33) rfl rfl rfl ?_
                   refine GQ.pass (s := 33) rfl rfl rfl ?_
                   refine GQ.pass (s := 33) rfl rfl rfl ?_
                   refine GQ.pass (s := 33) rfl rfl rfl ?_
                   refine GQ.pass (s := 33) rfl rfl rfl ?_
                   refine GQ.step rfl (q_pure (p_pick_false rfl rfl)) ?_
                   refine GQ.step rfl (q_pure (p_move rfl)) ?_
                   refine GQ.pass (s := 42) rfl rfl rfl ?_
                   refine GQ.pass (s := 42) rfl rfl rfl ?_
                   refine GQ.pass (s := 42) rfl rfl rfl ?_
                   refine GQ.step rfl (q_pure (p_pick_false rfl rfl)) ?_
                   refine GQ.step rfl (q_pure (p_move rfl)) ?_
                   refine GQ.pass (s := 47) rfl rfl rfl ?_
                   refine GQ.step rfl (q_pure (p_pick_false rfl rfl)) ?_
                   refine GQ.step rfl (q_pure (p_assign rfl)) ?_
                   refine GQ.nil (?_ : GC _ _ _ _)
                   refine GC.ret ?_
                   refine fun a w h => Fin.back (rs := [.tmp 6]) (vs := [_]) (is := []) (js := []) rfl ⟨rfl, trivial⟩ rfl rfl ?_ h
                   clear h
                   refine ⟨?_, rfl, rfl⟩
                   first | rfl | (show Value.bool _ = _; simp [sameG]))
            exact GAs.nil
          exact GAs.nil
        exact GAs.nil
      exact GAs.nil
    refine GAs.cons (i := 2) rfl rfl (t_mem rfl (m_loadN (i := 0) rfl rfl ag_24 (vs := [_, _]) sz_24 ⟨rfl, rfl, trivial⟩)) (by rintro a w h; exact h.mem (is := []) (js := [0, 1]) rfl rfl) ?_ ?_
    · refine GA.all (rs := [1]) (by kernel_rfl) (by simp) ?_
      refine GAs.cons (i := 1) rfl rfl (t_call rfl fn_8 rfl (is := []) (js := [0]) rfl rfl (by exact cut_ct _ _ _ _ (by first | assumption | omega))) (by rintro a w ⟨_, _, _, ⟨A8, cp8, rfl, rfl, rfl⟩, h⟩; exact h.mem (is := []) (js := [1, 2]) rfl rfl) (GA.ret ?_) ?_
      · rintro _ _ _ ⟨A8, cp8, rfl, rfl, rfl⟩
        refine GA.all (rs := [3]) (by kernel_rfl) (by simp) ?_
        refine GAs.cons (i := 3) rfl rfl (t_call rfl fn_8 rfl (is := []) (js := [2]) rfl rfl (by exact cut_ct _ _ _ _ (by first | assumption | omega))) (by rintro a w ⟨_, _, _, ⟨A10, cp10, rfl, rfl, rfl⟩, h⟩; exact h.mem (is := []) (js := [2, 3]) rfl rfl) (GA.ret ?_) ?_
        · rintro _ _ _ ⟨A10, cp10, rfl, rfl, rfl⟩
          refine GA.all (rs := [4]) (by kernel_rfl) (by simp) ?_
          refine GAs.cons (i := 4) rfl rfl (t_storeN (i := 1) rfl rfl rfl sz_24 rfl rfl rfl) (by rintro a w h; exact h.mem (is := []) (js := [2, 3]) rfl rfl) ?_ ?_
          · refine GA.all (rs := [5]) (by kernel_rfl) (by simp) ?_
            refine GAs.cons (i := 5) rfl rfl (t_storeN (i := 0) rfl rfl rfl sz_24 rfl rfl rfl) (by rintro a w h; exact h.mem (is := []) (js := [2, 3]) rfl rfl) ?_ ?_
            · refine GA.done (by kernel_rfl) (?_ : GC _ _ _ _)
              refine GC.seq' ?_
              refine GC.regionQ wide_ (by kernel_rfl) ?_
              refine GQ.step rfl (q_mem (m_loadN (i := 1) rfl rfl ag_24 (vs := [_, _]) sz_24 ⟨rfl, rfl, trivial⟩)) ?_
              refine GQ.step rfl (q_call fn_22 rfl (js := [1]) rfl (by exact check_ct _ _ (l.take 100) _ q1)) ?_
              refine GQ.step rfl (q_mem (m_loadN (i := 1) rfl rfl ag_24 (vs := [_, _]) sz_24 ⟨rfl, rfl, trivial⟩)) ?_
              refine GQ.step rfl (q_call fn_14 rfl (js := [1]) rfl (by exact rcheck_ct _ _ (l.take 100) _ q1)) ?_
              refine GQ.step rfl (q_pure (p_eql rfl rfl)) ?_
              refine GQ.step rfl (q_pure (p_move rfl)) ?_
              refine GQ.split (i := 16) rfl (fun h1 => ?_) (fun h1 => ?_)
              · try simp only [decide_eq_true_eq, decide_eq_false_iff_not, Bool.not_eq_true', Bool.not_eq_false', Bool.not_true, Bool.not_false, Bool.not_not, ne_eq, Decidable.not_not, Int.not_lt, Int.not_le, gt_iff_lt, ge_iff_le, bool_true_eq_, bool_false_eq_] at h1
                first
                | (exfalso; first | omega | (simp at h1; done) | (simp [sameG] at h1; done))
                | (skip
                   refine GQ.stepG (s := 16) rfl rfl rfl (q_mem (m_loadN (i := 1) rfl rfl ag_24 (vs := [_, _]) sz_24 ⟨rfl, rfl, trivial⟩)) ?_
                   refine GQ.stepG (s := 16) rfl rfl rfl (q_call fn_23 rfl (js := []) rfl (by exact quorum_ct _ _ _ _ q1)) ?_
                   refine GQ.stepG (s := 16) rfl rfl rfl (q_mem (m_loadN (i := 1) rfl rfl ag_24 (vs := [_, _]) sz_24 ⟨rfl, rfl, trivial⟩)) ?_
                   refine GQ.stepG (s := 16) rfl rfl rfl (q_call fn_24 rfl (js := []) rfl (by exact rquorum_ct _ _ _ _ q1)) ?_
                   refine GQ.stepG (s := 16) rfl rfl rfl (q_pure (p_eql rfl rfl)) ?_
                   refine GQ.step rfl (q_pure (p_pick_true rfl rfl)) ?_
                   refine GQ.step rfl (q_pure (p_move rfl)) ?_
                   refine GQ.split (i := 23) rfl (fun h2 => ?_) (fun h2 => ?_)
                   · try simp only [decide_eq_true_eq, decide_eq_false_iff_not, Bool.not_eq_true', Bool.not_eq_false', Bool.not_true, Bool.not_false, Bool.not_not, ne_eq, Decidable.not_not, Int.not_lt, Int.not_le, gt_iff_lt, ge_iff_le, bool_true_eq_, bool_false_eq_] at h2
                     first
                     | (exfalso; first | omega | (simp at h2; done) | (simp [sameG] at h2; done))
                     | (skip
                        refine GQ.stepG (s := 23) rfl rfl rfl (q_mem (m_loadN (i := 1) rfl rfl ag_24 (vs := [_, _]) sz_24 ⟨rfl, rfl, trivial⟩)) ?_
                        refine GQ.stepG (s := 23) rfl rfl rfl (q_pure (p_move rfl)) ?_
                        refine GQ.stepG (s := 23) rfl rfl rfl (q_call fn_17 rfl (js := [1]) rfl (by exact has_ct _ _ (l.take 100) _ _ q1)) ?_
                        refine GQ.stepG (s := 23) rfl rfl rfl (q_pure (p_fieldAddr fo_24_1 rfl)) ?_
                        refine GQ.stepG (s := 23) rfl rfl rfl (q_mem (m_load (i := 1) rfl rfl ag_22 rfl)) ?_
                        refine GQ.stepG (s := 23) rfl rfl rfl (q_pure (p_move rfl)) ?_
                        refine GQ.stepG (s := 23) rfl rfl rfl (q_call fn_16 rfl (js := [1]) rfl (by exact in_ct _ (l.take 100) _ _ q1)) ?_
                        refine GQ.stepG (s := 23) rfl rfl rfl (q_pure (p_beql Try.underlying4 rfl rfl)) ?_
                        refine GQ.step rfl (q_pure (p_pick_true rfl rfl)) ?_
                        refine GQ.step rfl (q_pure (p_move rfl)) ?_
                        refine GQ.split (i := 33) rfl (fun h3 => ?_) (fun h3 => ?_)
                        · try simp only [decide_eq_true_eq, decide_eq_false_iff_not, Bool.not_eq_true', Bool.not_eq_false', Bool.not_true, Bool.not_false, Bool.not_not, ne_eq, Decidable.not_not, Int.not_lt, Int.not_le, gt_iff_lt, ge_iff_le, bool_true_eq_, bool_false_eq_] at h3
                          first
                          | (exfalso; first | omega | (simp at h3; done) | (simp [sameG] at h3; done))
                          | (skip
                             refine GQ.stepG (s := 33) rfl rfl rfl (q_mem (m_loadN (i := 1) rfl rfl ag_24 (vs := [_, _]) sz_24 ⟨rfl, rfl, trivial⟩)) ?_
                             refine GQ.stepG (s := 33) rfl rfl rfl (q_mem (m_loadN (i := 0) rfl rfl ag_24 (vs := [_, _]) sz_24 ⟨rfl, rfl, trivial⟩)) ?_
                             refine GQ.stepG (s := 33) rfl rfl rfl (q_call fn_25 rfl (js := [1, 0]) rfl (by exact gsame_ct _ _ (l.take 100) _ _ _ (m.take 100) _ q1)) ?_
                             refine GQ.stepG (s := 33) rfl rfl rfl (q_mem (m_loadN (i := 1) rfl rfl ag_24 (vs := [_, _]) sz_24 ⟨rfl, rfl, trivial⟩)) ?_
                             refine GQ.stepG (s := 33) rfl rfl rfl (q_mem (m_loadN (i := 0) rfl rfl ag_24 (vs := [_, _]) sz_24 ⟨rfl, rfl, trivial⟩)) ?_
                             refine GQ.stepG (s := 33) rfl rfl rfl (q_call fn_12 rfl (js := [1, 0]) rfl (by exact rgsame_ct _ _ (l.take 100) _ _ _ (m.take 100) _ q1)) ?_
                             refine GQ.stepG (s := 33) rfl rfl rfl (q_pure (p_beql Try.underlying4 rfl rfl)) ?_
                             refine GQ.step rfl (q_pure (p_pick_true rfl rfl)) ?_
                             refine GQ.step rfl (q_pure (p_move rfl)) ?_
                             refine GQ.split (i := 42) rfl (fun h4 => ?_) (fun h4 => ?_)
                             · try simp only [decide_eq_true_eq, decide_eq_false_iff_not, Bool.not_eq_true', Bool.not_eq_false', Bool.not_true, Bool.not_false, Bool.not_not, ne_eq, Decidable.not_not, Int.not_lt, Int.not_le, gt_iff_lt, ge_iff_le, bool_true_eq_, bool_false_eq_] at h4
                               first
                               | (exfalso; first | omega | (simp at h4; done) | (simp [sameG] at h4; done))
                               | (skip
                                  refine GQ.stepG (s := 42) rfl rfl rfl (q_mem (m_loadN (i := 1) rfl rfl ag_24 (vs := [_, _]) sz_24 ⟨rfl, rfl, trivial⟩)) ?_
                                  refine GQ.stepG (s := 42) rfl rfl rfl (q_mem (m_loadN (i := 1) rfl rfl ag_24 (vs := [_, _]) sz_24 ⟨rfl, rfl, trivial⟩)) ?_
                                  refine GQ.stepG (s := 42) rfl rfl rfl (q_call fn_25 rfl (js := [1, 1]) rfl (by exact gsame_ct _ _ (l.take 100) _ _ _ (l.take 100) _ q1)) ?_
                                  refine GQ.step rfl (q_pure (p_pick_true rfl rfl)) ?_
                                  refine GQ.step rfl (q_pure (p_move rfl)) ?_
                                  refine GQ.split (i := 47) rfl (fun h5 => ?_) (fun h5 => ?_)
                                  · try simp only [decide_eq_true_eq, decide_eq_false_iff_not, Bool.not_eq_true', Bool.not_eq_false', Bool.not_true, Bool.not_false, Bool.not_not, ne_eq, Decidable.not_not, Int.not_lt, Int.not_le, gt_iff_lt, ge_iff_le, bool_true_eq_, bool_false_eq_] at h5
                                    first
                                    | (exfalso; first | omega | (simp at h5; done) | (simp [sameG] at h5; done))
                                    | (skip
                                       refine GQ.stepG (s := 47) rfl rfl rfl (q_call fn_13 rfl (js := []) rfl (by exact awake_ct)) ?_
                                       refine GQ.step rfl (q_pure (p_pick_true rfl rfl)) ?_
                                       refine GQ.step rfl (q_pure (p_assign rfl)) ?_
                                       refine GQ.nil (?_ : GC _ _ _ _)
                                       refine GC.ret ?_
                                       refine fun a w h => Fin.back (rs := [.tmp 6]) (vs := [_]) (is := []) (js := []) rfl ⟨rfl, trivial⟩ rfl rfl ?_ h
                                       clear h
                                       refine ⟨?_, rfl, rfl⟩
                                       first | rfl | (show Value.bool _ = _; simp [sameG]))
                                  · try simp only [decide_eq_true_eq, decide_eq_false_iff_not, Bool.not_eq_true', Bool.not_eq_false', Bool.not_true, Bool.not_false, Bool.not_not, ne_eq, Decidable.not_not, Int.not_lt, Int.not_le, gt_iff_lt, ge_iff_le, bool_true_eq_, bool_false_eq_] at h5
                                    first
                                    | (exfalso; first | omega | (simp at h5; done) | (simp [sameG] at h5; done))
                                    | (skip
                                       refine GQ.pass (s := 47) rfl rfl rfl ?_
                                       refine GQ.step rfl (q_pure (p_pick_false rfl rfl)) ?_
                                       refine GQ.step rfl (q_pure (p_assign rfl)) ?_
                                       refine GQ.nil (?_ : GC _ _ _ _)
                                       refine GC.ret ?_
                                       refine fun a w h => Fin.back (rs := [.tmp 6]) (vs := [_]) (is := []) (js := []) rfl ⟨rfl, trivial⟩ rfl rfl ?_ h
                                       clear h
                                       refine ⟨?_, rfl, rfl⟩
                                       first | rfl | (show Value.bool _ = _; simp [sameG])))
                             · try simp only [decide_eq_true_eq, decide_eq_false_iff_not, Bool.not_eq_true', Bool.not_eq_false', Bool.not_true, Bool.not_false, Bool.not_not, ne_eq, Decidable.not_not, Int.not_lt, Int.not_le, gt_iff_lt, ge_iff_le, bool_true_eq_, bool_false_eq_] at h4
                               first
                               | (exfalso; first | omega | (simp at h4; done) | (simp [sameG] at h4; done))
                               | (skip
                                  refine GQ.pass (s := 42) rfl rfl rfl ?_
                                  refine GQ.pass (s := 42) rfl rfl rfl ?_
                                  refine GQ.pass (s := 42) rfl rfl rfl ?_
                                  refine GQ.step rfl (q_pure (p_pick_false rfl rfl)) ?_
                                  refine GQ.step rfl (q_pure (p_move rfl)) ?_
                                  refine GQ.pass (s := 47) rfl rfl rfl ?_
                                  refine GQ.step rfl (q_pure (p_pick_false rfl rfl)) ?_
                                  refine GQ.step rfl (q_pure (p_assign rfl)) ?_
                                  refine GQ.nil (?_ : GC _ _ _ _)
                                  refine GC.ret ?_
                                  refine fun a w h => Fin.back (rs := [.tmp 6]) (vs := [_]) (is := []) (js := []) rfl ⟨rfl, trivial⟩ rfl rfl ?_ h
                                  clear h
                                  refine ⟨?_, rfl, rfl⟩
                                  first | rfl | (show Value.bool _ = _; simp [sameG])))
                        · try simp only [decide_eq_true_eq, decide_eq_false_iff_not, Bool.not_eq_true', Bool.not_eq_false', Bool.not_true, Bool.not_false, Bool.not_not, ne_eq, Decidable.not_not, Int.not_lt, Int.not_le, gt_iff_lt, ge_iff_le, bool_true_eq_, bool_false_eq_] at h3
                          first
                          | (exfalso; first | omega | (simp at h3; done) | (simp [sameG] at h3; done))
                          | (skip
                             refine GQ.pass (s := 33) rfl rfl rfl ?_
                             refine GQ.pass (s := 33) rfl rfl rfl ?_
                             refine GQ.pass (s := 33) rfl rfl rfl ?_
                             refine GQ.pass (s := 33) rfl rfl rfl ?_
                             refine GQ.pass (s := 33) rfl rfl rfl ?_
                             refine GQ.pass (s := 33) rfl rfl rfl ?_
                             refine GQ.pass (s := 33) rfl rfl rfl ?_
                             refine GQ.step rfl (q_pure (p_pick_false rfl rfl)) ?_
                             refine GQ.step rfl (q_pure (p_move rfl)) ?_
                             refine GQ.pass (s := 42) rfl rfl rfl ?_
                             refine GQ.pass (s := 42) rfl rfl rfl ?_
                             refine GQ.pass (s := 42) rfl rfl rfl ?_
                             refine GQ.step rfl (q_pure (p_pick_false rfl rfl)) ?_
                             refine GQ.step rfl (q_pure (p_move rfl)) ?_
                             refine GQ.pass (s := 47) rfl rfl rfl ?_
                             refine GQ.step rfl (q_pure (p_pick_false rfl rfl)) ?_
                             refine GQ.step rfl (q_pure (p_assign rfl)) ?_
                             refine GQ.nil (?_ : GC _ _ _ _)
                             refine GC.ret ?_
                             refine fun a w h => Fin.back (rs := [.tmp 6]) (vs := [_]) (is := []) (js := []) rfl ⟨rfl, trivial⟩ rfl rfl ?_ h
                             clear h
                             refine ⟨?_, rfl, rfl⟩
                             first | rfl | (show Value.bool _ = _; simp [sameG])))
                   · try simp only [decide_eq_true_eq, decide_eq_false_iff_not, Bool.not_eq_true', Bool.not_eq_false', Bool.not_true, Bool.not_false, Bool.not_not, ne_eq, Decidable.not_not, Int.not_lt, Int.not_le, gt_iff_lt, ge_iff_le, bool_true_eq_, bool_false_eq_] at h2
                     first
                     | (exfalso; first | omega | (simp at h2; done) | (simp [sameG] at h2; done))
                     | (skip
                        refine GQ.pass (s := 23) rfl rfl rfl ?_
                        refine GQ.pass (s := 23) rfl rfl rfl ?_
                        refine GQ.pass (s := 23) rfl rfl rfl ?_
                        refine GQ.pass (s := 23) rfl rfl rfl ?_
                        refine GQ.pass (s := 23) rfl rfl rfl ?_
                        refine GQ.pass (s := 23) rfl rfl rfl ?_
                        refine GQ.pass (s := 23) rfl rfl rfl ?_
                        refine GQ.pass (s := 23) rfl rfl rfl ?_
                        refine GQ.step rfl (q_pure (p_pick_false rfl rfl)) ?_
                        refine GQ.step rfl (q_pure (p_move rfl)) ?_
                        refine GQ.pass (s := 33) rfl rfl rfl ?_
                        refine GQ.pass (s := 33) rfl rfl rfl ?_
                        refine GQ.pass (s := 33) rfl rfl rfl ?_
                        refine GQ.pass (s := 33) rfl rfl rfl ?_
                        refine GQ.pass (s := 33) rfl rfl rfl ?_
                        refine GQ.pass (s := 33) rfl rfl rfl ?_
                        refine GQ.pass (s := 33) rfl rfl rfl ?_
                        refine GQ.step rfl (q_pure (p_pick_false rfl rfl)) ?_
                        refine GQ.step rfl (q_pure (p_move rfl)) ?_
                        refine GQ.pass (s := 42) rfl rfl rfl ?_
                        refine GQ.pass (s := 42) rfl rfl rfl ?_
                        refine GQ.pass (s := 42) rfl rfl rfl ?_
                        refine GQ.step rfl (q_pure (p_pick_false rfl rfl)) ?_
                        refine GQ.step rfl (q_pure (p_move rfl)) ?_
                        refine GQ.pass (s := 47) rfl rfl rfl ?_
                        refine GQ.step rfl (q_pure (p_pick_false rfl rfl)) ?_
                        refine GQ.step rfl (q_pure (p_assign rfl)) ?_
                        refine GQ.nil (?_ : GC _ _ _ _)
                        refine GC.ret ?_
                        refine fun a w h => Fin.back (rs := [.tmp 6]) (vs := [_]) (is := []) (js := []) rfl ⟨rfl, trivial⟩ rfl rfl ?_ h
                        clear h
                        refine ⟨?_, rfl, rfl⟩
                        first | rfl | (show Value.bool _ = _; simp [sameG])))
              · try simp only [decide_eq_true_eq, decide_eq_false_iff_not, Bool.not_eq_true', Bool.not_eq_false', Bool.not_true, Bool.not_false, Bool.not_not, ne_eq, Decidable.not_not, Int.not_lt, Int.not_le, gt_iff_lt, ge_iff_le, bool_true_eq_, bool_false_eq_] at h1
                first
                | (exfalso; first | omega | (simp at h1; done) | (simp [sameG] at h1; done))
                | (skip
                   refine GQ.pass (s := 16) rfl rfl rfl ?_
                   refine GQ.pass (s := 16) rfl rfl rfl ?_
                   refine GQ.pass (s := 16) rfl rfl rfl ?_
                   refine GQ.pass (s := 16) rfl rfl rfl ?_
                   refine GQ.pass (s := 16) rfl rfl rfl ?_
                   refine GQ.step rfl (q_pure (p_pick_false rfl rfl)) ?_
                   refine GQ.step rfl (q_pure (p_move rfl)) ?_
                   refine GQ.pass (s := 23) rfl rfl rfl ?_
                   refine GQ.pass (s := 23) rfl rfl rfl ?_
                   refine GQ.pass (s := 23) rfl rfl rfl ?_
                   refine GQ.pass (s := 23) rfl rfl rfl ?_
                   refine GQ.pass (s := 23) rfl rfl rfl ?_
                   refine GQ.pass (s := 23) rfl rfl rfl ?_
                   refine GQ.pass (s := 23) rfl rfl rfl ?_
                   refine GQ.pass (s := 23) rfl rfl rfl ?_
                   refine GQ.step rfl (q_pure (p_pick_false rfl rfl)) ?_
                   refine GQ.step rfl (q_pure (p_move rfl)) ?_
                   refine GQ.pass (s := 33) rfl rfl rfl ?_
                   refine GQ.pass (s := 33) rfl rfl rfl ?_
                   refine GQ.pass (s := 33) rfl rfl rfl ?_
                   refine GQ.pass (s := 33) rfl rfl rfl ?_
                   refine GQ.pass (s := 33) rfl rfl rfl ?_
                   refine GQ.pass (s := 33) rfl rfl rfl ?_
                   refine GQ.pass (s := 33) rfl rfl rfl ?_
                   refine GQ.step rfl (q_pure (p_pick_false rfl rfl)) ?_
                   refine GQ.step rfl (q_pure (p_move rfl)) ?_
                   refine GQ.pass (s := 42) rfl rfl rfl ?_
                   refine GQ.pass (s := 42) rfl rfl rfl ?_
                   refine GQ.pass (s := 42) rfl rfl rfl ?_
                   refine GQ.step rfl (q_pure (p_pick_false rfl rfl)) ?_
                   refine GQ.step rfl (q_pure (p_move rfl)) ?_
                   refine GQ.pass (s := 47) rfl rfl rfl ?_
                   refine GQ.step rfl (q_pure (p_pick_false rfl rfl)) ?_
                   refine GQ.step rfl (q_pure (p_assign rfl)) ?_
                   refine GQ.nil (?_ : GC _ _ _ _)
                   refine GC.ret ?_
                   refine fun a w h => Fin.back (rs := [.tmp 6]) (vs := [_]) (is := []) (js := []) rfl ⟨rfl, trivial⟩ rfl rfl ?_ h
                   clear h
                   refine ⟨?_, rfl, rfl⟩
                   first | rfl | (show Value.bool _ = _; simp [sameG]))
            exact GAs.nil
          exact GAs.nil
        exact GAs.nil
      exact GAs.nil
    exact GAs.nil
  refine GAs.cons (i := 2) rfl rfl (t_mem rfl (m_loadN (i := 0) rfl rfl ag_24 (vs := [_, _]) sz_24 ⟨rfl, rfl, trivial⟩)) (by rintro a w h; exact h.mem (is := []) (js := [0, 1]) rfl rfl) ?_ ?_
  · refine GA.all (rs := [0]) (by kernel_rfl) (by simp) ?_
    refine GAs.cons (i := 0) rfl rfl (t_mem rfl (m_loadN (i := 1) rfl rfl ag_24 (vs := [_, _]) sz_24 ⟨rfl, rfl, trivial⟩)) (by rintro a w h; exact h.mem (is := []) (js := [0, 1]) rfl rfl) ?_ ?_
    · refine GA.all (rs := [1]) (by kernel_rfl) (by simp) ?_
      refine GAs.cons (i := 1) rfl rfl (t_call rfl fn_8 rfl (is := []) (js := [0]) rfl rfl (by exact cut_ct _ _ _ _ (by first | assumption | omega))) (by rintro a w ⟨_, _, _, ⟨A8, cp8, rfl, rfl, rfl⟩, h⟩; exact h.mem (is := []) (js := [1, 2]) rfl rfl) (GA.ret ?_) ?_
      · rintro _ _ _ ⟨A8, cp8, rfl, rfl, rfl⟩
        refine GA.all (rs := [3]) (by kernel_rfl) (by simp) ?_
        refine GAs.cons (i := 3) rfl rfl (t_call rfl fn_8 rfl (is := []) (js := [2]) rfl rfl (by exact cut_ct _ _ _ _ (by first | assumption | omega))) (by rintro a w ⟨_, _, _, ⟨A10, cp10, rfl, rfl, rfl⟩, h⟩; exact h.mem (is := []) (js := [2, 3]) rfl rfl) (GA.ret ?_) ?_
        · rintro _ _ _ ⟨A10, cp10, rfl, rfl, rfl⟩
          refine GA.all (rs := [4]) (by kernel_rfl) (by simp) ?_
          refine GAs.cons (i := 4) rfl rfl (t_storeN (i := 1) rfl rfl rfl sz_24 rfl rfl rfl) (by rintro a w h; exact h.mem (is := []) (js := [2, 3]) rfl rfl) ?_ ?_
          · refine GA.all (rs := [5]) (by kernel_rfl) (by simp) ?_
            refine GAs.cons (i := 5) rfl rfl (t_storeN (i := 0) rfl rfl rfl sz_24 rfl rfl rfl) (by rintro a w h; exact h.mem (is := []) (js := [2, 3]) rfl rfl) ?_ ?_
            · refine GA.done (by kernel_rfl) (?_ : GC _ _ _ _)
              refine GC.seq' ?_
              refine GC.regionQ wide_ (by kernel_rfl) ?_
              refine GQ.step rfl (q_mem (m_loadN (i := 1) rfl rfl ag_24 (vs := [_, _]) sz_24 ⟨rfl, rfl, trivial⟩)) ?_
              refine GQ.step rfl (q_call fn_22 rfl (js := [1]) rfl (by exact check_ct _ _ (l.take 100) _ q1)) ?_
              refine GQ.step rfl (q_mem (m_loadN (i := 1) rfl rfl ag_24 (vs := [_, _]) sz_24 ⟨rfl, rfl, trivial⟩)) ?_
              refine GQ.step rfl (q_call fn_14 rfl (js := [1]) rfl (by exact rcheck_ct _ _ (l.take 100) _ q1)) ?_
              refine GQ.step rfl (q_pure (p_eql rfl rfl)) ?_
              refine GQ.step rfl (q_pure (p_move rfl)) ?_
              refine GQ.split (i := 16) rfl (fun h1 => ?_) (fun h1 => ?_)
              · try simp only [decide_eq_true_eq, decide_eq_false_iff_not, Bool.not_eq_true', Bool.not_eq_false', Bool.not_true, Bool.not_false, Bool.not_not, ne_eq, Decidable.not_not, Int.not_lt, Int.not_le, gt_iff_lt, ge_iff_le, bool_true_eq_, bool_false_eq_] at h1
                first
                | (exfalso; first | omega | (simp at h1; done) | (simp [sameG] at h1; done))
                | (skip
                   refine GQ.stepG (s := 16) rfl rfl rfl (q_mem (m_loadN (i := 1) rfl rfl ag_24 (vs := [_, _]) sz_24 ⟨rfl, rfl, trivial⟩)) ?_
                   refine GQ.stepG (s := 16) rfl rfl rfl (q_call fn_23 rfl (js := []) rfl (by exact quorum_ct _ _ _ _ q1)) ?_
                   refine GQ.stepG (s := 16) rfl rfl rfl (q_mem (m_loadN (i := 1) rfl rfl ag_24 (vs := [_, _]) sz_24 ⟨rfl, rfl, trivial⟩)) ?_
                   refine GQ.stepG (s := 16) rfl rfl rfl (q_call fn_24 rfl (js := []) rfl (by exact rquorum_ct _ _ _ _ q1)) ?_
                   refine GQ.stepG (s := 16) rfl rfl rfl (q_pure (p_eql rfl rfl)) ?_
                   refine GQ.step rfl (q_pure (p_pick_true rfl rfl)) ?_
                   refine GQ.step rfl (q_pure (p_move rfl)) ?_
                   refine GQ.split (i := 23) rfl (fun h2 => ?_) (fun h2 => ?_)
                   · try simp only [decide_eq_true_eq, decide_eq_false_iff_not, Bool.not_eq_true', Bool.not_eq_false', Bool.not_true, Bool.not_false, Bool.not_not, ne_eq, Decidable.not_not, Int.not_lt, Int.not_le, gt_iff_lt, ge_iff_le, bool_true_eq_, bool_false_eq_] at h2
                     first
                     | (exfalso; first | omega | (simp at h2; done) | (simp [sameG] at h2; done))
                     | (skip
                        refine GQ.stepG (s := 23) rfl rfl rfl (q_mem (m_loadN (i := 1) rfl rfl ag_24 (vs := [_, _]) sz_24 ⟨rfl, rfl, trivial⟩)) ?_
                        refine GQ.stepG (s := 23) rfl rfl rfl (q_pure (p_move rfl)) ?_
                        refine GQ.stepG (s := 23) rfl rfl rfl (q_call fn_17 rfl (js := [1]) rfl (by exact has_ct _ _ (l.take 100) _ _ q1)) ?_
                        refine GQ.stepG (s := 23) rfl rfl rfl (q_pure (p_fieldAddr fo_24_1 rfl)) ?_
                        refine GQ.stepG (s := 23) rfl rfl rfl (q_mem (m_load (i := 1) rfl rfl ag_22 rfl)) ?_
                        refine GQ.stepG (s := 23) rfl rfl rfl (q_pure (p_move rfl)) ?_
                        refine GQ.stepG (s := 23) rfl rfl rfl (q_call fn_16 rfl (js := [1]) rfl (by exact in_ct _ (l.take 100) _ _ q1)) ?_
                        refine GQ.stepG (s := 23) rfl rfl rfl (q_pure (p_beql Try.underlying4 rfl rfl)) ?_
                        refine GQ.step rfl (q_pure (p_pick_true rfl rfl)) ?_
                        refine GQ.step rfl (q_pure (p_move rfl)) ?_
                        refine GQ.split (i := 33) rfl (fun h3 => ?_) (fun h3 => ?_)
                        · try simp only [decide_eq_true_eq, decide_eq_false_iff_not, Bool.not_eq_true', Bool.not_eq_false', Bool.not_true, Bool.not_false, Bool.not_not, ne_eq, Decidable.not_not, Int.not_lt, Int.not_le, gt_iff_lt, ge_iff_le, bool_true_eq_, bool_false_eq_] at h3
                          first
                          | (exfalso; first | omega | (simp at h3; done) | (simp [sameG] at h3; done))
                          | (skip
                             refine GQ.stepG (s := 33) rfl rfl rfl (q_mem (m_loadN (i := 1) rfl rfl ag_24 (vs := [_, _]) sz_24 ⟨rfl, rfl, trivial⟩)) ?_
                             refine GQ.stepG (s := 33) rfl rfl rfl (q_mem (m_loadN (i := 0) rfl rfl ag_24 (vs := [_, _]) sz_24 ⟨rfl, rfl, trivial⟩)) ?_
                             refine GQ.stepG (s := 33) rfl rfl rfl (q_call fn_25 rfl (js := [1, 0]) rfl (by exact gsame_ct _ _ (l.take 100) _ _ _ (m.take 100) _ q1)) ?_
                             refine GQ.stepG (s := 33) rfl rfl rfl (q_mem (m_loadN (i := 1) rfl rfl ag_24 (vs := [_, _]) sz_24 ⟨rfl, rfl, trivial⟩)) ?_
                             refine GQ.stepG (s := 33) rfl rfl rfl (q_mem (m_loadN (i := 0) rfl rfl ag_24 (vs := [_, _]) sz_24 ⟨rfl, rfl, trivial⟩)) ?_
                             refine GQ.stepG (s := 33) rfl rfl rfl (q_call fn_12 rfl (js := [1, 0]) rfl (by exact rgsame_ct _ _ (l.take 100) _ _ _ (m.take 100) _ q1)) ?_
                             refine GQ.stepG (s := 33) rfl rfl rfl (q_pure (p_beql Try.underlying4 rfl rfl)) ?_
                             refine GQ.step rfl (q_pure (p_pick_true rfl rfl)) ?_
                             refine GQ.step rfl (q_pure (p_move rfl)) ?_
                             refine GQ.split (i := 42) rfl (fun h4 => ?_) (fun h4 => ?_)
                             · try simp only [decide_eq_true_eq, decide_eq_false_iff_not, Bool.not_eq_true', Bool.not_eq_false', Bool.not_true, Bool.not_false, Bool.not_not, ne_eq, Decidable.not_not, Int.not_lt, Int.not_le, gt_iff_lt, ge_iff_le, bool_true_eq_, bool_false_eq_] at h4
                               first
                               | (exfalso; first | omega | (simp at h4; done) | (simp [sameG] at h4; done))
                               | (skip
                                  refine GQ.stepG (s := 42) rfl rfl rfl (q_mem (m_loadN (i := 1) rfl rfl ag_24 (vs := [_, _]) sz_24 ⟨rfl, rfl, trivial⟩)) ?_
                                  refine GQ.stepG (s := 42) rfl rfl rfl (q_mem (m_loadN (i := 1) rfl rfl ag_24 (vs := [_, _]) sz_24 ⟨rfl, rfl, trivial⟩)) ?_
                                  refine GQ.stepG (s := 42) rfl rfl rfl (q_call fn_25 rfl (js := [1, 1]) rfl (by exact gsame_ct _ _ (l.take 100) _ _ _ (l.take 100) _ q1)) ?_
                                  refine GQ.step rfl (q_pure (p_pick_true rfl rfl)) ?_
                                  refine GQ.step rfl (q_pure (p_move rfl)) ?_
                                  refine GQ.split (i := 47) rfl (fun h5 => ?_) (fun h5 => ?_)
                                  · try simp only [decide_eq_true_eq, decide_eq_false_iff_not, Bool.not_eq_true', Bool.not_eq_false', Bool.not_true, Bool.not_false, Bool.not_not, ne_eq, Decidable.not_not, Int.not_lt, Int.not_le, gt_iff_lt, ge_iff_le, bool_true_eq_, bool_false_eq_] at h5
                                    first
                                    | (exfalso; first | omega | (simp at h5; done) | (simp [sameG] at h5; done))
                                    | (skip
                                       refine GQ.stepG (s := 47) rfl rfl rfl (q_call fn_13 rfl (js := []) rfl (by exact awake_ct)) ?_
                                       refine GQ.step rfl (q_pure (p_pick_true rfl rfl)) ?_
                                       refine GQ.step rfl (q_pure (p_assign rfl)) ?_
                                       refine GQ.nil (?_ : GC _ _ _ _)
                                       refine GC.ret ?_
                                       refine fun a w h => Fin.back (rs := [.tmp 6]) (vs := [_]) (is := []) (js := []) rfl ⟨rfl, trivial⟩ rfl rfl ?_ h
                                       clear h
                                       refine ⟨?_, rfl, rfl⟩
                                       first | rfl | (show Value.bool _ = _; simp [sameG]))
                                  · try simp only [decide_eq_true_eq, decide_eq_false_iff_not, Bool.not_eq_true', Bool.not_eq_false', Bool.not_true, Bool.not_false, Bool.not_not, ne_eq, Decidable.not_not, Int.not_lt, Int.not_le, gt_iff_lt, ge_iff_le, bool_true_eq_, bool_false_eq_] at h5
                                    first
                                    | (exfalso; first | omega | (simp at h5; done) | (simp [sameG] at h5; done))
                                    | (skip
                                       refine GQ.pass (s := 47) rfl rfl rfl ?_
                                       refine GQ.step rfl (q_pure (p_pick_false rfl rfl)) ?_
                                       refine GQ.step rfl (q_pure (p_assign rfl)) ?_
                                       refine GQ.nil (?_ : GC _ _ _ _)
                                       refine GC.ret ?_
                                       refine fun a w h => Fin.back (rs := [.tmp 6]) (vs := [_]) (is := []) (js := []) rfl ⟨rfl, trivial⟩ rfl rfl ?_ h
                                       clear h
                                       refine ⟨?_, rfl, rfl⟩
                                       first | rfl | (show Value.bool _ = _; simp [sameG])))
                             · try simp only [decide_eq_true_eq, decide_eq_false_iff_not, Bool.not_eq_true', Bool.not_eq_false', Bool.not_true, Bool.not_false, Bool.not_not, ne_eq, Decidable.not_not, Int.not_lt, Int.not_le, gt_iff_lt, ge_iff_le, bool_true_eq_, bool_false_eq_] at h4
                               first
                               | (exfalso; first | omega | (simp at h4; done) | (simp [sameG] at h4; done))
                               | (skip
                                  refine GQ.pass (s := 42) rfl rfl rfl ?_
                                  refine GQ.pass (s := 42) rfl rfl rfl ?_
                                  refine GQ.pass (s := 42) rfl rfl rfl ?_
                                  refine GQ.step rfl (q_pure (p_pick_false rfl rfl)) ?_
                                  refine GQ.step rfl (q_pure (p_move rfl)) ?_
                                  refine GQ.pass (s := 47) rfl rfl rfl ?_
                                  refine GQ.step rfl (q_pure (p_pick_false rfl rfl)) ?_
                                  refine GQ.step rfl (q_pure (p_assign rfl)) ?_
                                  refine GQ.nil (?_ : GC _ _ _ _)
                                  refine GC.ret ?_
                                  refine fun a w h => Fin.back (rs := [.tmp 6]) (vs := [_]) (is := []) (js := []) rfl ⟨rfl, trivial⟩ rfl rfl ?_ h
                                  clear h
                                  refine ⟨?_, rfl, rfl⟩
                                  first | rfl | (show Value.bool _ = _; simp [sameG])))
                        · try simp only [decide_eq_true_eq, decide_eq_false_iff_not, Bool.not_eq_true', Bool.not_eq_false', Bool.not_true, Bool.not_false, Bool.not_not, ne_eq, Decidable.not_not, Int.not_lt, Int.not_le, gt_iff_lt, ge_iff_le, bool_true_eq_, bool_false_eq_] at h3
                          first
                          | (exfalso; first | omega | (simp at h3; done) | (simp [sameG] at h3; done))
                          | (skip
                             refine GQ.pass (s := 33) rfl rfl rfl ?_
                             refine GQ.pass (s := 33) rfl rfl rfl ?_
                             refine GQ.pass (s := 33) rfl rfl rfl ?_
                             refine GQ.pass (s := 33) rfl rfl rfl ?_
                             refine GQ.pass (s := 33) rfl rfl rfl ?_
                             refine GQ.pass (s := 33) rfl rfl rfl ?_
                             refine GQ.pass (s := 33) rfl rfl rfl ?_
                             refine GQ.step rfl (q_pure (p_pick_false rfl rfl)) ?_
                             refine GQ.step rfl (q_pure (p_move rfl)) ?_
                             refine GQ.pass (s := 42) rfl rfl rfl ?_
                             refine GQ.pass (s := 42) rfl rfl rfl ?_
                             refine GQ.pass (s := 42) rfl rfl rfl ?_
                             refine GQ.step rfl (q_pure (p_pick_false rfl rfl)) ?_
                             refine GQ.step rfl (q_pure (p_move rfl)) ?_
                             refine GQ.pass (s := 47) rfl rfl rfl ?_
                             refine GQ.step rfl (q_pure (p_pick_false rfl rfl)) ?_
                             refine GQ.step rfl (q_pure (p_assign rfl)) ?_
                             refine GQ.nil (?_ : GC _ _ _ _)
                             refine GC.ret ?_
                             refine fun a w h => Fin.back (rs := [.tmp 6]) (vs := [_]) (is := []) (js := []) rfl ⟨rfl, trivial⟩ rfl rfl ?_ h
                             clear h
                             refine ⟨?_, rfl, rfl⟩
                             first | rfl | (show Value.bool _ = _; simp [sameG])))
                   · try simp only [decide_eq_true_eq, decide_eq_false_iff_not, Bool.not_eq_true', Bool.not_eq_false', Bool.not_true, Bool.not_false, Bool.not_not, ne_eq, Decidable.not_not, Int.not_lt, Int.not_le, gt_iff_lt, ge_iff_le, bool_true_eq_, bool_false_eq_] at h2
                     first
                     | (exfalso; first | omega | (simp at h2; done) | (simp [sameG] at h2; done))
                     | (skip
                        refine GQ.pass (s := 23) rfl rfl rfl ?_
                        refine GQ.pass (s := 23) rfl rfl rfl ?_
                        refine GQ.pass (s := 23) rfl rfl rfl ?_
                        refine GQ.pass (s := 23) rfl rfl rfl ?_
                        refine GQ.pass (s := 23) rfl rfl rfl ?_
                        refine GQ.pass (s := 23) rfl rfl rfl ?_
                        refine GQ.pass (s := 23) rfl rfl rfl ?_
                        refine GQ.pass (s := 23) rfl rfl rfl ?_
                        refine GQ.step rfl (q_pure (p_pick_false rfl rfl)) ?_
                        refine GQ.step rfl (q_pure (p_move rfl)) ?_
                        refine GQ.pass (s := 33) rfl rfl rfl ?_
                        refine GQ.pass (s := 33) rfl rfl rfl ?_
                        refine GQ.pass (s := 33) rfl rfl rfl ?_
                        refine GQ.pass (s := 33) rfl rfl rfl ?_
                        refine GQ.pass (s := 33) rfl rfl rfl ?_
                        refine GQ.pass (s := 33) rfl rfl rfl ?_
                        refine GQ.pass (s := 33) rfl rfl rfl ?_
                        refine GQ.step rfl (q_pure (p_pick_false rfl rfl)) ?_
                        refine GQ.step rfl (q_pure (p_move rfl)) ?_
                        refine GQ.pass (s := 42) rfl rfl rfl ?_
                        refine GQ.pass (s := 42) rfl rfl rfl ?_
                        refine GQ.pass (s := 42) rfl rfl rfl ?_
                        refine GQ.step rfl (q_pure (p_pick_false rfl rfl)) ?_
                        refine GQ.step rfl (q_pure (p_move rfl)) ?_
                        refine GQ.pass (s := 47) rfl rfl rfl ?_
                        refine GQ.step rfl (q_pure (p_pick_false rfl rfl)) ?_
                        refine GQ.step rfl (q_pure (p_assign rfl)) ?_
                        refine GQ.nil (?_ : GC _ _ _ _)
                        refine GC.ret ?_
                        refine fun a w h => Fin.back (rs := [.tmp 6]) (vs := [_]) (is := []) (js := []) rfl ⟨rfl, trivial⟩ rfl rfl ?_ h
                        clear h
                        refine ⟨?_, rfl, rfl⟩
                        first | rfl | (show Value.bool _ = _; simp [sameG])))
              · try simp only [decide_eq_true_eq, decide_eq_false_iff_not, Bool.not_eq_true', Bool.not_eq_false', Bool.not_true, Bool.not_false, Bool.not_not, ne_eq, Decidable.not_not, Int.not_lt, Int.not_le, gt_iff_lt, ge_iff_le, bool_true_eq_, bool_false_eq_] at h1
                first
                | (exfalso; first | omega | (simp at h1; done) | (simp [sameG] at h1; done))
                | (skip
                   refine GQ.pass (s := 16) rfl rfl rfl ?_
                   refine GQ.pass (s := 16) rfl rfl rfl ?_
                   refine GQ.pass (s := 16) rfl rfl rfl ?_
                   refine GQ.pass (s := 16) rfl rfl rfl ?_
                   refine GQ.pass (s := 16) rfl rfl rfl ?_
                   refine GQ.step rfl (q_pure (p_pick_false rfl rfl)) ?_
                   refine GQ.step rfl (q_pure (p_move rfl)) ?_
                   refine GQ.pass (s := 23) rfl rfl rfl ?_
                   refine GQ.pass (s := 23) rfl rfl rfl ?_
                   refine GQ.pass (s := 23) rfl rfl rfl ?_
                   refine GQ.pass (s := 23) rfl rfl rfl ?_
                   refine GQ.pass (s := 23) rfl rfl rfl ?_
                   refine GQ.pass (s := 23) rfl rfl rfl ?_
                   refine GQ.pass (s := 23) rfl rfl rfl ?_
                   refine GQ.pass (s := 23) rfl rfl rfl ?_
                   refine GQ.step rfl (q_pure (p_pick_false rfl rfl)) ?_
                   refine GQ.step rfl (q_pure (p_move rfl)) ?_
                   refine GQ.pass (s := 33) rfl rfl rfl ?_
                   refine GQ.pass (s := 33) rfl rfl rfl ?_
                   refine GQ.pass (s := 33) rfl rfl rfl ?_
                   refine GQ.pass (s := 33) rfl rfl rfl ?_
                   refine GQ.pass (s := 33) rfl rfl rfl ?_
                   refine GQ.pass (s := 33) rfl rfl rfl ?_
                   refine GQ.pass (s := 33) rfl rfl rfl ?_
                   refine GQ.step rfl (q_pure (p_pick_false rfl rfl)) ?_
                   refine GQ.step rfl (q_pure (p_move rfl)) ?_
                   refine GQ.pass (s := 42) rfl rfl rfl ?_
                   refine GQ.pass (s := 42) rfl rfl rfl ?_
                   refine GQ.pass (s := 42) rfl rfl rfl ?_
                   refine GQ.step rfl (q_pure (p_pick_false rfl rfl)) ?_
                   refine GQ.step rfl (q_pure (p_move rfl)) ?_
                   refine GQ.pass (s := 47) rfl rfl rfl ?_
                   refine GQ.step rfl (q_pure (p_pick_false rfl rfl)) ?_
                   refine GQ.step rfl (q_pure (p_assign rfl)) ?_
                   refine GQ.nil (?_ : GC _ _ _ _)
                   refine GC.ret ?_
                   refine fun a w h => Fin.back (rs := [.tmp 6]) (vs := [_]) (is := []) (js := []) rfl ⟨rfl, trivial⟩ rfl rfl ?_ h
                   clear h
                   refine ⟨?_, rfl, rfl⟩
                   first | rfl | (show Value.bool _ = _; simp [sameG]))
            exact GAs.nil
          exact GAs.nil
        exact GAs.nil
      exact GAs.nil
    exact GAs.nil
  exact GAs.nil
theorem groupLeads_ct (e : Int) (A : Option Addr) (l : List Int) (cp : Nat) (view me : Int) (hl : l.length ≤ cp) :
    Ct Try.prog 5 [grpV e A l.length cp, .int .i64 view, .int .i64 me] [] [Pers.row kI A l] (fun u G Q => u = .bool true ∧ G = [] ∧ Q = []) := by
  have q1 : (l.take 100).length ≤ 1000000 := by simp; omega
  have q2 : (l.take 100).length ≤ 140737488355328 := by simp; omega
  have q3 := List.length_filter_le (fun x => !decide (x = me)) (l.take 100)
  refine Ct.intro Try.func5 rfl rfl rfl (fun c hc => ?_)
  refine GC.seq' ?_
  refine GC.region ?_
  refine GL.step rfl (t_box rfl rfl rfl) (GL.ex fun b_t3 => ?_)
  refine GL.pure rfl (p_assign rfl) ?_
  refine GL.nil (?_ : GC _ _ _ _)
  refine GC.seq' ?_
  refine GC.region ?_
  refine GL.step rfl (t_mem rfl (m_loadN (i := 0) rfl rfl ag_24 (vs := [_, _]) sz_24 ⟨rfl, rfl, trivial⟩)) ?_
  refine GL.step rfl (t_call rfl fn_8 rfl (is := []) (js := [0]) rfl rfl (by exact cut_ct _ _ _ _ (by first | assumption | omega))) (GL.ret ?_)
  rintro _ _ _ ⟨A12, cp12, rfl, rfl, rfl⟩
  refine GL.step rfl (t_storeN (i := 0) rfl rfl rfl sz_24 rfl rfl rfl) ?_
  refine GL.nil (?_ : GC _ _ _ _)
  refine GC.seq' ?_
  refine GC.region ?_
  refine GL.step rfl (t_mem rfl (m_loadN (i := 0) rfl rfl ag_24 (vs := [_, _]) sz_24 ⟨rfl, rfl, trivial⟩)) ?_
  refine GL.pure rfl (p_move rfl) ?_
  refine GL.step rfl (t_call rfl fn_15 rfl (is := []) (js := [0]) rfl rfl (by exact prim_ct _ _ (l.take 100) _ _ q2)) (GL.ret ?_)
  rintro _ _ _ ⟨rfl, rfl, rfl⟩
  refine GL.pure rfl (p_move rfl) ?_
  refine GL.pure rfl (p_extract rfl rfl) ?_
  refine GL.pure rfl (p_extract rfl rfl) ?_
  refine GL.pure rfl (p_assign rfl) ?_
  refine GL.pure rfl (p_assign rfl) ?_
  refine GL.nil (?_ : GC _ _ _ _)
  refine GC.seq' ?_
  refine GC.region ?_
  refine GL.step rfl (t_mem rfl (m_loadN (i := 0) rfl rfl ag_24 (vs := [_, _]) sz_24 ⟨rfl, rfl, trivial⟩)) ?_
  refine GL.pure rfl (p_move rfl) ?_
  refine GL.step rfl (t_call rfl fn_18 rfl (is := []) (js := [0]) rfl rfl (by exact rprim_ct _ _ (l.take 100) _ _ q2)) (GL.ret ?_)
  rintro _ _ _ ⟨rfl, rfl, rfl⟩
  refine GL.pure rfl (p_move rfl) ?_
  refine GL.pure rfl (p_extract rfl rfl) ?_
  refine GL.pure rfl (p_extract rfl rfl) ?_
  refine GL.pure rfl (p_assign rfl) ?_
  refine GL.pure rfl (p_assign rfl) ?_
  refine GL.nil (?_ : GC _ _ _ _)
  refine GC.seq' ?_
  refine GC.regionC (m := 21) (is := [0]) (js := [0, 1]) wide_ rfl rfl rfl ?_
  refine GA.take 0 rfl (by kernel_rfl) (by kernel_rfl) (by kernel_rfl) rfl (fun a w h => h.mem (is := [0]) (js := [0, 1]) rfl rfl) (i_pure (p_move rfl)) ?_
  refine GA.take 1 rfl (by kernel_rfl) (by kernel_rfl) (by kernel_rfl) rfl (fun a w h => h.mem (is := [0]) (js := [0, 1]) rfl rfl) (i_pure (p_move rfl)) ?_
  refine GA.take 2 rfl (by kernel_rfl) (by kernel_rfl) (by kernel_rfl) rfl (fun a w h => h.mem (is := [0]) (js := [0, 1]) rfl rfl) (i_pure (p_eql rfl rfl)) ?_
  refine GA.take 3 rfl (by kernel_rfl) (by kernel_rfl) (by kernel_rfl) rfl (fun a w h => h.mem (is := [0]) (js := [0, 1]) rfl rfl) (i_pure (p_move rfl)) ?_
  refine GA.split (i := 28) rfl (fun h1 => ?_) (fun h1 => ?_)
  · try simp only [decide_eq_true_eq, decide_eq_false_iff_not, Bool.not_eq_true', Bool.not_eq_false', Bool.not_true, Bool.not_false, Bool.not_not, ne_eq, Decidable.not_not, Int.not_lt, Int.not_le, gt_iff_lt, ge_iff_le, bool_true_eq_, bool_false_eq_] at h1
    first
    | (exfalso; first | omega | (simp at h1; done))
    | (skip
       refine GA.takeG (s := 28) 4 rfl rfl rfl (by kernel_rfl) (by kernel_rfl) (by kernel_rfl) rfl (fun a w h => h.mem (is := [0]) (js := [0, 1]) rfl rfl) (i_pure (p_move rfl)) ?_
       refine GA.takeG (s := 28) 5 rfl rfl rfl (by kernel_rfl) (by kernel_rfl) (by kernel_rfl) rfl (fun a w h => h.mem (is := [0]) (js := [0, 1]) rfl rfl) (i_pure (p_move rfl)) ?_
       refine GA.takeG (s := 28) 6 rfl rfl rfl (by kernel_rfl) (by kernel_rfl) (by kernel_rfl) rfl (fun a w h => h.mem (is := [0]) (js := [0, 1]) rfl rfl) (i_pure (p_eql rfl rfl)) ?_
       refine GA.take 7 rfl (by kernel_rfl) (by kernel_rfl) (by kernel_rfl) rfl (fun a w h => h.mem (is := [0]) (js := [0, 1]) rfl rfl) (i_pure (p_pick_true rfl rfl)) ?_
       refine GA.take 8 rfl (by kernel_rfl) (by kernel_rfl) (by kernel_rfl) rfl (fun a w h => h.mem (is := [0]) (js := [0, 1]) rfl rfl) (i_pure (p_move rfl)) ?_
       refine GA.split (i := 33) rfl (fun h2 => ?_) (fun h2 => ?_)
       · try simp only [decide_eq_true_eq, decide_eq_false_iff_not, Bool.not_eq_true', Bool.not_eq_false', Bool.not_true, Bool.not_false, Bool.not_not, ne_eq, Decidable.not_not, Int.not_lt, Int.not_le, gt_iff_lt, ge_iff_le, bool_true_eq_, bool_false_eq_] at h2
         first
         | (exfalso; first | omega | (simp at h2; done))
         | (skip
            refine GA.takeG (s := 33) 9 rfl rfl rfl (by kernel_rfl) (by kernel_rfl) (by kernel_rfl) rfl (fun a w h => h.mem (is := [0]) (js := [0, 1]) rfl rfl) (i_mem (m_loadN (i := 0) rfl rfl ag_24 (vs := [_, _]) sz_24 ⟨rfl, rfl, trivial⟩)) ?_
            refine GA.takeG (s := 33) 10 rfl rfl rfl (by kernel_rfl) (by kernel_rfl) (by kernel_rfl) rfl (fun a w h => h.mem (is := [0]) (js := [0, 1]) rfl rfl) (i_pure (p_move rfl)) ?_
            refine GA.takeG (s := 33) 12 rfl rfl rfl (by kernel_rfl) (by kernel_rfl) (by kernel_rfl) rfl (fun a w h => h.mem (is := [0]) (js := [0, 1]) rfl rfl) (i_mem (m_loadN (i := 0) rfl rfl ag_24 (vs := [_, _]) sz_24 ⟨rfl, rfl, trivial⟩)) ?_
            refine GA.takeG (s := 33) 13 rfl rfl rfl (by kernel_rfl) (by kernel_rfl) (by kernel_rfl) rfl (fun a w h => h.mem (is := [0]) (js := [0, 1]) rfl rfl) (i_pure (p_move rfl)) ?_
            refine GA.all (rs := [11]) (by kernel_rfl) (by simp) ?_
            refine GAs.consG (i := 11) (s := 33) rfl rfl rfl rfl (t_call rfl fn_20 rfl (is := []) (js := [0]) rfl rfl (by exact others_ct _ _ (l.take 100) _ _ q1)) (by rintro a w ⟨_, _, _, ⟨A36, cp36, l36, k36, rfl, rfl, rfl⟩, h⟩; exact h.mem (is := [1]) (js := [0, 1]) rfl rfl) (GA.ret ?_) ?_
            · rintro _ _ _ ⟨A36, cp36, l36, k36, rfl, rfl, rfl⟩
              refine GA.all (rs := [14]) (by kernel_rfl) (by simp) ?_
              refine GAs.consG (i := 14) (s := 33) rfl rfl rfl rfl (t_call rfl fn_21 rfl (is := []) (js := [0]) rfl rfl (by exact rothers_ct _ _ (l.take 100) _ _ q1)) (by rintro a w ⟨_, _, _, ⟨A39, cp39, l39, k39, rfl, rfl, rfl⟩, h⟩; exact h.mem (is := [2]) (js := [0, 1]) rfl rfl) (GA.ret ?_) ?_
              · rintro _ _ _ ⟨A39, cp39, l39, k39, rfl, rfl, rfl⟩
                refine GA.freezeI (i := 1) rfl ?_
                refine GA.freezeI (i := 0) rfl ?_
                refine GA.all (rs := [15]) (by kernel_rfl) (by simp) ?_
                refine GAs.consG (i := 15) (s := 33) rfl rfl rfl rfl (t_call rfl fn_19 rfl (is := []) (js := [1, 0]) rfl rfl (by exact lsame_ct _ ((l.take 100).filter fun x => !decide (x = me)) _ _ ((l.take 100).filter fun x => !decide (x = me)) _ (by omega))) (by rintro a w ⟨_, _, _, ⟨rfl, rfl, rfl⟩, h⟩; exact h.mem (is := [0]) (js := [2, 3]) rfl rfl) (GA.ret ?_) ?_
                · rintro _ _ _ ⟨rfl, rfl, rfl⟩
                  refine GA.take 16 rfl (by kernel_rfl) (by kernel_rfl) (by kernel_rfl) rfl (fun a w h => h.mem (is := [0]) (js := [2, 3]) rfl rfl) (i_pure (p_pick_true rfl rfl)) ?_
                  refine GA.take 17 rfl (by kernel_rfl) (by kernel_rfl) (by kernel_rfl) rfl (fun a w h => h.mem (is := [0]) (js := [2, 3]) rfl rfl) (i_pure (p_move rfl)) ?_
                  refine GA.split (i := 42) rfl (fun h3 => ?_) (fun h3 => ?_)
                  · try simp only [decide_eq_true_eq, decide_eq_false_iff_not, Bool.not_eq_true', Bool.not_eq_false', Bool.not_true, Bool.not_false, Bool.not_not, ne_eq, Decidable.not_not, Int.not_lt, Int.not_le, gt_iff_lt, ge_iff_le, bool_true_eq_, bool_false_eq_] at h3
                    first
                    | (exfalso; first | omega | (simp at h3; done))
                    | (skip
                       refine GA.all (rs := [18]) (by kernel_rfl) (by simp) ?_
                       refine GAs.consG (i := 18) (s := 42) rfl rfl rfl rfl (t_call rfl fn_13 rfl (is := []) (js := []) rfl rfl (by exact awake_ct)) (by rintro a w ⟨_, _, _, ⟨rfl, rfl, rfl⟩, h⟩; exact h.mem (is := [0]) (js := [2, 3]) rfl rfl) (GA.ret ?_) ?_
                       · rintro _ _ _ ⟨rfl, rfl, rfl⟩
                         refine GA.take 19 rfl (by kernel_rfl) (by kernel_rfl) (by kernel_rfl) rfl (fun a w h => h.mem (is := [0]) (js := [2, 3]) rfl rfl) (i_pure (p_pick_true rfl rfl)) ?_
                         refine GA.take 20 rfl (by kernel_rfl) (by kernel_rfl) (by kernel_rfl) rfl (fun a w h => h.mem (is := [0]) (js := [2, 3]) rfl rfl) (i_pure (p_assign rfl)) ?_
                         refine GA.done (by kernel_rfl) (?_ : GC _ _ _ _)
                         refine GC.ret ?_
                         refine fun a w h => Fin.back (rs := [.tmp 6]) (vs := [_]) (is := []) (js := []) rfl ⟨rfl, trivial⟩ rfl rfl ?_ h
                         clear h
                         refine ⟨?_, rfl, rfl⟩
                         first | rfl | (show Value.bool _ = _; simp)
                       exact GAs.nil)
                  · try simp only [decide_eq_true_eq, decide_eq_false_iff_not, Bool.not_eq_true', Bool.not_eq_false', Bool.not_true, Bool.not_false, Bool.not_not, ne_eq, Decidable.not_not, Int.not_lt, Int.not_le, gt_iff_lt, ge_iff_le, bool_true_eq_, bool_false_eq_] at h3
                    first
                    | (exfalso; first | omega | (simp at h3; done))
                    | (skip
                       refine GA.takeX (s := 42) 18 rfl rfl rfl (by kernel_rfl) (by kernel_rfl) (by kernel_rfl) rfl (fun a w h => h.mem (is := [0]) (js := [2, 3]) rfl rfl) ?_
                       refine GA.take 19 rfl (by kernel_rfl) (by kernel_rfl) (by kernel_rfl) rfl (fun a w h => h.mem (is := [0]) (js := [2, 3]) rfl rfl) (i_pure (p_pick_false rfl rfl)) ?_
                       refine GA.take 20 rfl (by kernel_rfl) (by kernel_rfl) (by kernel_rfl) rfl (fun a w h => h.mem (is := [0]) (js := [2, 3]) rfl rfl) (i_pure (p_assign rfl)) ?_
                       refine GA.done (by kernel_rfl) (?_ : GC _ _ _ _)
                       refine GC.ret ?_
                       refine fun a w h => Fin.back (rs := [.tmp 6]) (vs := [_]) (is := []) (js := []) rfl ⟨rfl, trivial⟩ rfl rfl ?_ h
                       clear h
                       refine ⟨?_, rfl, rfl⟩
                       first | rfl | (show Value.bool _ = _; simp))
                exact GAs.nil
              exact GAs.nil
            exact GAs.nil)
       · try simp only [decide_eq_true_eq, decide_eq_false_iff_not, Bool.not_eq_true', Bool.not_eq_false', Bool.not_true, Bool.not_false, Bool.not_not, ne_eq, Decidable.not_not, Int.not_lt, Int.not_le, gt_iff_lt, ge_iff_le, bool_true_eq_, bool_false_eq_] at h2
         first
         | (exfalso; first | omega | (simp at h2; done))
         | (skip
            refine GA.takeX (s := 33) 9 rfl rfl rfl (by kernel_rfl) (by kernel_rfl) (by kernel_rfl) rfl (fun a w h => h.mem (is := [0]) (js := [0, 1]) rfl rfl) ?_
            refine GA.takeX (s := 33) 10 rfl rfl rfl (by kernel_rfl) (by kernel_rfl) (by kernel_rfl) rfl (fun a w h => h.mem (is := [0]) (js := [0, 1]) rfl rfl) ?_
            refine GA.takeX (s := 33) 11 rfl rfl rfl (by kernel_rfl) (by kernel_rfl) (by kernel_rfl) rfl (fun a w h => h.mem (is := [0]) (js := [0, 1]) rfl rfl) ?_
            refine GA.takeX (s := 33) 12 rfl rfl rfl (by kernel_rfl) (by kernel_rfl) (by kernel_rfl) rfl (fun a w h => h.mem (is := [0]) (js := [0, 1]) rfl rfl) ?_
            refine GA.takeX (s := 33) 13 rfl rfl rfl (by kernel_rfl) (by kernel_rfl) (by kernel_rfl) rfl (fun a w h => h.mem (is := [0]) (js := [0, 1]) rfl rfl) ?_
            refine GA.takeX (s := 33) 14 rfl rfl rfl (by kernel_rfl) (by kernel_rfl) (by kernel_rfl) rfl (fun a w h => h.mem (is := [0]) (js := [0, 1]) rfl rfl) ?_
            refine GA.takeX (s := 33) 15 rfl rfl rfl (by kernel_rfl) (by kernel_rfl) (by kernel_rfl) rfl (fun a w h => h.mem (is := [0]) (js := [0, 1]) rfl rfl) ?_
            refine GA.take 16 rfl (by kernel_rfl) (by kernel_rfl) (by kernel_rfl) rfl (fun a w h => h.mem (is := [0]) (js := [0, 1]) rfl rfl) (i_pure (p_pick_false rfl rfl)) ?_
            refine GA.take 17 rfl (by kernel_rfl) (by kernel_rfl) (by kernel_rfl) rfl (fun a w h => h.mem (is := [0]) (js := [0, 1]) rfl rfl) (i_pure (p_move rfl)) ?_
            refine GA.takeX (s := 42) 18 rfl rfl rfl (by kernel_rfl) (by kernel_rfl) (by kernel_rfl) rfl (fun a w h => h.mem (is := [0]) (js := [0, 1]) rfl rfl) ?_
            refine GA.take 19 rfl (by kernel_rfl) (by kernel_rfl) (by kernel_rfl) rfl (fun a w h => h.mem (is := [0]) (js := [0, 1]) rfl rfl) (i_pure (p_pick_false rfl rfl)) ?_
            refine GA.take 20 rfl (by kernel_rfl) (by kernel_rfl) (by kernel_rfl) rfl (fun a w h => h.mem (is := [0]) (js := [0, 1]) rfl rfl) (i_pure (p_assign rfl)) ?_
            refine GA.done (by kernel_rfl) (?_ : GC _ _ _ _)
            refine GC.ret ?_
            refine fun a w h => Fin.back (rs := [.tmp 6]) (vs := [_]) (is := []) (js := []) rfl ⟨rfl, trivial⟩ rfl rfl ?_ h
            clear h
            refine ⟨?_, rfl, rfl⟩
            first | rfl | (show Value.bool _ = _; simp)))
  · try simp only [decide_eq_true_eq, decide_eq_false_iff_not, Bool.not_eq_true', Bool.not_eq_false', Bool.not_true, Bool.not_false, Bool.not_not, ne_eq, Decidable.not_not, Int.not_lt, Int.not_le, gt_iff_lt, ge_iff_le, bool_true_eq_, bool_false_eq_] at h1
    first
    | (exfalso; first | omega | (simp at h1; done))
    | (skip
       refine GA.takeX (s := 28) 4 rfl rfl rfl (by kernel_rfl) (by kernel_rfl) (by kernel_rfl) rfl (fun a w h => h.mem (is := [0]) (js := [0, 1]) rfl rfl) ?_
       refine GA.takeX (s := 28) 5 rfl rfl rfl (by kernel_rfl) (by kernel_rfl) (by kernel_rfl) rfl (fun a w h => h.mem (is := [0]) (js := [0, 1]) rfl rfl) ?_
       refine GA.takeX (s := 28) 6 rfl rfl rfl (by kernel_rfl) (by kernel_rfl) (by kernel_rfl) rfl (fun a w h => h.mem (is := [0]) (js := [0, 1]) rfl rfl) ?_
       refine GA.take 7 rfl (by kernel_rfl) (by kernel_rfl) (by kernel_rfl) rfl (fun a w h => h.mem (is := [0]) (js := [0, 1]) rfl rfl) (i_pure (p_pick_false rfl rfl)) ?_
       refine GA.take 8 rfl (by kernel_rfl) (by kernel_rfl) (by kernel_rfl) rfl (fun a w h => h.mem (is := [0]) (js := [0, 1]) rfl rfl) (i_pure (p_move rfl)) ?_
       refine GA.takeX (s := 33) 9 rfl rfl rfl (by kernel_rfl) (by kernel_rfl) (by kernel_rfl) rfl (fun a w h => h.mem (is := [0]) (js := [0, 1]) rfl rfl) ?_
       refine GA.takeX (s := 33) 10 rfl rfl rfl (by kernel_rfl) (by kernel_rfl) (by kernel_rfl) rfl (fun a w h => h.mem (is := [0]) (js := [0, 1]) rfl rfl) ?_
       refine GA.takeX (s := 33) 11 rfl rfl rfl (by kernel_rfl) (by kernel_rfl) (by kernel_rfl) rfl (fun a w h => h.mem (is := [0]) (js := [0, 1]) rfl rfl) ?_
       refine GA.takeX (s := 33) 12 rfl rfl rfl (by kernel_rfl) (by kernel_rfl) (by kernel_rfl) rfl (fun a w h => h.mem (is := [0]) (js := [0, 1]) rfl rfl) ?_
       refine GA.takeX (s := 33) 13 rfl rfl rfl (by kernel_rfl) (by kernel_rfl) (by kernel_rfl) rfl (fun a w h => h.mem (is := [0]) (js := [0, 1]) rfl rfl) ?_
       refine GA.takeX (s := 33) 14 rfl rfl rfl (by kernel_rfl) (by kernel_rfl) (by kernel_rfl) rfl (fun a w h => h.mem (is := [0]) (js := [0, 1]) rfl rfl) ?_
       refine GA.takeX (s := 33) 15 rfl rfl rfl (by kernel_rfl) (by kernel_rfl) (by kernel_rfl) rfl (fun a w h => h.mem (is := [0]) (js := [0, 1]) rfl rfl) ?_
       refine GA.take 16 rfl (by kernel_rfl) (by kernel_rfl) (by kernel_rfl) rfl (fun a w h => h.mem (is := [0]) (js := [0, 1]) rfl rfl) (i_pure (p_pick_false rfl rfl)) ?_
       refine GA.take 17 rfl (by kernel_rfl) (by kernel_rfl) (by kernel_rfl) rfl (fun a w h => h.mem (is := [0]) (js := [0, 1]) rfl rfl) (i_pure (p_move rfl)) ?_
       refine GA.takeX (s := 42) 18 rfl rfl rfl (by kernel_rfl) (by kernel_rfl) (by kernel_rfl) rfl (fun a w h => h.mem (is := [0]) (js := [0, 1]) rfl rfl) ?_
       refine GA.take 19 rfl (by kernel_rfl) (by kernel_rfl) (by kernel_rfl) rfl (fun a w h => h.mem (is := [0]) (js := [0, 1]) rfl rfl) (i_pure (p_pick_false rfl rfl)) ?_
       refine GA.take 20 rfl (by kernel_rfl) (by kernel_rfl) (by kernel_rfl) rfl (fun a w h => h.mem (is := [0]) (js := [0, 1]) rfl rfl) (i_pure (p_assign rfl)) ?_
       refine GA.done (by kernel_rfl) (?_ : GC _ _ _ _)
       refine GC.ret ?_
       refine fun a w h => Fin.back (rs := [.tmp 6]) (vs := [_]) (is := []) (js := []) rfl ⟨rfl, trivial⟩ rfl rfl ?_ h
       clear h
       refine ⟨?_, rfl, rfl⟩
       first | rfl | (show Value.bool _ = _; simp))
theorem groupNexts_ct (e : Int) (A : Option Addr) (l : List Int) (cp : Nat) (B : Option Addr) (add : List Int) (cq : Nat) (D : Option Addr) (drop : List Int) (cr : Nat) (hl : l.length ≤ cp) (ha : add.length ≤ cq) (hd : drop.length ≤ cr) :
    Ct Try.prog 3 [grpV e A l.length cp, .slice B add.length cq, .slice D drop.length cr] [] [Pers.row kI A l, Pers.row kI B add, Pers.row kI D drop] (fun u G Q => u = .bool true ∧ G = [] ∧ Q = []) := by
  have q1 : (l.take 100).length ≤ 1000000 := by simp; omega
  have q2 : (add.take 100).length ≤ 1000000 := by simp; omega
  have q3 : (drop.take 100).length ≤ 1000000 := by simp; omega
  have he := next_eq e (l.take 100) (add.take 100) (drop.take 100)
  have hlen : (nextF e (l.take 100) (add.take 100) (drop.take 100)).2.1.length ≤ 140737488355328 := by
    rw [he]; unfold nextR
    have := outR_le (l.take 100) (add.take 100) (drop.take 100) 64
    split
    · split
      · simp
      · split
        · simp
        · split <;> simp <;> omega
    · simp
  refine Ct.intro Try.func3 rfl rfl rfl (fun c hc => ?_)
  refine GC.seq' ?_
  refine GC.region ?_
  refine GL.step rfl (t_box rfl rfl rfl) (GL.ex fun b_t3 => ?_)
  refine GL.pure rfl (p_assign rfl) ?_
  refine GL.nil (?_ : GC _ _ _ _)
  refine GC.seq' ?_
  refine GC.region ?_
  refine GL.step rfl (t_mem rfl (m_loadN (i := 0) rfl rfl ag_24 (vs := [_, _]) sz_24 ⟨rfl, rfl, trivial⟩)) ?_
  refine GL.step rfl (t_call rfl fn_8 rfl (is := []) (js := [0]) rfl rfl (by exact cut_ct _ _ _ _ (by first | assumption | omega))) (GL.ret ?_)
  rintro _ _ _ ⟨A12, cp12, rfl, rfl, rfl⟩
  refine GL.pure rfl (p_move rfl) ?_
  refine GL.step rfl (t_call rfl fn_9 rfl (is := []) (js := [2]) rfl rfl (by exact few_ct _ _ _ (by first | assumption | omega))) (GL.ret ?_)
  rintro _ _ _ ⟨A14, cp14, rfl, rfl, rfl⟩
  refine GL.pure rfl (p_move rfl) ?_
  refine GL.step rfl (t_call rfl fn_9 rfl (is := []) (js := [4]) rfl rfl (by exact few_ct _ _ _ (by first | assumption | omega))) (GL.ret ?_)
  rintro _ _ _ ⟨A16, cp16, rfl, rfl, rfl⟩
  refine GL.step rfl (t_storeN (i := 0) rfl rfl rfl sz_24 rfl rfl rfl) ?_
  refine GL.pure rfl (p_assign rfl) ?_
  refine GL.pure rfl (p_assign rfl) ?_
  refine GL.nil (?_ : GC _ _ _ _)
  refine GC.seq' ?_
  refine GC.region ?_
  refine GL.step rfl (t_mem rfl (m_loadN (i := 0) rfl rfl ag_24 (vs := [_, _]) sz_24 ⟨rfl, rfl, trivial⟩)) ?_
  refine GL.pure rfl (p_move rfl) ?_
  refine GL.pure rfl (p_move rfl) ?_
  refine GL.step rfl (t_call rfl fn_10 rfl (is := []) (js := [2, 1, 0]) rfl rfl (by exact next_ct _ _ (l.take 100) _ _ (add.take 100) _ _ (drop.take 100) _ q1 q2 q3)) (GL.ret ?_)
  rintro _ _ _ ⟨A21, cp21, rfl, rfl, rfl⟩
  refine GL.pure rfl (p_move rfl) ?_
  refine GL.pure rfl (p_extract rfl rfl) ?_
  refine GL.pure rfl (p_extract rfl rfl) ?_
  refine GL.step rfl (t_alloc rfl ze_24) (GL.ex fun b_t7 => ?_)
  refine GL.step rfl (t_storeN (i := 0) rfl rfl rfl sz_24 rfl rfl rfl) ?_
  refine GL.pure rfl (p_assign rfl) ?_
  refine GL.nil (?_ : GC _ _ _ _)
  refine GC.seq' ?_
  refine GC.region ?_
  refine GL.step rfl (t_mem rfl (m_loadN (i := 1) rfl rfl ag_24 (vs := [_, _]) sz_24 ⟨rfl, rfl, trivial⟩)) ?_
  refine GL.pure rfl (p_move rfl) ?_
  refine GL.pure rfl (p_move rfl) ?_
  refine GL.step rfl (t_call rfl fn_11 rfl (is := []) (js := [3, 2, 1]) rfl rfl (by exact rnext_ct _ _ (l.take 100) _ _ (add.take 100) _ _ (drop.take 100) _ q1 q2 q3)) (GL.ret ?_)
  rintro _ _ _ ⟨A28, cp28, rfl, rfl, rfl⟩
  refine GL.pure rfl (p_move rfl) ?_
  refine GL.pure rfl (p_extract rfl rfl) ?_
  refine GL.pure rfl (p_extract rfl rfl) ?_
  refine GL.step rfl (t_alloc rfl ze_24) (GL.ex fun b_t9 => ?_)
  refine GL.step rfl (t_storeN (i := 0) rfl rfl rfl sz_24 rfl rfl rfl) ?_
  refine GL.pure rfl (p_assign rfl) ?_
  refine GL.nil (?_ : GC _ _ _ _)
  refine GC.seq' ?_
  refine GC.region ?_
  refine GL.step rfl (t_mem rfl (m_loadN (i := 1) rfl rfl ag_24 (vs := [_, _]) sz_24 ⟨rfl, rfl, trivial⟩)) ?_
  refine GL.step rfl (t_mem rfl (m_loadN (i := 0) rfl rfl ag_24 (vs := [_, _]) sz_24 ⟨rfl, rfl, trivial⟩)) ?_
  refine GL.step rfl (t_call rfl fn_12 rfl (is := []) (js := [1, 0]) rfl rfl (by exact rgsame_ct _ _ _ _ _ _ _ _ hlen)) (GL.ret ?_)
  rintro _ _ _ ⟨rfl, rfl, rfl⟩
  refine GL.pure rfl (p_move rfl) ?_
  refine GL.split (i := 34) rfl (fun h1 => ?_) (fun h1 => ?_)
  · try simp only [decide_eq_true_eq, decide_eq_false_iff_not, Bool.not_eq_true', Bool.not_eq_false', Bool.not_true, Bool.not_false, Bool.not_not, ne_eq, Decidable.not_not, Int.not_lt, Int.not_le, gt_iff_lt, ge_iff_le, bool_true_eq_, bool_false_eq_] at h1
    first
    | (exfalso; first | omega | (simp [he, sameG] at h1; done))
    | (skip
       refine GL.pureG (s := 34) rfl rfl rfl (p_move rfl) ?_
       refine GL.pureG (s := 34) rfl rfl rfl (p_move rfl) ?_
       refine GL.pureG (s := 34) rfl rfl rfl (p_eql rfl rfl) ?_
       refine GL.pure rfl (p_pick_true rfl rfl) ?_
       refine GL.pure rfl (p_move rfl) ?_
       refine GL.split (i := 39) rfl (fun h2 => ?_) (fun h2 => ?_)
       · try simp only [decide_eq_true_eq, decide_eq_false_iff_not, Bool.not_eq_true', Bool.not_eq_false', Bool.not_true, Bool.not_false, Bool.not_not, ne_eq, Decidable.not_not, Int.not_lt, Int.not_le, gt_iff_lt, ge_iff_le, bool_true_eq_, bool_false_eq_] at h2
         first
         | (exfalso; first | omega | (simp [he, sameG] at h2; done))
         | (skip
            refine GL.stepG rfl (s := 39) rfl rfl (t_call rfl fn_13 rfl (is := []) (js := []) rfl rfl (by exact awake_ct)) (GL.ret ?_)
            rintro _ _ _ ⟨rfl, rfl, rfl⟩
            refine GL.pure rfl (p_pick_true rfl rfl) ?_
            refine GL.pure rfl (p_assign rfl) ?_
            refine GL.nil (?_ : GC _ _ _ _)
            refine GC.ret ?_
            refine fun a w h => Fin.back (rs := [.tmp 6]) (vs := [_]) (is := []) (js := []) rfl ⟨rfl, trivial⟩ rfl rfl ?_ h
            clear h
            refine ⟨?_, rfl, rfl⟩
            first | rfl | (show Value.bool _ = _; simp [he, sameG]))
       · try simp only [decide_eq_true_eq, decide_eq_false_iff_not, Bool.not_eq_true', Bool.not_eq_false', Bool.not_true, Bool.not_false, Bool.not_not, ne_eq, Decidable.not_not, Int.not_lt, Int.not_le, gt_iff_lt, ge_iff_le, bool_true_eq_, bool_false_eq_] at h2
         first
         | (exfalso; first | omega | (simp [he, sameG] at h2; done))
         | (skip
            refine GL.pass (s := 39) rfl rfl rfl ?_
            refine GL.pure rfl (p_pick_false rfl rfl) ?_
            refine GL.pure rfl (p_assign rfl) ?_
            refine GL.nil (?_ : GC _ _ _ _)
            refine GC.ret ?_
            refine fun a w h => Fin.back (rs := [.tmp 6]) (vs := [_]) (is := []) (js := []) rfl ⟨rfl, trivial⟩ rfl rfl ?_ h
            clear h
            refine ⟨?_, rfl, rfl⟩
            first | rfl | (show Value.bool _ = _; simp [he, sameG])))
  · try simp only [decide_eq_true_eq, decide_eq_false_iff_not, Bool.not_eq_true', Bool.not_eq_false', Bool.not_true, Bool.not_false, Bool.not_not, ne_eq, Decidable.not_not, Int.not_lt, Int.not_le, gt_iff_lt, ge_iff_le, bool_true_eq_, bool_false_eq_] at h1
    first
    | (exfalso; first | omega | (simp [he, sameG] at h1; done))
    | (skip
       refine GL.pass (s := 34) rfl rfl rfl ?_
       refine GL.pass (s := 34) rfl rfl rfl ?_
       refine GL.pass (s := 34) rfl rfl rfl ?_
       refine GL.pure rfl (p_pick_false rfl rfl) ?_
       refine GL.pure rfl (p_move rfl) ?_
       refine GL.pass (s := 39) rfl rfl rfl ?_
       refine GL.pure rfl (p_pick_false rfl rfl) ?_
       refine GL.pure rfl (p_assign rfl) ?_
       refine GL.nil (?_ : GC _ _ _ _)
       refine GC.ret ?_
       refine fun a w h => Fin.back (rs := [.tmp 6]) (vs := [_]) (is := []) (js := []) rfl ⟨rfl, trivial⟩ rfl rfl ?_ h
       clear h
       refine ⟨?_, rfl, rfl⟩
       first | rfl | (show Value.bool _ = _; simp [he, sameG]))
end Go.Proofs.Ytoofbjclockcdaa
