/- GROUPS: contracts of the small functions of both. -/
import Derived.Test.YtmjfkjajedhciaaGb2
set_option linter.unusedVariables false
set_option linter.unusedSimpArgs false
set_option maxRecDepth 100000
namespace Go.Proofs.Ytmjfkjajedhciaa
open Go Go.Sx Go.Proofs
theorem incI_end {l : List Int} {k : Nat} (h : l.length ≤ k) (b : Int) : incI b (l.drop k) = true := by rw [List.drop_of_length_le h]; rfl
theorem rgroup_ct (e : Int) (A : Option Addr) (l : List Int) (cp : Nat) (hl : l.length ≤ 140737488355328) : Ct Try.prog 34 [grpV e A l.length cp] [] [Pers.row kI A l] (fun u G Q => u = .int .i64 (if groupOk e l = true then 0 else 71) ∧ G = [] ∧ Q = []) := by
  refine Ct.intro Try.func34 rfl rfl rfl (fun c hc => ?_)
  refine GC.seq' ?_
  refine GC.region ?_
  refine GL.step rfl (t_box rfl rfl rfl) (GL.ex fun b_t1 => ?_)
  refine GL.pure rfl (p_assign rfl) ?_
  refine GL.nil (?_ : GC _ _ _ _)
  refine GC.seq' ?_
  refine GC.seq' ?_
  refine GC.region ?_
  refine GL.pure rfl (p_fieldAddr fo_34_0 rfl) ?_
  refine GL.step rfl (t_mem rfl (m_load (i := 0) rfl rfl ag_3 rfl)) ?_
  refine GL.pure rfl (p_lss rfl rfl) ?_
  refine GL.pure rfl (p_move rfl) ?_
  refine GL.split (i := 7) rfl (fun h1 => ?_) (fun h1 => ?_)
  · try simp only [decide_eq_true_eq, decide_eq_false_iff_not, Bool.not_eq_true', Bool.not_eq_false', Bool.not_true, Bool.not_false, Bool.not_not, ne_eq, Decidable.not_not, Int.not_lt, Int.not_le, gt_iff_lt, ge_iff_le, bool_true_eq_, bool_false_eq_] at h1
    first
    | (exfalso; omega)
    | (skip
       refine GL.pass (s := 7) rfl rfl rfl ?_
       refine GL.pass (s := 7) rfl rfl rfl ?_
       refine GL.pass (s := 7) rfl rfl rfl ?_
       refine GL.pure rfl (p_pick_true rfl rfl) ?_
       refine GL.pure rfl (p_move rfl) ?_
       refine GL.pass (s := 12) rfl rfl rfl ?_
       refine GL.pass (s := 12) rfl rfl rfl ?_
       refine GL.pass (s := 12) rfl rfl rfl ?_
       refine GL.pass (s := 12) rfl rfl rfl ?_
       refine GL.pure rfl (p_pick_true rfl rfl) ?_
       refine GL.pure rfl (p_move rfl) ?_
       refine GL.pass (s := 18) rfl rfl rfl ?_
       refine GL.pass (s := 18) rfl rfl rfl ?_
       refine GL.pass (s := 18) rfl rfl rfl ?_
       refine GL.pass (s := 18) rfl rfl rfl ?_
       refine GL.pure rfl (p_pick_true rfl rfl) ?_
       refine GL.nil (?_ : GC _ _ _ _)
       refine GC.cond_true rfl ?_
       refine GC.seq' ?_
       refine GC.region ?_
       refine GL.pure rfl (p_assign rfl) ?_
       refine GL.nil (?_ : GC _ _ _ _)
       refine GC.ret ?_
       refine fun a w h => Fin.back (rs := [.tmp 2]) (vs := [_]) (is := []) (js := []) rfl ⟨rfl, trivial⟩ rfl rfl ?_ h
       clear h
       exact ⟨by rw [if_neg (by unfold groupOk; simp; omega)]; rfl, rfl, rfl⟩)
  · try simp only [decide_eq_true_eq, decide_eq_false_iff_not, Bool.not_eq_true', Bool.not_eq_false', Bool.not_true, Bool.not_false, Bool.not_not, ne_eq, Decidable.not_not, Int.not_lt, Int.not_le, gt_iff_lt, ge_iff_le, bool_true_eq_, bool_false_eq_] at h1
    first
    | (exfalso; omega)
    | (skip
       refine GL.pureG (s := 7) rfl rfl rfl (p_fieldAddr fo_34_0 rfl) ?_
       refine GL.stepG rfl (s := 7) rfl rfl (t_mem rfl (m_load (i := 0) rfl rfl ag_3 rfl)) ?_
       refine GL.pureG (s := 7) rfl rfl rfl (p_gtr rfl rfl) ?_
       refine GL.pure rfl (p_pick_false rfl rfl) ?_
       refine GL.pure rfl (p_move rfl) ?_
       refine GL.split (i := 12) rfl (fun h2 => ?_) (fun h2 => ?_)
       · try simp only [decide_eq_true_eq, decide_eq_false_iff_not, Bool.not_eq_true', Bool.not_eq_false', Bool.not_true, Bool.not_false, Bool.not_not, ne_eq, Decidable.not_not, Int.not_lt, Int.not_le, gt_iff_lt, ge_iff_le, bool_true_eq_, bool_false_eq_] at h2
         first
         | (exfalso; omega)
         | (skip
            refine GL.pass (s := 12) rfl rfl rfl ?_
            refine GL.pass (s := 12) rfl rfl rfl ?_
            refine GL.pass (s := 12) rfl rfl rfl ?_
            refine GL.pass (s := 12) rfl rfl rfl ?_
            refine GL.pure rfl (p_pick_true rfl rfl) ?_
            refine GL.pure rfl (p_move rfl) ?_
            refine GL.pass (s := 18) rfl rfl rfl ?_
            refine GL.pass (s := 18) rfl rfl rfl ?_
            refine GL.pass (s := 18) rfl rfl rfl ?_
            refine GL.pass (s := 18) rfl rfl rfl ?_
            refine GL.pure rfl (p_pick_true rfl rfl) ?_
            refine GL.nil (?_ : GC _ _ _ _)
            refine GC.cond_true rfl ?_
            refine GC.seq' ?_
            refine GC.region ?_
            refine GL.pure rfl (p_assign rfl) ?_
            refine GL.nil (?_ : GC _ _ _ _)
            refine GC.ret ?_
            refine fun a w h => Fin.back (rs := [.tmp 2]) (vs := [_]) (is := []) (js := []) rfl ⟨rfl, trivial⟩ rfl rfl ?_ h
            clear h
            exact ⟨by rw [if_neg (by unfold groupOk; simp; omega)]; rfl, rfl, rfl⟩)
       · try simp only [decide_eq_true_eq, decide_eq_false_iff_not, Bool.not_eq_true', Bool.not_eq_false', Bool.not_true, Bool.not_false, Bool.not_not, ne_eq, Decidable.not_not, Int.not_lt, Int.not_le, gt_iff_lt, ge_iff_le, bool_true_eq_, bool_false_eq_] at h2
         first
         | (exfalso; omega)
         | (skip
            refine GL.pureG (s := 12) rfl rfl rfl (p_fieldAddr fo_34_1 rfl) ?_
            refine GL.stepG rfl (s := 12) rfl rfl (t_mem rfl (m_load (i := 0) rfl rfl ag_22 rfl)) ?_
            refine GL.pureG (s := 12) rfl rfl rfl (p_len Try.underlying22 rfl) ?_
            refine GL.pureG (s := 12) rfl rfl rfl (p_lss rfl rfl) ?_
            refine GL.pure rfl (p_pick_false rfl rfl) ?_
            refine GL.pure rfl (p_move rfl) ?_
            refine GL.split (i := 18) rfl (fun h3 => ?_) (fun h3 => ?_)
            · try simp only [decide_eq_true_eq, decide_eq_false_iff_not, Bool.not_eq_true', Bool.not_eq_false', Bool.not_true, Bool.not_false, Bool.not_not, ne_eq, Decidable.not_not, Int.not_lt, Int.not_le, gt_iff_lt, ge_iff_le, bool_true_eq_, bool_false_eq_] at h3
              first
              | (exfalso; omega)
              | (skip
                 refine GL.pass (s := 18) rfl rfl rfl ?_
                 refine GL.pass (s := 18) rfl rfl rfl ?_
                 refine GL.pass (s := 18) rfl rfl rfl ?_
                 refine GL.pass (s := 18) rfl rfl rfl ?_
                 refine GL.pure rfl (p_pick_true rfl rfl) ?_
                 refine GL.nil (?_ : GC _ _ _ _)
                 refine GC.cond_true rfl ?_
                 refine GC.seq' ?_
                 refine GC.region ?_
                 refine GL.pure rfl (p_assign rfl) ?_
                 refine GL.nil (?_ : GC _ _ _ _)
                 refine GC.ret ?_
                 refine fun a w h => Fin.back (rs := [.tmp 2]) (vs := [_]) (is := []) (js := []) rfl ⟨rfl, trivial⟩ rfl rfl ?_ h
                 clear h
                 exact ⟨by rw [if_neg (by unfold groupOk; simp; omega)]; rfl, rfl, rfl⟩)
            · try simp only [decide_eq_true_eq, decide_eq_false_iff_not, Bool.not_eq_true', Bool.not_eq_false', Bool.not_true, Bool.not_false, Bool.not_not, ne_eq, Decidable.not_not, Int.not_lt, Int.not_le, gt_iff_lt, ge_iff_le, bool_true_eq_, bool_false_eq_] at h3
              first
              | (exfalso; omega)
              | (skip
                 refine GL.pureG (s := 18) rfl rfl rfl (p_fieldAddr fo_34_1 rfl) ?_
                 refine GL.stepG rfl (s := 18) rfl rfl (t_mem rfl (m_load (i := 0) rfl rfl ag_22 rfl)) ?_
                 refine GL.pureG (s := 18) rfl rfl rfl (p_len Try.underlying22 rfl) ?_
                 refine GL.pureG (s := 18) rfl rfl rfl (p_gtr rfl rfl) ?_
                 refine GL.pure rfl (p_pick_false rfl rfl) ?_
                 refine GL.nil (?_ : GC _ _ _ _)
                 refine GC.cond rfl (fun h4 => ?_) (fun h4 => ?_)
                 · try simp only [decide_eq_true_eq, decide_eq_false_iff_not, Bool.not_eq_true', Bool.not_eq_false', Bool.not_true, Bool.not_false, Bool.not_not, ne_eq, Decidable.not_not, Int.not_lt, Int.not_le, gt_iff_lt, ge_iff_le, bool_true_eq_, bool_false_eq_] at h4
                   first
                   | (exfalso; omega)
                   | (skip
                      refine GC.seq' ?_
                      refine GC.region ?_
                      refine GL.pure rfl (p_assign rfl) ?_
                      refine GL.nil (?_ : GC _ _ _ _)
                      refine GC.ret ?_
                      refine fun a w h => Fin.back (rs := [.tmp 2]) (vs := [_]) (is := []) (js := []) rfl ⟨rfl, trivial⟩ rfl rfl ?_ h
                      clear h
                      exact ⟨by rw [if_neg (by unfold groupOk; simp; omega)]; rfl, rfl, rfl⟩)
                 · try simp only [decide_eq_true_eq, decide_eq_false_iff_not, Bool.not_eq_true', Bool.not_eq_false', Bool.not_true, Bool.not_false, Bool.not_not, ne_eq, Decidable.not_not, Int.not_lt, Int.not_le, gt_iff_lt, ge_iff_le, bool_true_eq_, bool_false_eq_] at h4
                   first
                   | (exfalso; omega)
                   | (skip
                      refine GC.skip (?_ : GC _ _ _ _)
                      refine GC.seq' ?_
                      refine GC.seq' ?_
                      refine GC.region ?_
                      refine GL.pure rfl (p_assign rfl) ?_
                      refine GL.nil (?_ : GC _ _ _ _)
                      refine GC.block ?_
                      refine GC.loopK1 (ks := [1]) (is := [0]) (js := [0]) (fun (k : Nat) => k ≤ l.length ∧ incI (-1) l = incI (lastI l k) (l.drop k) ∧ -1 ≤ lastI l k) (fun (k : Nat) => [(3, .int .i64 (k : Int))]) (fun (k : Nat) => []) (fun (k : Nat) => []) (fun (k : Nat) => l.length - k) (0) rfl rfl rfl (fun a w h => ⟨⟨by omega, rfl, by simp [lastI]⟩, h.cutK (is := [0]) (js := [0]) (ks := [1]) ⟨rfl, trivial⟩ rfl rfl rfl⟩) ?_
                      intro k hk
                      try dsimp only [List.cons_append, List.nil_append] at hk ⊢
                      obtain ⟨hk, he, hlast⟩ := hk
                      refine GC.seq' ?_
                      refine GC.seq' ?_
                      refine GC.region ?_
                      refine GL.pure rfl (p_move rfl) ?_
                      refine GL.pure rfl (p_fieldAddr fo_34_1 rfl) ?_
                      refine GL.step rfl (t_mem rfl (m_load (i := 0) rfl rfl ag_22 rfl)) ?_
                      refine GL.pure rfl (p_len Try.underlying22 rfl) ?_
                      refine GL.pure rfl (p_lss rfl rfl) ?_
                      refine GL.nil (?_ : GC _ _ _ _)
                      refine GC.cond rfl (fun h5 => ?_) (fun h5 => ?_)
                      · try simp only [decide_eq_true_eq, decide_eq_false_iff_not, Bool.not_eq_true', Bool.not_eq_false', Bool.not_true, Bool.not_false, Bool.not_not, ne_eq, Decidable.not_not, Int.not_lt, Int.not_le, gt_iff_lt, ge_iff_le, bool_true_eq_, bool_false_eq_] at h5
                        first
                        | (exfalso; omega)
                        | (skip
                           refine GC.skip (?_ : GC _ _ _ _)
                           refine GC.seq' ?_
                           refine GC.block ?_
                           refine GC.seq' ?_
                           rcases k with _ | k
                           · skip
                             refine GC.layQ (y := .tmp 3) (j := 0) rfl rfl (by omega) (gt_ok (by omega) (by omega)) (fun p_x34 r_x34 hA_x34 ok_x34 => ?_)
                             rcases r_x34 with _
                             refine GC.layQ (y := .tmp 3) (j := 1) rfl rfl (by omega) (gt_ok (by omega) (by omega)) (fun p_x41 r_x41 hA_x41 ok_x41 => ?_)
                             rcases r_x41 with _
                             refine GC.layQ (y := .tmp 3) (j := 2) rfl rfl (by omega) (gt_ok (by omega) (by omega)) (fun p_x52 r_x52 hA_x52 ok_x52 => ?_)
                             rcases r_x52 with _
                             refine GC.regionQ wide_ (by kernel_rfl) ?_
                             refine GQ.step rfl (q_pure (p_fieldAddr fo_34_1 rfl)) ?_
                             refine GQ.step rfl (q_mem (m_load (i := 0) rfl rfl ag_22 rfl)) ?_
                             refine GQ.step rfl (q_pure (p_move rfl)) ?_
                             refine GQ.step rfl (q_pure (p_indexL hA_x34 rfl rfl Try.underlying22 sz_3 (by omega) (by omega))) ?_
                             refine GQ.step rfl (q_mem (m_loadP (i := 2) rfl rfl ag_3 rfl)) ?_
                             refine GQ.step rfl (q_pure (p_lss rfl rfl)) ?_
                             refine GQ.step rfl (q_pure (p_move rfl)) ?_
                             refine GQ.split (i := 37) rfl (fun h6 => ?_) (fun h6 => ?_)
                             · try simp only [decide_eq_true_eq, decide_eq_false_iff_not, Bool.not_eq_true', Bool.not_eq_false', Bool.not_true, Bool.not_false, Bool.not_not, ne_eq, Decidable.not_not, Int.not_lt, Int.not_le, gt_iff_lt, ge_iff_le, bool_true_eq_, bool_false_eq_] at h6
                               first
                               | (exfalso; omega)
                               | (skip
                                  refine GQ.pass (s := 37) rfl rfl rfl ?_
                                  refine GQ.pass (s := 37) rfl rfl rfl ?_
                                  refine GQ.pass (s := 37) rfl rfl rfl ?_
                                  refine GQ.pass (s := 37) rfl rfl rfl ?_
                                  refine GQ.pass (s := 37) rfl rfl rfl ?_
                                  refine GQ.pass (s := 37) rfl rfl rfl ?_
                                  refine GQ.step rfl (q_pure (p_pick_true rfl rfl)) ?_
                                  refine GQ.step rfl (q_pure (p_move rfl)) ?_
                                  refine GQ.pass (s := 45) rfl rfl rfl ?_
                                  refine GQ.pass (s := 45) rfl rfl rfl ?_
                                  refine GQ.pass (s := 45) rfl rfl rfl ?_
                                  refine GQ.passU (s := 48) rfl rfl rfl ?_
                                  refine GQ.passU (s := 48) rfl rfl rfl ?_
                                  refine GQ.passU (s := 48) rfl rfl rfl ?_
                                  refine GQ.passU (s := 48) rfl rfl rfl ?_
                                  refine GQ.passU (s := 48) rfl rfl rfl ?_
                                  refine GQ.passU (s := 48) rfl rfl rfl ?_
                                  refine GQ.passU (s := 48) rfl rfl rfl ?_
                                  refine GQ.passU (s := 48) rfl rfl rfl ?_
                                  refine GQ.passU (s := 48) rfl rfl rfl ?_
                                  refine GQ.passU (s := 48) rfl rfl rfl ?_
                                  refine GQ.passU (s := 48) rfl rfl rfl ?_
                                  refine GQ.passU (s := 48) rfl rfl rfl ?_
                                  refine GQ.pass (s := 45) rfl rfl rfl ?_
                                  refine GQ.step rfl (q_pure (p_pick_true rfl rfl)) ?_
                                  refine GQ.nil (?_ : GC _ _ _ _)
                                  refine GC.cond_true rfl ?_
                                  refine GC.seq' ?_
                                  refine GC.region ?_
                                  refine GL.pure rfl (p_assign rfl) ?_
                                  refine GL.nil (?_ : GC _ _ _ _)
                                  refine GC.ret ?_
                                  refine fun a w h => Fin.back (rs := [.tmp 2]) (vs := [_]) (is := []) (js := []) rfl ⟨rfl, trivial⟩ rfl rfl ?_ h
                                  clear h
                                  refine ⟨?_, rfl, rfl⟩
                                  (try simp only [show ∀ x : Nat, ((x + 1 : Nat) : Int) - 1 = x by omega] at *)
                                  rw [if_neg (by unfold groupOk; rw [he, incI_bad (by omega) (by simp only [lastI] at hlast ⊢; omega), Bool.and_false]; simp)]
                                  rfl)
                             · try simp only [decide_eq_true_eq, decide_eq_false_iff_not, Bool.not_eq_true', Bool.not_eq_false', Bool.not_true, Bool.not_false, Bool.not_not, ne_eq, Decidable.not_not, Int.not_lt, Int.not_le, gt_iff_lt, ge_iff_le, bool_true_eq_, bool_false_eq_] at h6
                               first
                               | (exfalso; omega)
                               | (skip
                                  refine GQ.stepG (s := 37) rfl rfl rfl (q_pure (p_fieldAddr fo_34_1 rfl)) ?_
                                  refine GQ.stepG (s := 37) rfl rfl rfl (q_mem (m_load (i := 0) rfl rfl ag_22 rfl)) ?_
                                  refine GQ.stepG (s := 37) rfl rfl rfl (q_pure (p_move rfl)) ?_
                                  refine GQ.stepG (s := 37) rfl rfl rfl (q_pure (p_indexL hA_x41 rfl rfl Try.underlying22 sz_3 (by omega) (by omega))) ?_
                                  refine GQ.stepG (s := 37) rfl rfl rfl (q_mem (m_loadP (i := 1) rfl rfl ag_3 rfl)) ?_
                                  refine GQ.stepG (s := 37) rfl rfl rfl (q_pure (p_geq rfl rfl)) ?_
                                  refine GQ.step rfl (q_pure (p_pick_false rfl rfl)) ?_
                                  refine GQ.step rfl (q_pure (p_move rfl)) ?_
                                  refine GQ.split (i := 45) rfl (fun h7 => ?_) (fun h7 => ?_)
                                  · try simp only [decide_eq_true_eq, decide_eq_false_iff_not, Bool.not_eq_true', Bool.not_eq_false', Bool.not_true, Bool.not_false, Bool.not_not, ne_eq, Decidable.not_not, Int.not_lt, Int.not_le, gt_iff_lt, ge_iff_le, bool_true_eq_, bool_false_eq_] at h7
                                    first
                                    | (exfalso; omega)
                                    | (skip
                                       refine GQ.pass (s := 45) rfl rfl rfl ?_
                                       refine GQ.pass (s := 45) rfl rfl rfl ?_
                                       refine GQ.pass (s := 45) rfl rfl rfl ?_
                                       refine GQ.passU (s := 48) rfl rfl rfl ?_
                                       refine GQ.passU (s := 48) rfl rfl rfl ?_
                                       refine GQ.passU (s := 48) rfl rfl rfl ?_
                                       refine GQ.passU (s := 48) rfl rfl rfl ?_
                                       refine GQ.passU (s := 48) rfl rfl rfl ?_
                                       refine GQ.passU (s := 48) rfl rfl rfl ?_
                                       refine GQ.passU (s := 48) rfl rfl rfl ?_
                                       refine GQ.passU (s := 48) rfl rfl rfl ?_
                                       refine GQ.passU (s := 48) rfl rfl rfl ?_
                                       refine GQ.passU (s := 48) rfl rfl rfl ?_
                                       refine GQ.passU (s := 48) rfl rfl rfl ?_
                                       refine GQ.passU (s := 48) rfl rfl rfl ?_
                                       refine GQ.pass (s := 45) rfl rfl rfl ?_
                                       refine GQ.step rfl (q_pure (p_pick_true rfl rfl)) ?_
                                       refine GQ.nil (?_ : GC _ _ _ _)
                                       refine GC.cond_true rfl ?_
                                       refine GC.seq' ?_
                                       refine GC.region ?_
                                       refine GL.pure rfl (p_assign rfl) ?_
                                       refine GL.nil (?_ : GC _ _ _ _)
                                       refine GC.ret ?_
                                       refine fun a w h => Fin.back (rs := [.tmp 2]) (vs := [_]) (is := []) (js := []) rfl ⟨rfl, trivial⟩ rfl rfl ?_ h
                                       clear h
                                       refine ⟨?_, rfl, rfl⟩
                                       (try simp only [show ∀ x : Nat, ((x + 1 : Nat) : Int) - 1 = x by omega] at *)
                                       rw [if_neg (by unfold groupOk; rw [he, incI_bad (by omega) (by simp only [lastI] at hlast ⊢; omega), Bool.and_false]; simp)]
                                       rfl)
                                  · try simp only [decide_eq_true_eq, decide_eq_false_iff_not, Bool.not_eq_true', Bool.not_eq_false', Bool.not_true, Bool.not_false, Bool.not_not, ne_eq, Decidable.not_not, Int.not_lt, Int.not_le, gt_iff_lt, ge_iff_le, bool_true_eq_, bool_false_eq_] at h7
                                    first
                                    | (exfalso; omega)
                                    | (skip
                                       refine GQ.stepG (s := 45) rfl rfl rfl (q_pure (p_move rfl)) ?_
                                       refine GQ.stepG (s := 45) rfl rfl rfl (q_pure (p_gtr rfl rfl)) ?_
                                       refine GQ.stepG (s := 45) rfl rfl rfl (q_pure (p_move rfl)) ?_
                                       refine GQ.split (i := 48) rfl (fun h8 => ?_) (fun h8 => ?_)
                                       · try simp only [decide_eq_true_eq, decide_eq_false_iff_not, Bool.not_eq_true', Bool.not_eq_false', Bool.not_true, Bool.not_false, Bool.not_not, ne_eq, Decidable.not_not, Int.not_lt, Int.not_le, gt_iff_lt, ge_iff_le, bool_true_eq_, bool_false_eq_] at h8
                                         first
                                         | (exfalso; omega)
                                         | (skip
                                            refine GQ.stepG (s := 48) rfl rfl rfl (q_pure (p_fieldAddr fo_34_1 rfl)) ?_
                                            refine GQ.stepG (s := 48) rfl rfl rfl (q_mem (m_load (i := 0) rfl rfl ag_22 rfl)) ?_
                                            refine GQ.stepG (s := 48) rfl rfl rfl (q_pure (p_move rfl)) ?_
                                            refine GQ.stepG (s := 48) rfl rfl rfl (q_pure (p_indexL hA_x52 rfl rfl Try.underlying22 sz_3 (by omega) (by omega))) ?_
                                            refine GQ.stepG (s := 48) rfl rfl rfl (q_mem (m_loadP (i := 0) rfl rfl ag_3 rfl)) ?_
                                            refine GQ.stepG (s := 48) rfl rfl rfl (q_pure (p_fieldAddr fo_34_1 rfl)) ?_
                                            refine GQ.stepG (s := 48) rfl rfl rfl (q_mem (m_load (i := 0) rfl rfl ag_22 rfl)) ?_
                                            refine GQ.stepG (s := 48) rfl rfl rfl (q_pure (p_move rfl)) ?_
                                            refine GQ.stepG (s := 48) rfl rfl rfl (q_pure (p_sub rfl rfl (w64 (by omega) (by omega)))) ?_
                                            exact (by omega : False).elim)
                                       · try simp only [decide_eq_true_eq, decide_eq_false_iff_not, Bool.not_eq_true', Bool.not_eq_false', Bool.not_true, Bool.not_false, Bool.not_not, ne_eq, Decidable.not_not, Int.not_lt, Int.not_le, gt_iff_lt, ge_iff_le, bool_true_eq_, bool_false_eq_] at h8
                                         first
                                         | (exfalso; omega)
                                         | (skip
                                            refine GQ.pass (s := 48) rfl rfl rfl ?_
                                            refine GQ.pass (s := 48) rfl rfl rfl ?_
                                            refine GQ.pass (s := 48) rfl rfl rfl ?_
                                            refine GQ.pass (s := 48) rfl rfl rfl ?_
                                            refine GQ.pass (s := 48) rfl rfl rfl ?_
                                            refine GQ.pass (s := 48) rfl rfl rfl ?_
                                            refine GQ.pass (s := 48) rfl rfl rfl ?_
                                            refine GQ.pass (s := 48) rfl rfl rfl ?_
                                            refine GQ.pass (s := 48) rfl rfl rfl ?_
                                            refine GQ.pass (s := 48) rfl rfl rfl ?_
                                            refine GQ.pass (s := 48) rfl rfl rfl ?_
                                            refine GQ.pass (s := 48) rfl rfl rfl ?_
                                            refine GQ.stepG (s := 45) rfl rfl rfl (q_pure (p_pick_false rfl rfl)) ?_
                                            refine GQ.step rfl (q_pure (p_pick_false rfl rfl)) ?_
                                            refine GQ.nil (?_ : GC _ _ _ _)
                                            refine GC.cond_false rfl ?_
                                            refine GC.skip (?_ : GC _ _ _ _)
                                            refine GC.region ?_
                                            refine GL.pure rfl (p_move rfl) ?_
                                            refine GL.pure rfl (p_add rfl rfl (w64 (by omega) (by omega))) ?_
                                            refine GL.pure rfl (p_assign rfl) ?_
                                            refine GL.nil ?_
                                            (try simp only [show ∀ x : Nat, ((x + 1 : Nat) : Int) - 1 = x by omega] at *)
                                            exact fun a w h => ⟨(_ + 1), (by omega), ⟨by omega, by rw [he, incI_ok (by omega) (by simp only [lastI]; omega) (by omega)]; rfl, by simp only [lastI]; omega⟩, h.cut (is := [0]) (js := [3]) ⟨rfl, rfl, trivial⟩ rfl rfl⟩)))
                           · skip
                             refine GC.lay (x := .const (.slice A l.length cp)) (y := .const (.int .i64 (((k + 1 : Nat) : Int) - 1))) (j := 0) rfl rfl rfl (by omega) (gt_ok (by omega) (by omega)) (fun p_xp r_xp hA_xp ok_xp => ?_)
                             rcases r_xp with _
                             refine GC.layQ (y := .tmp 3) (j := 1) rfl rfl (by omega) (gt_ok (by omega) (by omega)) (fun p_x34 r_x34 hA_x34 ok_x34 => ?_)
                             rcases r_x34 with _
                             refine GC.layQ (y := .tmp 3) (j := 2) rfl rfl (by omega) (gt_ok (by omega) (by omega)) (fun p_x41 r_x41 hA_x41 ok_x41 => ?_)
                             rcases r_x41 with _
                             refine GC.layQ (y := .tmp 3) (j := 3) rfl rfl (by omega) (gt_ok (by omega) (by omega)) (fun p_x52 r_x52 hA_x52 ok_x52 => ?_)
                             rcases r_x52 with _
                             refine GC.regionQ wide_ (by kernel_rfl) ?_
                             refine GQ.step rfl (q_pure (p_fieldAddr fo_34_1 rfl)) ?_
                             refine GQ.step rfl (q_mem (m_load (i := 0) rfl rfl ag_22 rfl)) ?_
                             refine GQ.step rfl (q_pure (p_move rfl)) ?_
                             refine GQ.step rfl (q_pure (p_indexL hA_x34 rfl rfl Try.underlying22 sz_3 (by omega) (by omega))) ?_
                             refine GQ.step rfl (q_mem (m_loadP (i := 2) rfl rfl ag_3 rfl)) ?_
                             refine GQ.step rfl (q_pure (p_lss rfl rfl)) ?_
                             refine GQ.step rfl (q_pure (p_move rfl)) ?_
                             refine GQ.split (i := 37) rfl (fun h9 => ?_) (fun h9 => ?_)
                             · try simp only [decide_eq_true_eq, decide_eq_false_iff_not, Bool.not_eq_true', Bool.not_eq_false', Bool.not_true, Bool.not_false, Bool.not_not, ne_eq, Decidable.not_not, Int.not_lt, Int.not_le, gt_iff_lt, ge_iff_le, bool_true_eq_, bool_false_eq_] at h9
                               first
                               | (exfalso; omega)
                               | (skip
                                  refine GQ.pass (s := 37) rfl rfl rfl ?_
                                  refine GQ.pass (s := 37) rfl rfl rfl ?_
                                  refine GQ.pass (s := 37) rfl rfl rfl ?_
                                  refine GQ.pass (s := 37) rfl rfl rfl ?_
                                  refine GQ.pass (s := 37) rfl rfl rfl ?_
                                  refine GQ.pass (s := 37) rfl rfl rfl ?_
                                  refine GQ.step rfl (q_pure (p_pick_true rfl rfl)) ?_
                                  refine GQ.step rfl (q_pure (p_move rfl)) ?_
                                  refine GQ.pass (s := 45) rfl rfl rfl ?_
                                  refine GQ.pass (s := 45) rfl rfl rfl ?_
                                  refine GQ.pass (s := 45) rfl rfl rfl ?_
                                  refine GQ.passU (s := 48) rfl rfl rfl ?_
                                  refine GQ.passU (s := 48) rfl rfl rfl ?_
                                  refine GQ.passU (s := 48) rfl rfl rfl ?_
                                  refine GQ.passU (s := 48) rfl rfl rfl ?_
                                  refine GQ.passU (s := 48) rfl rfl rfl ?_
                                  refine GQ.passU (s := 48) rfl rfl rfl ?_
                                  refine GQ.passU (s := 48) rfl rfl rfl ?_
                                  refine GQ.passU (s := 48) rfl rfl rfl ?_
                                  refine GQ.passU (s := 48) rfl rfl rfl ?_
                                  refine GQ.passU (s := 48) rfl rfl rfl ?_
                                  refine GQ.passU (s := 48) rfl rfl rfl ?_
                                  refine GQ.passU (s := 48) rfl rfl rfl ?_
                                  refine GQ.pass (s := 45) rfl rfl rfl ?_
                                  refine GQ.step rfl (q_pure (p_pick_true rfl rfl)) ?_
                                  refine GQ.nil (?_ : GC _ _ _ _)
                                  refine GC.cond_true rfl ?_
                                  refine GC.seq' ?_
                                  refine GC.region ?_
                                  refine GL.pure rfl (p_assign rfl) ?_
                                  refine GL.nil (?_ : GC _ _ _ _)
                                  refine GC.ret ?_
                                  refine fun a w h => Fin.back (rs := [.tmp 2]) (vs := [_]) (is := []) (js := []) rfl ⟨rfl, trivial⟩ rfl rfl ?_ h
                                  clear h
                                  refine ⟨?_, rfl, rfl⟩
                                  (try simp only [show ∀ x : Nat, ((x + 1 : Nat) : Int) - 1 = x by omega] at *)
                                  rw [if_neg (by unfold groupOk; rw [he, incI_bad (by omega) (by simp only [lastI] at hlast ⊢; omega), Bool.and_false]; simp)]
                                  rfl)
                             · try simp only [decide_eq_true_eq, decide_eq_false_iff_not, Bool.not_eq_true', Bool.not_eq_false', Bool.not_true, Bool.not_false, Bool.not_not, ne_eq, Decidable.not_not, Int.not_lt, Int.not_le, gt_iff_lt, ge_iff_le, bool_true_eq_, bool_false_eq_] at h9
                               first
                               | (exfalso; omega)
                               | (skip
                                  refine GQ.stepG (s := 37) rfl rfl rfl (q_pure (p_fieldAddr fo_34_1 rfl)) ?_
                                  refine GQ.stepG (s := 37) rfl rfl rfl (q_mem (m_load (i := 0) rfl rfl ag_22 rfl)) ?_
                                  refine GQ.stepG (s := 37) rfl rfl rfl (q_pure (p_move rfl)) ?_
                                  refine GQ.stepG (s := 37) rfl rfl rfl (q_pure (p_indexL hA_x41 rfl rfl Try.underlying22 sz_3 (by omega) (by omega))) ?_
                                  refine GQ.stepG (s := 37) rfl rfl rfl (q_mem (m_loadP (i := 1) rfl rfl ag_3 rfl)) ?_
                                  refine GQ.stepG (s := 37) rfl rfl rfl (q_pure (p_geq rfl rfl)) ?_
                                  refine GQ.step rfl (q_pure (p_pick_false rfl rfl)) ?_
                                  refine GQ.step rfl (q_pure (p_move rfl)) ?_
                                  refine GQ.split (i := 45) rfl (fun h10 => ?_) (fun h10 => ?_)
                                  · try simp only [decide_eq_true_eq, decide_eq_false_iff_not, Bool.not_eq_true', Bool.not_eq_false', Bool.not_true, Bool.not_false, Bool.not_not, ne_eq, Decidable.not_not, Int.not_lt, Int.not_le, gt_iff_lt, ge_iff_le, bool_true_eq_, bool_false_eq_] at h10
                                    first
                                    | (exfalso; omega)
                                    | (skip
                                       refine GQ.pass (s := 45) rfl rfl rfl ?_
                                       refine GQ.pass (s := 45) rfl rfl rfl ?_
                                       refine GQ.pass (s := 45) rfl rfl rfl ?_
                                       refine GQ.passU (s := 48) rfl rfl rfl ?_
                                       refine GQ.passU (s := 48) rfl rfl rfl ?_
                                       refine GQ.passU (s := 48) rfl rfl rfl ?_
                                       refine GQ.passU (s := 48) rfl rfl rfl ?_
                                       refine GQ.passU (s := 48) rfl rfl rfl ?_
                                       refine GQ.passU (s := 48) rfl rfl rfl ?_
                                       refine GQ.passU (s := 48) rfl rfl rfl ?_
                                       refine GQ.passU (s := 48) rfl rfl rfl ?_
                                       refine GQ.passU (s := 48) rfl rfl rfl ?_
                                       refine GQ.passU (s := 48) rfl rfl rfl ?_
                                       refine GQ.passU (s := 48) rfl rfl rfl ?_
                                       refine GQ.passU (s := 48) rfl rfl rfl ?_
                                       refine GQ.pass (s := 45) rfl rfl rfl ?_
                                       refine GQ.step rfl (q_pure (p_pick_true rfl rfl)) ?_
                                       refine GQ.nil (?_ : GC _ _ _ _)
                                       refine GC.cond_true rfl ?_
                                       refine GC.seq' ?_
                                       refine GC.region ?_
                                       refine GL.pure rfl (p_assign rfl) ?_
                                       refine GL.nil (?_ : GC _ _ _ _)
                                       refine GC.ret ?_
                                       refine fun a w h => Fin.back (rs := [.tmp 2]) (vs := [_]) (is := []) (js := []) rfl ⟨rfl, trivial⟩ rfl rfl ?_ h
                                       clear h
                                       refine ⟨?_, rfl, rfl⟩
                                       (try simp only [show ∀ x : Nat, ((x + 1 : Nat) : Int) - 1 = x by omega] at *)
                                       rw [if_neg (by unfold groupOk; rw [he, incI_bad (by omega) (by simp only [lastI] at hlast ⊢; omega), Bool.and_false]; simp)]
                                       rfl)
                                  · try simp only [decide_eq_true_eq, decide_eq_false_iff_not, Bool.not_eq_true', Bool.not_eq_false', Bool.not_true, Bool.not_false, Bool.not_not, ne_eq, Decidable.not_not, Int.not_lt, Int.not_le, gt_iff_lt, ge_iff_le, bool_true_eq_, bool_false_eq_] at h10
                                    first
                                    | (exfalso; omega)
                                    | (skip
                                       refine GQ.stepG (s := 45) rfl rfl rfl (q_pure (p_move rfl)) ?_
                                       refine GQ.stepG (s := 45) rfl rfl rfl (q_pure (p_gtr rfl rfl)) ?_
                                       refine GQ.stepG (s := 45) rfl rfl rfl (q_pure (p_move rfl)) ?_
                                       refine GQ.split (i := 48) rfl (fun h11 => ?_) (fun h11 => ?_)
                                       · try simp only [decide_eq_true_eq, decide_eq_false_iff_not, Bool.not_eq_true', Bool.not_eq_false', Bool.not_true, Bool.not_false, Bool.not_not, ne_eq, Decidable.not_not, Int.not_lt, Int.not_le, gt_iff_lt, ge_iff_le, bool_true_eq_, bool_false_eq_] at h11
                                         first
                                         | (exfalso; omega)
                                         | (skip
                                            refine GQ.stepG (s := 48) rfl rfl rfl (q_pure (p_fieldAddr fo_34_1 rfl)) ?_
                                            refine GQ.stepG (s := 48) rfl rfl rfl (q_mem (m_load (i := 0) rfl rfl ag_22 rfl)) ?_
                                            refine GQ.stepG (s := 48) rfl rfl rfl (q_pure (p_move rfl)) ?_
                                            refine GQ.stepG (s := 48) rfl rfl rfl (q_pure (p_indexL hA_x52 rfl rfl Try.underlying22 sz_3 (by omega) (by omega))) ?_
                                            refine GQ.stepG (s := 48) rfl rfl rfl (q_mem (m_loadP (i := 0) rfl rfl ag_3 rfl)) ?_
                                            refine GQ.stepG (s := 48) rfl rfl rfl (q_pure (p_fieldAddr fo_34_1 rfl)) ?_
                                            refine GQ.stepG (s := 48) rfl rfl rfl (q_mem (m_load (i := 0) rfl rfl ag_22 rfl)) ?_
                                            refine GQ.stepG (s := 48) rfl rfl rfl (q_pure (p_move rfl)) ?_
                                            refine GQ.stepG (s := 48) rfl rfl rfl (q_pure (p_sub rfl rfl (w64 (by omega) (by omega)))) ?_
                                            refine GQ.stepG (s := 48) rfl rfl rfl (q_pure (p_indexL hA_xp rfl rfl Try.underlying22 sz_3 (by omega) (by omega))) ?_
                                            refine GQ.stepG (s := 48) rfl rfl rfl (q_mem (m_loadP (i := 3) rfl rfl ag_3 rfl)) ?_
                                            refine GQ.stepG (s := 48) rfl rfl rfl (q_pure (p_leq rfl rfl)) ?_
                                            refine GQ.stepG (s := 45) rfl rfl rfl (q_pure (p_pick_true rfl rfl)) ?_
                                            refine GQ.step rfl (q_pure (p_pick_false rfl rfl)) ?_
                                            refine GQ.nil (?_ : GC _ _ _ _)
                                            refine GC.cond rfl (fun h12 => ?_) (fun h12 => ?_)
                                            · try simp only [decide_eq_true_eq, decide_eq_false_iff_not, Bool.not_eq_true', Bool.not_eq_false', Bool.not_true, Bool.not_false, Bool.not_not, ne_eq, Decidable.not_not, Int.not_lt, Int.not_le, gt_iff_lt, ge_iff_le, bool_true_eq_, bool_false_eq_] at h12
                                              first
                                              | (exfalso; omega)
                                              | (skip
                                                 refine GC.seq' ?_
                                                 refine GC.region ?_
                                                 refine GL.pure rfl (p_assign rfl) ?_
                                                 refine GL.nil (?_ : GC _ _ _ _)
                                                 refine GC.ret ?_
                                                 refine fun a w h => Fin.back (rs := [.tmp 2]) (vs := [_]) (is := []) (js := []) rfl ⟨rfl, trivial⟩ rfl rfl ?_ h
                                                 clear h
                                                 refine ⟨?_, rfl, rfl⟩
                                                 (try simp only [show ∀ x : Nat, ((x + 1 : Nat) : Int) - 1 = x by omega] at *)
                                                 rw [if_neg (by unfold groupOk; rw [he, incI_bad (by omega) (by simp only [lastI] at hlast ⊢; omega), Bool.and_false]; simp)]
                                                 rfl)
                                            · try simp only [decide_eq_true_eq, decide_eq_false_iff_not, Bool.not_eq_true', Bool.not_eq_false', Bool.not_true, Bool.not_false, Bool.not_not, ne_eq, Decidable.not_not, Int.not_lt, Int.not_le, gt_iff_lt, ge_iff_le, bool_true_eq_, bool_false_eq_] at h12
                                              first
                                              | (exfalso; omega)
                                              | (skip
                                                 refine GC.skip (?_ : GC _ _ _ _)
                                                 refine GC.region ?_
                                                 refine GL.pure rfl (p_move rfl) ?_
                                                 refine GL.pure rfl (p_add rfl rfl (w64 (by omega) (by omega))) ?_
                                                 refine GL.pure rfl (p_assign rfl) ?_
                                                 refine GL.nil ?_
                                                 (try simp only [show ∀ x : Nat, ((x + 1 : Nat) : Int) - 1 = x by omega] at *)
                                                 exact fun a w h => ⟨(_ + 1), (by omega), ⟨by omega, by rw [he, incI_ok (by omega) (by simp only [lastI]; omega) (by omega)]; rfl, by simp only [lastI]; omega⟩, h.cut (is := [0]) (js := [4]) ⟨rfl, rfl, trivial⟩ rfl rfl⟩))
                                       · try simp only [decide_eq_true_eq, decide_eq_false_iff_not, Bool.not_eq_true', Bool.not_eq_false', Bool.not_true, Bool.not_false, Bool.not_not, ne_eq, Decidable.not_not, Int.not_lt, Int.not_le, gt_iff_lt, ge_iff_le, bool_true_eq_, bool_false_eq_] at h11
                                         first
                                         | (exfalso; omega)
                                         | (skip
                                            refine GQ.pass (s := 48) rfl rfl rfl ?_
                                            refine GQ.pass (s := 48) rfl rfl rfl ?_
                                            refine GQ.pass (s := 48) rfl rfl rfl ?_
                                            refine GQ.pass (s := 48) rfl rfl rfl ?_
                                            refine GQ.pass (s := 48) rfl rfl rfl ?_
                                            refine GQ.pass (s := 48) rfl rfl rfl ?_
                                            refine GQ.pass (s := 48) rfl rfl rfl ?_
                                            refine GQ.pass (s := 48) rfl rfl rfl ?_
                                            refine GQ.pass (s := 48) rfl rfl rfl ?_
                                            refine GQ.pass (s := 48) rfl rfl rfl ?_
                                            refine GQ.pass (s := 48) rfl rfl rfl ?_
                                            refine GQ.pass (s := 48) rfl rfl rfl ?_
                                            refine GQ.stepG (s := 45) rfl rfl rfl (q_pure (p_pick_false rfl rfl)) ?_
                                            refine GQ.step rfl (q_pure (p_pick_false rfl rfl)) ?_
                                            refine GQ.nil (?_ : GC _ _ _ _)
                                            refine GC.cond_false rfl ?_
                                            refine GC.skip (?_ : GC _ _ _ _)
                                            refine GC.region ?_
                                            refine GL.pure rfl (p_move rfl) ?_
                                            refine GL.pure rfl (p_add rfl rfl (w64 (by omega) (by omega))) ?_
                                            refine GL.pure rfl (p_assign rfl) ?_
                                            refine GL.nil ?_
                                            (try simp only [show ∀ x : Nat, ((x + 1 : Nat) : Int) - 1 = x by omega] at *)
                                            exact fun a w h => ⟨(_ + 1), (by omega), ⟨by omega, by rw [he, incI_ok (by omega) (by simp only [lastI]; omega) (by omega)]; rfl, by simp only [lastI]; omega⟩, h.cut (is := [0]) (js := [4]) ⟨rfl, rfl, trivial⟩ rfl rfl⟩))))
                      · try simp only [decide_eq_true_eq, decide_eq_false_iff_not, Bool.not_eq_true', Bool.not_eq_false', Bool.not_true, Bool.not_false, Bool.not_not, ne_eq, Decidable.not_not, Int.not_lt, Int.not_le, gt_iff_lt, ge_iff_le, bool_true_eq_, bool_false_eq_] at h5
                        first
                        | (exfalso; omega)
                        | (skip
                           refine GC.exit (?_ : GC _ _ _ _)
                           refine GC.seq' ?_
                           refine GC.region ?_
                           refine GL.pure rfl (p_assign rfl) ?_
                           refine GL.nil (?_ : GC _ _ _ _)
                           refine GC.ret ?_
                           refine fun a w h => Fin.back (rs := [.tmp 2]) (vs := [_]) (is := []) (js := []) rfl ⟨rfl, trivial⟩ rfl rfl ?_ h
                           clear h
                           exact ⟨by rw [if_pos (by unfold groupOk; rw [he, incI_end (by omega)]; simp; omega)]; rfl, rfl, rfl⟩)))))
def chkE (e : Int) (l : List Int) : Int := if groupOk e l = true then 0 else 130
theorem chk_iff (e : Int) (l : List Int) : ((if groupOk e l = true then (0 : Int) else 71) = 0) = (groupOk e l = true) := by cases groupOk e l <;> simp
theorem chkE_iff (e : Int) (l : List Int) : (chkE e l = 0) = (groupOk e l = true) := by unfold chkE; cases groupOk e l <;> simp
theorem rcheck_ct (e : Int) (A : Option Addr) (l : List Int) (cp : Nat) (hl : l.length ≤ 140737488355328) : Ct Try.prog 19 [grpV e A l.length cp] [] [Pers.row kI A l] (fun u G Q => u = .int .i64 (chkE e l) ∧ G = [] ∧ Q = []) := by
  refine Ct.intro Try.func19 rfl rfl rfl (fun c hc => ?_)
  refine GC.seq' ?_
  refine GC.region ?_
  refine GL.step rfl (t_box rfl rfl rfl) (GL.ex fun b_t1 => ?_)
  refine GL.pure rfl (p_assign rfl) ?_
  refine GL.nil (?_ : GC _ _ _ _)
  refine GC.seq' ?_
  refine GC.seq' ?_
  refine GC.region ?_
  refine GL.step rfl (t_mem rfl (m_loadN (i := 0) rfl rfl ag_34 (vs := [_, _]) sz_34 ⟨rfl, rfl, trivial⟩)) ?_
  refine GL.step rfl (t_call rfl fn_34 rfl (is := []) (js := [0]) rfl rfl (by exact rgroup_ct _ _ _ _ (by first | assumption | omega))) (GL.ret ?_)
  rintro _ _ _ ⟨rfl, rfl, rfl⟩
  refine GL.pure rfl (p_neq rfl rfl) ?_
  refine GL.nil (?_ : GC _ _ _ _)
  refine GC.cond rfl (fun h1 => ?_) (fun h1 => ?_)
  · try simp only [decide_eq_true_eq, decide_eq_false_iff_not, Bool.not_eq_true', Bool.not_eq_false', Bool.not_true, Bool.not_false, Bool.not_not, ne_eq, Decidable.not_not, Int.not_lt, Int.not_le, gt_iff_lt, ge_iff_le, bool_true_eq_, bool_false_eq_, chk_iff] at h1
    refine GC.seq' ?_
    refine GC.region ?_
    refine GL.pure rfl (p_assign rfl) ?_
    refine GL.nil (?_ : GC _ _ _ _)
    refine GC.ret ?_
    refine fun a w h => Fin.back (rs := [.tmp 2]) (vs := [_]) (is := []) (js := []) rfl ⟨rfl, trivial⟩ rfl rfl ?_ h
    clear h
    refine ⟨congrArg (Value.int .i64) ?_, rfl, rfl⟩
    unfold chkE; first | rw [if_pos (by assumption)] | rw [if_neg (by assumption)]
  · try simp only [decide_eq_true_eq, decide_eq_false_iff_not, Bool.not_eq_true', Bool.not_eq_false', Bool.not_true, Bool.not_false, Bool.not_not, ne_eq, Decidable.not_not, Int.not_lt, Int.not_le, gt_iff_lt, ge_iff_le, bool_true_eq_, bool_false_eq_, chk_iff] at h1
    refine GC.skip (?_ : GC _ _ _ _)
    refine GC.seq' ?_
    refine GC.region ?_
    refine GL.pure rfl (p_assign rfl) ?_
    refine GL.nil (?_ : GC _ _ _ _)
    refine GC.ret ?_
    refine fun a w h => Fin.back (rs := [.tmp 2]) (vs := [_]) (is := []) (js := []) rfl ⟨rfl, trivial⟩ rfl rfl ?_ h
    clear h
    refine ⟨congrArg (Value.int .i64) ?_, rfl, rfl⟩
    unfold chkE; first | rw [if_pos (by assumption)] | rw [if_neg (by assumption)]
theorem quorum_ct (e : Int) (A : Option Addr) (n cp : Nat) (hl : n ≤ 140737488355328) : Ct Try.prog 32 [grpV e A n cp] [] [] (fun u G Q => u = .int .i64 ((n / 2 : Nat) + 1) ∧ G = [] ∧ Q = []) := by
  refine Ct.intro Try.func32 rfl rfl rfl (fun c hc => ?_)
  refine GC.seq' ?_
  refine GC.region ?_
  refine GL.step rfl (t_box rfl rfl rfl) (GL.ex fun b_t1 => ?_)
  refine GL.pure rfl (p_assign rfl) ?_
  refine GL.nil (?_ : GC _ _ _ _)
  refine GC.seq' ?_
  refine GC.region ?_
  refine GL.pure rfl (p_fieldAddr fo_34_1 rfl) ?_
  refine GL.step rfl (t_mem rfl (m_load (i := 0) rfl rfl ag_22 rfl)) ?_
  refine GL.pure rfl (p_len Try.underlying22 rfl) ?_
  refine GL.pure rfl (p_quo (r := ((n / 2 : Nat) : Int)) rfl rfl (by decide) (by rw [Int.tdiv_eq_ediv_of_nonneg (by omega), w64 (by omega) (by omega)]; omega)) ?_
  refine GL.pure rfl (p_add rfl rfl (w64 (by omega) (by omega))) ?_
  refine GL.pure rfl (p_assign rfl) ?_
  refine GL.nil (?_ : GC _ _ _ _)
  refine GC.ret ?_
  refine fun a w h => Fin.back (rs := [.tmp 2]) (vs := [_]) (is := []) (js := []) rfl ⟨rfl, trivial⟩ rfl rfl ?_ h
  clear h
  exact ⟨rfl, rfl, rfl⟩
theorem rquorum_ct (e : Int) (A : Option Addr) (n cp : Nat) (hl : n ≤ 140737488355328) : Ct Try.prog 33 [grpV e A n cp] [] [] (fun u G Q => u = .int .i64 ((n / 2 : Nat) + 1) ∧ G = [] ∧ Q = []) := by
  refine Ct.intro Try.func33 rfl rfl rfl (fun c hc => ?_)
  refine GC.seq' ?_
  refine GC.region ?_
  refine GL.step rfl (t_box rfl rfl rfl) (GL.ex fun b_t1 => ?_)
  refine GL.pure rfl (p_assign rfl) ?_
  refine GL.nil (?_ : GC _ _ _ _)
  refine GC.seq' ?_
  refine GC.region ?_
  refine GL.pure rfl (p_fieldAddr fo_34_1 rfl) ?_
  refine GL.step rfl (t_mem rfl (m_load (i := 0) rfl rfl ag_22 rfl)) ?_
  refine GL.pure rfl (p_len Try.underlying22 rfl) ?_
  refine GL.pure rfl (p_quo (r := ((n / 2 : Nat) : Int)) rfl rfl (by decide) (by rw [Int.tdiv_eq_ediv_of_nonneg (by omega), w64 (by omega) (by omega)]; omega)) ?_
  refine GL.pure rfl (p_add rfl rfl (w64 (by omega) (by omega))) ?_
  refine GL.pure rfl (p_assign rfl) ?_
  refine GL.nil (?_ : GC _ _ _ _)
  refine GC.ret ?_
  refine fun a w h => Fin.back (rs := [.tmp 2]) (vs := [_]) (is := []) (js := []) rfl ⟨rfl, trivial⟩ rfl rfl ?_ h
  clear h
  exact ⟨rfl, rfl, rfl⟩
theorem in_ct (A : Option Addr) (l : List Int) (cp : Nat) (x : Int) (hl : l.length ≤ 140737488355328) : Ct Try.prog 20 [.slice A l.length cp, .int .i64 x] [] [Pers.row kI A l] (fun u G Q => u = .bool (decide (x ∈ l)) ∧ G = [] ∧ Q = []) := by
  refine Ct.intro Try.func20 rfl rfl rfl (fun c hc => ?_)
  refine GC.seq' ?_
  refine GC.region ?_
  refine GL.pure rfl (p_assign rfl) ?_
  refine GL.nil (?_ : GC _ _ _ _)
  refine GC.seq' ?_
  refine GC.seq' ?_
  refine GC.region ?_
  refine GL.pure rfl (p_assign rfl) ?_
  refine GL.nil (?_ : GC _ _ _ _)
  refine GC.block ?_
  refine GC.loopK1 (ks := [0, 1]) (is := []) (js := [0]) (fun (k : Nat) => k ≤ l.length ∧ ∀ j : Nat, j < k → gt l (j : Int) ≠ x) (fun (k : Nat) => [(5, .int .i64 (k : Int))]) (fun (k : Nat) => []) (fun (k : Nat) => []) (fun (k : Nat) => l.length - k) (0) rfl rfl rfl (fun a w h => ⟨⟨by omega, fun j hj => by omega⟩, h.cutK (is := []) (js := [0]) (ks := [0, 1]) ⟨rfl, trivial⟩ rfl rfl rfl⟩) ?_
  intro k hk
  try dsimp only [List.cons_append, List.nil_append] at hk ⊢
  obtain ⟨hk, hn⟩ := hk
  refine GC.seq' ?_
  refine GC.seq' ?_
  refine GC.region ?_
  refine GL.pure rfl (p_move rfl) ?_
  refine GL.pure rfl (p_move rfl) ?_
  refine GL.pure rfl (p_len Try.underlying22 rfl) ?_
  refine GL.pure rfl (p_lss rfl rfl) ?_
  refine GL.nil (?_ : GC _ _ _ _)
  refine GC.cond rfl (fun h1 => ?_) (fun h1 => ?_)
  · try simp only [decide_eq_true_eq, decide_eq_false_iff_not, Bool.not_eq_true', Bool.not_eq_false', Bool.not_true, Bool.not_false, Bool.not_not, ne_eq, Decidable.not_not, Int.not_lt, Int.not_le, gt_iff_lt, ge_iff_le, bool_true_eq_, bool_false_eq_] at h1
    refine GC.skip (?_ : GC _ _ _ _)
    refine GC.seq' ?_
    refine GC.block ?_
    refine GC.seq' ?_
    refine GC.region ?_
    refine GL.pure rfl (p_move rfl) ?_
    refine GL.pure rfl (p_move rfl) ?_
    refine GL.step rfl (t_index (i := 0) rfl rfl rfl rfl Try.underlying22 sz_3 (by omega) (gt_ok (by omega) (by omega))) (GL.ex fun p_x14 => GL.ex fun r_x14 => GL.and fun ok_x14 => ?_)
    rcases r_x14 with _
    refine GL.step rfl (t_mem rfl (m_loadP (i := 0) rfl rfl ag_3 rfl)) ?_
    refine GL.pure rfl (p_move rfl) ?_
    refine GL.pure rfl (p_eql rfl rfl) ?_
    refine GL.nil (?_ : GC _ _ _ _)
    refine GC.cond rfl (fun h2 => ?_) (fun h2 => ?_)
    · try simp only [decide_eq_true_eq, decide_eq_false_iff_not, Bool.not_eq_true', Bool.not_eq_false', Bool.not_true, Bool.not_false, Bool.not_not, ne_eq, Decidable.not_not, Int.not_lt, Int.not_le, gt_iff_lt, ge_iff_le, bool_true_eq_, bool_false_eq_] at h2
      refine GC.seq' ?_
      refine GC.region ?_
      refine GL.pure rfl (p_assign rfl) ?_
      refine GL.nil (?_ : GC _ _ _ _)
      refine GC.ret ?_
      refine fun a w h => Fin.back (rs := [.tmp 4]) (vs := [_]) (is := []) (js := []) rfl ⟨rfl, trivial⟩ rfl rfl ?_ h
      clear h
      exact ⟨congrArg Value.bool (decide_eq_true (by have := gt_memI (l := l) (k := k) (by omega); rw [← h2]; exact this)).symm, rfl, rfl⟩
    · try simp only [decide_eq_true_eq, decide_eq_false_iff_not, Bool.not_eq_true', Bool.not_eq_false', Bool.not_true, Bool.not_false, Bool.not_not, ne_eq, Decidable.not_not, Int.not_lt, Int.not_le, gt_iff_lt, ge_iff_le, bool_true_eq_, bool_false_eq_] at h2
      refine GC.skip (?_ : GC _ _ _ _)
      refine GC.region ?_
      refine GL.pure rfl (p_move rfl) ?_
      refine GL.pure rfl (p_add rfl rfl (w64 (by omega) (by omega))) ?_
      refine GL.pure rfl (p_assign rfl) ?_
      refine GL.nil ?_
      exact fun a w h => ⟨(k + 1), (by omega), ⟨by omega, fun j hj => (Nat.lt_succ_iff_lt_or_eq.1 hj).elim (hn j) (fun e => by subst e; omega)⟩, h.cut (is := []) (js := [1]) ⟨rfl, rfl, rfl, trivial⟩ rfl rfl⟩
  · try simp only [decide_eq_true_eq, decide_eq_false_iff_not, Bool.not_eq_true', Bool.not_eq_false', Bool.not_true, Bool.not_false, Bool.not_not, ne_eq, Decidable.not_not, Int.not_lt, Int.not_le, gt_iff_lt, ge_iff_le, bool_true_eq_, bool_false_eq_] at h1
    refine GC.exit (?_ : GC _ _ _ _)
    refine GC.seq' ?_
    refine GC.region ?_
    refine GL.pure rfl (p_assign rfl) ?_
    refine GL.nil (?_ : GC _ _ _ _)
    refine GC.ret ?_
    refine fun a w h => Fin.back (rs := [.tmp 4]) (vs := [_]) (is := []) (js := []) rfl ⟨rfl, trivial⟩ rfl rfl ?_ h
    clear h
    exact ⟨congrArg Value.bool (decide_eq_false (not_mem_gt fun j hj => hn j (by omega))).symm, rfl, rfl⟩
def sameG (e : Int) (l : List Int) (f : Int) (m : List Int) : Bool := decide (e = f) && decide (l = m)
/-! ### who leads -/
def primF (e : Int) (l : List Int) (view : Int) : Int × Int := if groupOk e l = true then (if view < 0 ∨ view > 4611686018427387904 then (0, 1) else (gt l (view % (l.length : Int)), 0)) else (0, 130)
theorem primF_no {e : Int} {l : List Int} {view : Int} (h : ¬ groupOk e l = true) : primF e l view = (0, 130) := if_neg h
theorem primF_arg {e : Int} {l : List Int} {view : Int} (h : groupOk e l = true) (h2 : view < 0 ∨ view > 4611686018427387904) : primF e l view = (0, 1) := by rw [primF, if_pos h, if_pos h2]
theorem primF_yes {e : Int} {l : List Int} {view : Int} (h : groupOk e l = true) (h2 : ¬ (view < 0 ∨ view > 4611686018427387904)) : primF e l view = (gt l (view % (l.length : Int)), 0) := by rw [primF, if_pos h, if_neg h2]
theorem grp_len {e : Int} {l : List Int} (h : groupOk e l = true) : 1 ≤ l.length ∧ l.length ≤ 9 ∧ 0 ≤ e ∧ e ≤ 4611686018427387904 := by simp [groupOk] at h; omega
/-! ### the others -/
theorem others_ct (e : Int) (A : Option Addr) (l : List Int) (cp : Nat) (me : Int) (hl : l.length ≤ 1000000) : Ct Try.prog 40 [grpV e A l.length cp, .int .i64 me] [] [Pers.row kI A l]
    (fun u G Q => ∃ B cq, (l.filter fun x => !decide (x = me)).length ≤ cq ∧ cq ≤ 9223372036854775807 ∧ u = .slice B (l.filter fun x => !decide (x = me)).length cq ∧ G = [.row (.slice B (l.filter fun x => !decide (x = me)).length cq) 3 1 (l.filter fun x => !decide (x = me)).length ((l.filter fun x => !decide (x = me)).map iv)] ∧ Q = []) := by
  refine Ct.intro Try.func40 rfl rfl rfl (fun c hc => ?_)
  refine GC.seq' ?_
  refine GC.region ?_
  refine GL.step rfl (t_box rfl rfl rfl) (GL.ex fun b_t2 => ?_)
  refine GL.step rfl (t_box rfl rfl rfl) (GL.ex fun b_t3 => ?_)
  refine GL.pure rfl (p_assign rfl) ?_
  refine GL.nil (?_ : GC _ _ _ _)
  refine GC.seq' ?_
  refine GC.region ?_
  refine GL.pure rfl (p_fieldAddr fo_34_1 rfl) ?_
  refine GL.step rfl (t_mem rfl (m_load (i := 1) rfl rfl ag_22 rfl)) ?_
  refine GL.step rfl (t_call rfl fn_21 rfl (is := []) (js := [0]) rfl rfl (by exact clone_i _ _ _ (by first | assumption | omega))) (GL.ret ?_)
  rintro _ _ _ ⟨A7, cp7, l7, k7, rfl, rfl, rfl⟩
  refine GL.pure rfl (p_makeFunc rfl rfl) ?_
  refine GL.step rfl (t_call rfl fn_39 rfl (is := [0, 0]) (js := []) rfl rfl (by exact del_oth me _ _ _ _ l rfl (by omega))) (GL.ret ?_)
  rintro _ _ _ ⟨A9, cp9, l9, k9, rfl, rfl, rfl⟩
  refine GL.pure rfl (p_assign rfl) ?_
  refine GL.nil (?_ : GC _ _ _ _)
  refine GC.ret ?_
  refine fun a w h => Fin.back (rs := [.tmp 4]) (vs := [_]) (is := [0]) (js := []) rfl ⟨rfl, trivial⟩ rfl rfl ?_ h
  clear h
  exact ⟨_, _, l9, k9, rfl, rfl, rfl⟩
theorem oth_step {l : List Int} {k : Nat} {me : Int} (hk : k < l.length) : (l.take (k + 1)).filter (fun x => !decide (x = me)) = (l.take k).filter (fun x => !decide (x = me)) ++ (if gt l (k : Int) = me then [] else [gt l (k : Int)]) := by
  rw [filter_take hk]
  by_cases h : gt l (k : Int) = me <;> simp [h]
end Go.Proofs.Ytmjfkjajedhciaa

