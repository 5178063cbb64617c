/- THE VOLUME: pages laid: both. -/
import Derived.Test.YtihhpkbbhfcdcaaVp1
set_option linter.unusedVariables false
set_option linter.unusedSimpArgs false
set_option maxRecDepth 100000
namespace Go.Proofs.Ytihhpkbbhfcdcaa
open Go Go.Sx Go.Proofs

def lastOf (l : List Page) : Nat → Int
  | 0 => -1
  | k + 1 => (gt l (k : Int)).at_
theorem rlaid_ct (bl sz : Int) (A : Option Addr) (l : List Page) (cp : Nat) (hl : l.length ≤ 140737488355328) (hd : ∀ x ∈ l, x.data.length ≤ 140737488355328) : Ct Try.prog 43 [shpV bl sz, .slice A l.length cp] [] [Pers.row kPage A l] (fun u G Q => u = .bool (laidF bl sz (-1) l) ∧ G = [] ∧ Q = []) := by
  refine Ct.intro Try.func43 rfl rfl rfl (fun c hc => ?_)
  refine GC.seq' ?_
  refine GC.region ?_
  refine GL.step rfl (t_box rfl rfl rfl) (GL.ex fun b_t2 => ?_)
  refine GL.pure rfl (p_assign rfl) ?_
  refine GL.nil (?_ : GC _ _ _ _)
  refine GC.seq' ?_
  refine GC.seq' ?_
  refine GC.region ?_
  refine GL.pure rfl (p_assign rfl) ?_
  refine GL.nil (?_ : GC _ _ _ _)
  refine GC.block ?_
  refine GC.imp (fun a w h => (⟨⟨by simp, rfl, by simp [lastOf]⟩, h.cut (is := [0]) (js := [0]) ⟨rfl, rfl, rfl, trivial⟩ rfl rfl⟩ : (fun (k : Nat) (a : Act) (w : World) => (k ≤ l.length ∧ laidF bl sz (-1) l = laidF bl sz (lastOf l k) (l.drop k) ∧ -1 ≤ lastOf l k) ∧ St c 60 [(1, .slice A l.length cp), (2, .pointer (some ⟨b_t2, 0, none⟩)), (5, .int .i64 (k : Int))] [.cells b_t2 [.int .i64 bl, .int .i64 sz] 23] [Pers.row kPage A l] a w) 0 a w)) (GC.loop (fun (k : Nat) (a : Act) (w : World) => (k ≤ l.length ∧ laidF bl sz (-1) l = laidF bl sz (lastOf l k) (l.drop k) ∧ -1 ≤ lastOf l k) ∧ St c 60 [(1, .slice A l.length cp), (2, .pointer (some ⟨b_t2, 0, none⟩)), (5, .int .i64 (k : Int))] [.cells b_t2 [.int .i64 bl, .int .i64 sz] 23] [Pers.row kPage A l] a w) (fun k => l.length - k) 0 ?_)
  intro k
  refine GC.and fun hk => ?_
  obtain ⟨hk, he, hlast⟩ := hk
  refine GC.seq' ?_
  refine GC.seq' ?_
  refine GC.region ?_
  refine GL.pure rfl (p_move rfl) ?_
  refine GL.pure rfl (p_move rfl) ?_
  refine GL.pure rfl (p_len Try.underlying33 rfl) ?_
  refine GL.pure rfl (p_lss rfl rfl) ?_
  refine GL.nil (?_ : GC _ _ _ _)
  refine GC.cond rfl (fun h1 => ?_) (fun h1 => ?_)
  · try simp only [decide_eq_true_eq, decide_eq_false_iff_not, Bool.not_eq_true', Bool.not_eq_false', Bool.not_true, Bool.not_false, Bool.not_not, ne_eq, Decidable.not_not, Int.not_lt, Int.not_le, gt_iff_lt, ge_iff_le, bool_true_eq_, bool_false_eq_] at h1
    first
    | (exfalso; omega)
    | (skip
       refine GC.skip (?_ : GC _ _ _ _)
       refine GC.seq' ?_
       refine GC.block ?_
       refine GC.seq' ?_
       refine GC.region ?_
       refine GL.pure rfl (p_move rfl) ?_
       refine GL.pure rfl (p_move rfl) ?_
       refine GL.step rfl (t_index (i := 0) rfl rfl rfl rfl Try.underlying33 sz_71 (by omega) (gt_ok (by omega) (by omega))) (GL.ex fun p_x15 => GL.ex fun r_x15 => GL.and fun ok_x15 => ?_)
       rcases r_x15 with ⟨_, ⟨_, ⟨Ax15_0, cpx15_0⟩⟩⟩
       refine GL.step rfl (t_mem rfl (m_loadPN (i := 0) rfl rfl ag_71 (vs := [_, _, _]) sz_71 ⟨rfl, rfl, rfl, trivial⟩)) ?_
       refine GL.step rfl (t_alloc rfl ze_71) (GL.ex fun b_t6 => ?_)
       refine GL.step rfl (t_storeN (i := 0) rfl rfl rfl sz_71 rfl rfl rfl) ?_
       refine GL.nil (?_ : GC _ _ _ _)
       refine GC.seq' ?_
       rcases k with _ | k
       · skip
         refine GC.regionQ wide_ (by kernel_rfl) ?_
         refine GQ.step rfl (q_pure (p_fieldAddr fo_71_0 rfl)) ?_
         refine GQ.step rfl (q_mem (m_load (i := 0) rfl rfl ag_3 rfl)) ?_
         refine GQ.step rfl (q_pure (p_lss rfl rfl)) ?_
         refine GQ.step rfl (q_pure (p_move rfl)) ?_
         refine GQ.split (i := 20) rfl (fun h2 => ?_) (fun h2 => ?_)
         · try simp only [decide_eq_true_eq, decide_eq_false_iff_not, Bool.not_eq_true', Bool.not_eq_false', Bool.not_true, Bool.not_false, Bool.not_not, ne_eq, Decidable.not_not, Int.not_lt, Int.not_le, gt_iff_lt, ge_iff_le, bool_true_eq_, bool_false_eq_] at h2
           first
           | (exfalso; omega)
           | (skip
              refine GQ.pass (s := 20) rfl rfl rfl ?_
              refine GQ.pass (s := 20) rfl rfl rfl ?_
              refine GQ.pass (s := 20) rfl rfl rfl ?_
              refine GQ.pass (s := 20) rfl rfl rfl ?_
              refine GQ.pass (s := 20) rfl rfl rfl ?_
              refine GQ.step rfl (q_pure (p_pick_true rfl rfl)) ?_
              refine GQ.step rfl (q_pure (p_move rfl)) ?_
              refine GQ.pass (s := 27) rfl rfl rfl ?_
              refine GQ.pass (s := 27) rfl rfl rfl ?_
              refine GQ.pass (s := 27) rfl rfl rfl ?_
              refine GQ.passU (s := 30) rfl rfl rfl ?_
              refine GQ.passU (s := 30) rfl rfl rfl ?_
              refine GQ.passU (s := 30) rfl rfl rfl ?_
              refine GQ.passU (s := 30) rfl rfl rfl ?_
              refine GQ.passU (s := 30) rfl rfl rfl ?_
              refine GQ.passU (s := 30) rfl rfl rfl ?_
              refine GQ.passU (s := 30) rfl rfl rfl ?_
              refine GQ.passU (s := 30) rfl rfl rfl ?_
              refine GQ.passU (s := 30) rfl rfl rfl ?_
              refine GQ.pass (s := 27) rfl rfl rfl ?_
              refine GQ.step rfl (q_pure (p_pick_true rfl rfl)) ?_
              refine GQ.step rfl (q_pure (p_move rfl)) ?_
              refine GQ.pass (s := 42) rfl rfl rfl ?_
              refine GQ.pass (s := 42) rfl rfl rfl ?_
              refine GQ.pass (s := 42) rfl rfl rfl ?_
              refine GQ.step rfl (q_pure (p_pick_true rfl rfl)) ?_
              refine GQ.step rfl (q_pure (p_move rfl)) ?_
              refine GQ.pass (s := 47) rfl rfl rfl ?_
              refine GQ.pass (s := 47) rfl rfl rfl ?_
              refine GQ.pass (s := 47) rfl rfl rfl ?_
              refine GQ.step rfl (q_pure (p_pick_true rfl rfl)) ?_
              refine GQ.step rfl (q_pure (p_move rfl)) ?_
              refine GQ.pass (s := 52) rfl rfl rfl ?_
              refine GQ.pass (s := 52) rfl rfl rfl ?_
              refine GQ.pass (s := 52) rfl rfl rfl ?_
              refine GQ.pass (s := 52) rfl rfl rfl ?_
              refine GQ.pass (s := 52) rfl rfl rfl ?_
              refine GQ.pass (s := 52) rfl rfl rfl ?_
              refine GQ.step rfl (q_pure (p_pick_true rfl rfl)) ?_
              refine GQ.nil (?_ : GC _ _ _ _)
              refine GC.cond_true rfl ?_
              refine GC.seq' ?_
              refine GC.region ?_
              refine GL.pure rfl (p_assign rfl) ?_
              refine GL.nil (?_ : GC _ _ _ _)
              refine GC.ret ?_
              refine fun a w h => Fin.back (rs := [.tmp 4]) (vs := [_]) (is := []) (js := []) rfl ⟨rfl, trivial⟩ rfl rfl ?_ h
              clear h
              first | (exact ⟨by rw [he, laidF_end (by omega)]; rfl, rfl, rfl⟩) | (exact ⟨by rw [he, laidF_bad (by omega) (by unfold badP; (try simp only [lastOf] at *); (try simp only [show ∀ x : Nat, ((x + 1 : Nat) : Int) - 1 = x by omega] at *); omega)]; rfl, rfl, rfl⟩))
         · try simp only [decide_eq_true_eq, decide_eq_false_iff_not, Bool.not_eq_true', Bool.not_eq_false', Bool.not_true, Bool.not_false, Bool.not_not, ne_eq, Decidable.not_not, Int.not_lt, Int.not_le, gt_iff_lt, ge_iff_le, bool_true_eq_, bool_false_eq_] at h2
           first
           | (exfalso; omega)
           | (skip
              refine GQ.stepG (s := 20) rfl rfl rfl (q_pure (p_fieldAddr fo_71_0 rfl)) ?_
              refine GQ.stepG (s := 20) rfl rfl rfl (q_mem (m_load (i := 0) rfl rfl ag_3 rfl)) ?_
              refine GQ.stepG (s := 20) rfl rfl rfl (q_pure (p_fieldAddr fo_23_0 rfl)) ?_
              refine GQ.stepG (s := 20) rfl rfl rfl (q_mem (m_load (i := 1) rfl rfl ag_3 rfl)) ?_
              refine GQ.stepG (s := 20) rfl rfl rfl (q_pure (p_geq rfl rfl)) ?_
              refine GQ.step rfl (q_pure (p_pick_false rfl rfl)) ?_
              refine GQ.step rfl (q_pure (p_move rfl)) ?_
              refine GQ.split (i := 27) rfl (fun h3 => ?_) (fun h3 => ?_)
              · try simp only [decide_eq_true_eq, decide_eq_false_iff_not, Bool.not_eq_true', Bool.not_eq_false', Bool.not_true, Bool.not_false, Bool.not_not, ne_eq, Decidable.not_not, Int.not_lt, Int.not_le, gt_iff_lt, ge_iff_le, bool_true_eq_, bool_false_eq_] at h3
                first
                | (exfalso; omega)
                | (skip
                   refine GQ.pass (s := 27) rfl rfl rfl ?_
                   refine GQ.pass (s := 27) rfl rfl rfl ?_
                   refine GQ.pass (s := 27) rfl rfl rfl ?_
                   refine GQ.passU (s := 30) rfl rfl rfl ?_
                   refine GQ.passU (s := 30) rfl rfl rfl ?_
                   refine GQ.passU (s := 30) rfl rfl rfl ?_
                   refine GQ.passU (s := 30) rfl rfl rfl ?_
                   refine GQ.passU (s := 30) rfl rfl rfl ?_
                   refine GQ.passU (s := 30) rfl rfl rfl ?_
                   refine GQ.passU (s := 30) rfl rfl rfl ?_
                   refine GQ.passU (s := 30) rfl rfl rfl ?_
                   refine GQ.passU (s := 30) rfl rfl rfl ?_
                   refine GQ.pass (s := 27) rfl rfl rfl ?_
                   refine GQ.step rfl (q_pure (p_pick_true rfl rfl)) ?_
                   refine GQ.step rfl (q_pure (p_move rfl)) ?_
                   refine GQ.pass (s := 42) rfl rfl rfl ?_
                   refine GQ.pass (s := 42) rfl rfl rfl ?_
                   refine GQ.pass (s := 42) rfl rfl rfl ?_
                   refine GQ.step rfl (q_pure (p_pick_true rfl rfl)) ?_
                   refine GQ.step rfl (q_pure (p_move rfl)) ?_
                   refine GQ.pass (s := 47) rfl rfl rfl ?_
                   refine GQ.pass (s := 47) rfl rfl rfl ?_
                   refine GQ.pass (s := 47) rfl rfl rfl ?_
                   refine GQ.step rfl (q_pure (p_pick_true rfl rfl)) ?_
                   refine GQ.step rfl (q_pure (p_move rfl)) ?_
                   refine GQ.pass (s := 52) rfl rfl rfl ?_
                   refine GQ.pass (s := 52) rfl rfl rfl ?_
                   refine GQ.pass (s := 52) rfl rfl rfl ?_
                   refine GQ.pass (s := 52) rfl rfl rfl ?_
                   refine GQ.pass (s := 52) rfl rfl rfl ?_
                   refine GQ.pass (s := 52) rfl rfl rfl ?_
                   refine GQ.step rfl (q_pure (p_pick_true rfl rfl)) ?_
                   refine GQ.nil (?_ : GC _ _ _ _)
                   refine GC.cond_true rfl ?_
                   refine GC.seq' ?_
                   refine GC.region ?_
                   refine GL.pure rfl (p_assign rfl) ?_
                   refine GL.nil (?_ : GC _ _ _ _)
                   refine GC.ret ?_
                   refine fun a w h => Fin.back (rs := [.tmp 4]) (vs := [_]) (is := []) (js := []) rfl ⟨rfl, trivial⟩ rfl rfl ?_ h
                   clear h
                   first | (exact ⟨by rw [he, laidF_end (by omega)]; rfl, rfl, rfl⟩) | (exact ⟨by rw [he, laidF_bad (by omega) (by unfold badP; (try simp only [lastOf] at *); (try simp only [show ∀ x : Nat, ((x + 1 : Nat) : Int) - 1 = x by omega] at *); omega)]; rfl, rfl, rfl⟩))
              · try simp only [decide_eq_true_eq, decide_eq_false_iff_not, Bool.not_eq_true', Bool.not_eq_false', Bool.not_true, Bool.not_false, Bool.not_not, ne_eq, Decidable.not_not, Int.not_lt, Int.not_le, gt_iff_lt, ge_iff_le, bool_true_eq_, bool_false_eq_] at h3
                first
                | (exfalso; omega)
                | (skip
                   refine GQ.stepG (s := 27) rfl rfl rfl (q_pure (p_move rfl)) ?_
                   refine GQ.stepG (s := 27) rfl rfl rfl (q_pure (p_gtr rfl rfl)) ?_
                   refine GQ.stepG (s := 27) rfl rfl rfl (q_pure (p_move rfl)) ?_
                   refine GQ.split (i := 30) rfl (fun h4 => ?_) (fun h4 => ?_)
                   · try simp only [decide_eq_true_eq, decide_eq_false_iff_not, Bool.not_eq_true', Bool.not_eq_false', Bool.not_true, Bool.not_false, Bool.not_not, ne_eq, Decidable.not_not, Int.not_lt, Int.not_le, gt_iff_lt, ge_iff_le, bool_true_eq_, bool_false_eq_] at h4
                     first
                     | (exfalso; omega)
                     | (skip
                        refine GQ.stepG (s := 30) rfl rfl rfl (q_pure (p_fieldAddr fo_71_0 rfl)) ?_
                        refine GQ.stepG (s := 30) rfl rfl rfl (q_mem (m_load (i := 0) rfl rfl ag_3 rfl)) ?_
                        refine GQ.stepG (s := 30) rfl rfl rfl (q_pure (p_move rfl)) ?_
                        refine GQ.stepG (s := 30) rfl rfl rfl (q_pure (p_move rfl)) ?_
                        refine GQ.stepG (s := 30) rfl rfl rfl (q_pure (p_sub rfl rfl (w64 (by omega) (by omega)))) ?_
                        exact (by omega : False).elim)
                   · try simp only [decide_eq_true_eq, decide_eq_false_iff_not, Bool.not_eq_true', Bool.not_eq_false', Bool.not_true, Bool.not_false, Bool.not_not, ne_eq, Decidable.not_not, Int.not_lt, Int.not_le, gt_iff_lt, ge_iff_le, bool_true_eq_, bool_false_eq_] at h4
                     first
                     | (exfalso; omega)
                     | (skip
                        refine GQ.pass (s := 30) rfl rfl rfl ?_
                        refine GQ.pass (s := 30) rfl rfl rfl ?_
                        refine GQ.pass (s := 30) rfl rfl rfl ?_
                        refine GQ.pass (s := 30) rfl rfl rfl ?_
                        refine GQ.pass (s := 30) rfl rfl rfl ?_
                        refine GQ.pass (s := 30) rfl rfl rfl ?_
                        refine GQ.pass (s := 30) rfl rfl rfl ?_
                        refine GQ.pass (s := 30) rfl rfl rfl ?_
                        refine GQ.pass (s := 30) rfl rfl rfl ?_
                        refine GQ.stepG (s := 27) rfl rfl rfl (q_pure (p_pick_false rfl rfl)) ?_
                        refine GQ.step rfl (q_pure (p_pick_false rfl rfl)) ?_
                        refine GQ.step rfl (q_pure (p_move rfl)) ?_
                        refine GQ.stepG (s := 42) rfl rfl rfl (q_pure (p_fieldAddr fo_71_1 rfl)) ?_
                        refine GQ.stepG (s := 42) rfl rfl rfl (q_mem (m_load (i := 0) rfl rfl ag_3 rfl)) ?_
                        refine GQ.stepG (s := 42) rfl rfl rfl (q_pure (p_lss rfl rfl)) ?_
                        refine GQ.step rfl (q_pure (p_pick_false rfl rfl)) ?_
                        refine GQ.step rfl (q_pure (p_move rfl)) ?_
                        refine GQ.split (i := 47) rfl (fun h5 => ?_) (fun h5 => ?_)
                        · try simp only [decide_eq_true_eq, decide_eq_false_iff_not, Bool.not_eq_true', Bool.not_eq_false', Bool.not_true, Bool.not_false, Bool.not_not, ne_eq, Decidable.not_not, Int.not_lt, Int.not_le, gt_iff_lt, ge_iff_le, bool_true_eq_, bool_false_eq_] at h5
                          first
                          | (exfalso; omega)
                          | (skip
                             refine GQ.pass (s := 47) rfl rfl rfl ?_
                             refine GQ.pass (s := 47) rfl rfl rfl ?_
                             refine GQ.pass (s := 47) rfl rfl rfl ?_
                             refine GQ.step rfl (q_pure (p_pick_true rfl rfl)) ?_
                             refine GQ.step rfl (q_pure (p_move rfl)) ?_
                             refine GQ.pass (s := 52) rfl rfl rfl ?_
                             refine GQ.pass (s := 52) rfl rfl rfl ?_
                             refine GQ.pass (s := 52) rfl rfl rfl ?_
                             refine GQ.pass (s := 52) rfl rfl rfl ?_
                             refine GQ.pass (s := 52) rfl rfl rfl ?_
                             refine GQ.pass (s := 52) rfl rfl rfl ?_
                             refine GQ.step rfl (q_pure (p_pick_true rfl rfl)) ?_
                             refine GQ.nil (?_ : GC _ _ _ _)
                             refine GC.cond_true rfl ?_
                             refine GC.seq' ?_
                             refine GC.region ?_
                             refine GL.pure rfl (p_assign rfl) ?_
                             refine GL.nil (?_ : GC _ _ _ _)
                             refine GC.ret ?_
                             refine fun a w h => Fin.back (rs := [.tmp 4]) (vs := [_]) (is := []) (js := []) rfl ⟨rfl, trivial⟩ rfl rfl ?_ h
                             clear h
                             first | (exact ⟨by rw [he, laidF_end (by omega)]; rfl, rfl, rfl⟩) | (exact ⟨by rw [he, laidF_bad (by omega) (by unfold badP; (try simp only [lastOf] at *); (try simp only [show ∀ x : Nat, ((x + 1 : Nat) : Int) - 1 = x by omega] at *); omega)]; rfl, rfl, rfl⟩))
                        · try simp only [decide_eq_true_eq, decide_eq_false_iff_not, Bool.not_eq_true', Bool.not_eq_false', Bool.not_true, Bool.not_false, Bool.not_not, ne_eq, Decidable.not_not, Int.not_lt, Int.not_le, gt_iff_lt, ge_iff_le, bool_true_eq_, bool_false_eq_] at h5
                          first
                          | (exfalso; omega)
                          | (skip
                             refine GQ.stepG (s := 47) rfl rfl rfl (q_pure (p_fieldAddr fo_71_1 rfl)) ?_
                             refine GQ.stepG (s := 47) rfl rfl rfl (q_mem (m_load (i := 0) rfl rfl ag_3 rfl)) ?_
                             refine GQ.stepG (s := 47) rfl rfl rfl (q_pure (p_gtr rfl rfl)) ?_
                             refine GQ.step rfl (q_pure (p_pick_false rfl rfl)) ?_
                             refine GQ.step rfl (q_pure (p_move rfl)) ?_
                             refine GQ.split (i := 52) rfl (fun h6 => ?_) (fun h6 => ?_)
                             · try simp only [decide_eq_true_eq, decide_eq_false_iff_not, Bool.not_eq_true', Bool.not_eq_false', Bool.not_true, Bool.not_false, Bool.not_not, ne_eq, Decidable.not_not, Int.not_lt, Int.not_le, gt_iff_lt, ge_iff_le, bool_true_eq_, bool_false_eq_] at h6
                               first
                               | (exfalso; omega)
                               | (skip
                                  refine GQ.pass (s := 52) rfl rfl rfl ?_
                                  refine GQ.pass (s := 52) rfl rfl rfl ?_
                                  refine GQ.pass (s := 52) rfl rfl rfl ?_
                                  refine GQ.pass (s := 52) rfl rfl rfl ?_
                                  refine GQ.pass (s := 52) rfl rfl rfl ?_
                                  refine GQ.pass (s := 52) rfl rfl rfl ?_
                                  refine GQ.step rfl (q_pure (p_pick_true rfl rfl)) ?_
                                  refine GQ.nil (?_ : GC _ _ _ _)
                                  refine GC.cond_true rfl ?_
                                  refine GC.seq' ?_
                                  refine GC.region ?_
                                  refine GL.pure rfl (p_assign rfl) ?_
                                  refine GL.nil (?_ : GC _ _ _ _)
                                  refine GC.ret ?_
                                  refine fun a w h => Fin.back (rs := [.tmp 4]) (vs := [_]) (is := []) (js := []) rfl ⟨rfl, trivial⟩ rfl rfl ?_ h
                                  clear h
                                  first | (exact ⟨by rw [he, laidF_end (by omega)]; rfl, rfl, rfl⟩) | (exact ⟨by rw [he, laidF_bad (by omega) (by unfold badP; (try simp only [lastOf] at *); (try simp only [show ∀ x : Nat, ((x + 1 : Nat) : Int) - 1 = x by omega] at *); omega)]; rfl, rfl, rfl⟩))
                             · try simp only [decide_eq_true_eq, decide_eq_false_iff_not, Bool.not_eq_true', Bool.not_eq_false', Bool.not_true, Bool.not_false, Bool.not_not, ne_eq, Decidable.not_not, Int.not_lt, Int.not_le, gt_iff_lt, ge_iff_le, bool_true_eq_, bool_false_eq_] at h6
                               first
                               | (exfalso; omega)
                               | (skip
                                  refine GQ.stepG (s := 52) rfl rfl rfl (q_pure (p_fieldAddr fo_71_2 rfl)) ?_
                                  refine GQ.stepG (s := 52) rfl rfl rfl (q_mem (m_load (i := 0) rfl rfl ag_31 rfl)) ?_
                                  refine GQ.stepG (s := 52) rfl rfl rfl (q_pure (p_len Try.underlying31 rfl)) ?_
                                  refine GQ.stepG (s := 52) rfl rfl rfl (q_pure (p_fieldAddr fo_23_1 rfl)) ?_
                                  refine GQ.stepG (s := 52) rfl rfl rfl (q_mem (m_load (i := 1) rfl rfl ag_3 rfl)) ?_
                                  refine GQ.stepG (s := 52) rfl rfl rfl (q_pure (p_neq rfl rfl)) ?_
                                  refine GQ.step rfl (q_pure (p_pick_false rfl rfl)) ?_
                                  refine GQ.nil (?_ : GC _ _ _ _)
                                  refine GC.cond rfl (fun h7 => ?_) (fun h7 => ?_)
                                  · try simp only [decide_eq_true_eq, decide_eq_false_iff_not, Bool.not_eq_true', Bool.not_eq_false', Bool.not_true, Bool.not_false, Bool.not_not, ne_eq, Decidable.not_not, Int.not_lt, Int.not_le, gt_iff_lt, ge_iff_le, bool_true_eq_, bool_false_eq_] at h7
                                    first
                                    | (exfalso; omega)
                                    | (skip
                                       refine GC.seq' ?_
                                       refine GC.region ?_
                                       refine GL.pure rfl (p_assign rfl) ?_
                                       refine GL.nil (?_ : GC _ _ _ _)
                                       refine GC.ret ?_
                                       refine fun a w h => Fin.back (rs := [.tmp 4]) (vs := [_]) (is := []) (js := []) rfl ⟨rfl, trivial⟩ rfl rfl ?_ h
                                       clear h
                                       first | (exact ⟨by rw [he, laidF_end (by omega)]; rfl, rfl, rfl⟩) | (exact ⟨by rw [he, laidF_bad (by omega) (by unfold badP; (try simp only [lastOf] at *); (try simp only [show ∀ x : Nat, ((x + 1 : Nat) : Int) - 1 = x by omega] at *); omega)]; rfl, rfl, rfl⟩))
                                  · try simp only [decide_eq_true_eq, decide_eq_false_iff_not, Bool.not_eq_true', Bool.not_eq_false', Bool.not_true, Bool.not_false, Bool.not_not, ne_eq, Decidable.not_not, Int.not_lt, Int.not_le, gt_iff_lt, ge_iff_le, bool_true_eq_, bool_false_eq_] at h7
                                    first
                                    | (exfalso; omega)
                                    | (skip
                                       refine GC.skip (?_ : GC _ _ _ _)
                                       refine GC.region ?_
                                       refine GL.pure rfl (p_move rfl) ?_
                                       refine GL.pure rfl (p_add rfl rfl (w64 (by omega) (by omega))) ?_
                                       refine GL.pure rfl (p_assign rfl) ?_
                                       refine GL.nil ?_
                                       exact fun a w h => ⟨(_ + 1), (by omega), ⟨by omega, by rw [he]; exact laidF_ok (by omega) (by unfold badP; (try simp only [lastOf] at *); (try simp only [show ∀ x : Nat, ((x + 1 : Nat) : Int) - 1 = x by omega] at *); omega), by simp only [lastOf]; omega⟩, h.cut (is := [1]) (js := [2]) ⟨rfl, rfl, rfl, trivial⟩ rfl rfl⟩))))))
       · skip
         refine GC.lay (x := .tmp 1) (y := .const (.int .i64 (((k + 1 : Nat) : Int) - 1))) (j := 2) rfl rfl rfl (by omega) (gt_ok (by omega) (by omega)) (fun p_xp r_xp hA_xp ok_xp => ?_)
         rcases r_xp with ⟨_, ⟨_, ⟨Axp_0, cpxp_0⟩⟩⟩
         refine GC.regionQ wide_ (by kernel_rfl) ?_
         refine GQ.step rfl (q_pure (p_fieldAddr fo_71_0 rfl)) ?_
         refine GQ.step rfl (q_mem (m_load (i := 0) rfl rfl ag_3 rfl)) ?_
         refine GQ.step rfl (q_pure (p_lss rfl rfl)) ?_
         refine GQ.step rfl (q_pure (p_move rfl)) ?_
         refine GQ.split (i := 20) rfl (fun h8 => ?_) (fun h8 => ?_)
         · try simp only [decide_eq_true_eq, decide_eq_false_iff_not, Bool.not_eq_true', Bool.not_eq_false', Bool.not_true, Bool.not_false, Bool.not_not, ne_eq, Decidable.not_not, Int.not_lt, Int.not_le, gt_iff_lt, ge_iff_le, bool_true_eq_, bool_false_eq_] at h8
           first
           | (exfalso; omega)
           | (skip
              refine GQ.pass (s := 20) rfl rfl rfl ?_
              refine GQ.pass (s := 20) rfl rfl rfl ?_
              refine GQ.pass (s := 20) rfl rfl rfl ?_
              refine GQ.pass (s := 20) rfl rfl rfl ?_
              refine GQ.pass (s := 20) rfl rfl rfl ?_
              refine GQ.step rfl (q_pure (p_pick_true rfl rfl)) ?_
              refine GQ.step rfl (q_pure (p_move rfl)) ?_
              refine GQ.pass (s := 27) rfl rfl rfl ?_
              refine GQ.pass (s := 27) rfl rfl rfl ?_
              refine GQ.pass (s := 27) rfl rfl rfl ?_
              refine GQ.passU (s := 30) rfl rfl rfl ?_
              refine GQ.passU (s := 30) rfl rfl rfl ?_
              refine GQ.passU (s := 30) rfl rfl rfl ?_
              refine GQ.passU (s := 30) rfl rfl rfl ?_
              refine GQ.passU (s := 30) rfl rfl rfl ?_
              refine GQ.passU (s := 30) rfl rfl rfl ?_
              refine GQ.passU (s := 30) rfl rfl rfl ?_
              refine GQ.passU (s := 30) rfl rfl rfl ?_
              refine GQ.passU (s := 30) rfl rfl rfl ?_
              refine GQ.pass (s := 27) rfl rfl rfl ?_
              refine GQ.step rfl (q_pure (p_pick_true rfl rfl)) ?_
              refine GQ.step rfl (q_pure (p_move rfl)) ?_
              refine GQ.pass (s := 42) rfl rfl rfl ?_
              refine GQ.pass (s := 42) rfl rfl rfl ?_
              refine GQ.pass (s := 42) rfl rfl rfl ?_
              refine GQ.step rfl (q_pure (p_pick_true rfl rfl)) ?_
              refine GQ.step rfl (q_pure (p_move rfl)) ?_
              refine GQ.pass (s := 47) rfl rfl rfl ?_
              refine GQ.pass (s := 47) rfl rfl rfl ?_
              refine GQ.pass (s := 47) rfl rfl rfl ?_
              refine GQ.step rfl (q_pure (p_pick_true rfl rfl)) ?_
              refine GQ.step rfl (q_pure (p_move rfl)) ?_
              refine GQ.pass (s := 52) rfl rfl rfl ?_
              refine GQ.pass (s := 52) rfl rfl rfl ?_
              refine GQ.pass (s := 52) rfl rfl rfl ?_
              refine GQ.pass (s := 52) rfl rfl rfl ?_
              refine GQ.pass (s := 52) rfl rfl rfl ?_
              refine GQ.pass (s := 52) rfl rfl rfl ?_
              refine GQ.step rfl (q_pure (p_pick_true rfl rfl)) ?_
              refine GQ.nil (?_ : GC _ _ _ _)
              refine GC.cond_true rfl ?_
              refine GC.seq' ?_
              refine GC.region ?_
              refine GL.pure rfl (p_assign rfl) ?_
              refine GL.nil (?_ : GC _ _ _ _)
              refine GC.ret ?_
              refine fun a w h => Fin.back (rs := [.tmp 4]) (vs := [_]) (is := []) (js := []) rfl ⟨rfl, trivial⟩ rfl rfl ?_ h
              clear h
              first | (exact ⟨by rw [he, laidF_end (by omega)]; rfl, rfl, rfl⟩) | (exact ⟨by rw [he, laidF_bad (by omega) (by unfold badP; (try simp only [lastOf] at *); (try simp only [show ∀ x : Nat, ((x + 1 : Nat) : Int) - 1 = x by omega] at *); omega)]; rfl, rfl, rfl⟩))
         · try simp only [decide_eq_true_eq, decide_eq_false_iff_not, Bool.not_eq_true', Bool.not_eq_false', Bool.not_true, Bool.not_false, Bool.not_not, ne_eq, Decidable.not_not, Int.not_lt, Int.not_le, gt_iff_lt, ge_iff_le, bool_true_eq_, bool_false_eq_] at h8
           first
           | (exfalso; omega)
           | (skip
              refine GQ.stepG (s := 20) rfl rfl rfl (q_pure (p_fieldAddr fo_71_0 rfl)) ?_
              refine GQ.stepG (s := 20) rfl rfl rfl (q_mem (m_load (i := 0) rfl rfl ag_3 rfl)) ?_
              refine GQ.stepG (s := 20) rfl rfl rfl (q_pure (p_fieldAddr fo_23_0 rfl)) ?_
              refine GQ.stepG (s := 20) rfl rfl rfl (q_mem (m_load (i := 1) rfl rfl ag_3 rfl)) ?_
              refine GQ.stepG (s := 20) rfl rfl rfl (q_pure (p_geq rfl rfl)) ?_
              refine GQ.step rfl (q_pure (p_pick_false rfl rfl)) ?_
              refine GQ.step rfl (q_pure (p_move rfl)) ?_
              refine GQ.split (i := 27) rfl (fun h9 => ?_) (fun h9 => ?_)
              · try simp only [decide_eq_true_eq, decide_eq_false_iff_not, Bool.not_eq_true', Bool.not_eq_false', Bool.not_true, Bool.not_false, Bool.not_not, ne_eq, Decidable.not_not, Int.not_lt, Int.not_le, gt_iff_lt, ge_iff_le, bool_true_eq_, bool_false_eq_] at h9
                first
                | (exfalso; omega)
                | (skip
                   refine GQ.pass (s := 27) rfl rfl rfl ?_
                   refine GQ.pass (s := 27) rfl rfl rfl ?_
                   refine GQ.pass (s := 27) rfl rfl rfl ?_
                   refine GQ.passU (s := 30) rfl rfl rfl ?_
                   refine GQ.passU (s := 30) rfl rfl rfl ?_
                   refine GQ.passU (s := 30) rfl rfl rfl ?_
                   refine GQ.passU (s := 30) rfl rfl rfl ?_
                   refine GQ.passU (s := 30) rfl rfl rfl ?_
                   refine GQ.passU (s := 30) rfl rfl rfl ?_
                   refine GQ.passU (s := 30) rfl rfl rfl ?_
                   refine GQ.passU (s := 30) rfl rfl rfl ?_
                   refine GQ.passU (s := 30) rfl rfl rfl ?_
                   refine GQ.pass (s := 27) rfl rfl rfl ?_
                   refine GQ.step rfl (q_pure (p_pick_true rfl rfl)) ?_
                   refine GQ.step rfl (q_pure (p_move rfl)) ?_
                   refine GQ.pass (s := 42) rfl rfl rfl ?_
                   refine GQ.pass (s := 42) rfl rfl rfl ?_
                   refine GQ.pass (s := 42) rfl rfl rfl ?_
                   refine GQ.step rfl (q_pure (p_pick_true rfl rfl)) ?_
                   refine GQ.step rfl (q_pure (p_move rfl)) ?_
                   refine GQ.pass (s := 47) rfl rfl rfl ?_
                   refine GQ.pass (s := 47) rfl rfl rfl ?_
                   refine GQ.pass (s := 47) rfl rfl rfl ?_
                   refine GQ.step rfl (q_pure (p_pick_true rfl rfl)) ?_
                   refine GQ.step rfl (q_pure (p_move rfl)) ?_
                   refine GQ.pass (s := 52) rfl rfl rfl ?_
                   refine GQ.pass (s := 52) rfl rfl rfl ?_
                   refine GQ.pass (s := 52) rfl rfl rfl ?_
                   refine GQ.pass (s := 52) rfl rfl rfl ?_
                   refine GQ.pass (s := 52) rfl rfl rfl ?_
                   refine GQ.pass (s := 52) rfl rfl rfl ?_
                   refine GQ.step rfl (q_pure (p_pick_true rfl rfl)) ?_
                   refine GQ.nil (?_ : GC _ _ _ _)
                   refine GC.cond_true rfl ?_
                   refine GC.seq' ?_
                   refine GC.region ?_
                   refine GL.pure rfl (p_assign rfl) ?_
                   refine GL.nil (?_ : GC _ _ _ _)
                   refine GC.ret ?_
                   refine fun a w h => Fin.back (rs := [.tmp 4]) (vs := [_]) (is := []) (js := []) rfl ⟨rfl, trivial⟩ rfl rfl ?_ h
                   clear h
                   first | (exact ⟨by rw [he, laidF_end (by omega)]; rfl, rfl, rfl⟩) | (exact ⟨by rw [he, laidF_bad (by omega) (by unfold badP; (try simp only [lastOf] at *); (try simp only [show ∀ x : Nat, ((x + 1 : Nat) : Int) - 1 = x by omega] at *); omega)]; rfl, rfl, rfl⟩))
              · try simp only [decide_eq_true_eq, decide_eq_false_iff_not, Bool.not_eq_true', Bool.not_eq_false', Bool.not_true, Bool.not_false, Bool.not_not, ne_eq, Decidable.not_not, Int.not_lt, Int.not_le, gt_iff_lt, ge_iff_le, bool_true_eq_, bool_false_eq_] at h9
                first
                | (exfalso; omega)
                | (skip
                   refine GQ.stepG (s := 27) rfl rfl rfl (q_pure (p_move rfl)) ?_
                   refine GQ.stepG (s := 27) rfl rfl rfl (q_pure (p_gtr rfl rfl)) ?_
                   refine GQ.stepG (s := 27) rfl rfl rfl (q_pure (p_move rfl)) ?_
                   refine GQ.split (i := 30) rfl (fun h10 => ?_) (fun h10 => ?_)
                   · try simp only [decide_eq_true_eq, decide_eq_false_iff_not, Bool.not_eq_true', Bool.not_eq_false', Bool.not_true, Bool.not_false, Bool.not_not, ne_eq, Decidable.not_not, Int.not_lt, Int.not_le, gt_iff_lt, ge_iff_le, bool_true_eq_, bool_false_eq_] at h10
                     first
                     | (exfalso; omega)
                     | (skip
                        refine GQ.stepG (s := 30) rfl rfl rfl (q_pure (p_fieldAddr fo_71_0 rfl)) ?_
                        refine GQ.stepG (s := 30) rfl rfl rfl (q_mem (m_load (i := 0) rfl rfl ag_3 rfl)) ?_
                        refine GQ.stepG (s := 30) rfl rfl rfl (q_pure (p_move rfl)) ?_
                        refine GQ.stepG (s := 30) rfl rfl rfl (q_pure (p_move rfl)) ?_
                        refine GQ.stepG (s := 30) rfl rfl rfl (q_pure (p_sub rfl rfl (w64 (by omega) (by omega)))) ?_
                        refine GQ.stepG (s := 30) rfl rfl rfl (q_pure (p_indexL hA_xp rfl rfl Try.underlying33 sz_71 (by omega) (by omega))) ?_
                        refine GQ.stepG (s := 30) rfl rfl rfl (q_pure (p_fieldAddr' fo_71_0 rfl)) ?_
                        refine GQ.stepG (s := 30) rfl rfl rfl (q_mem (m_loadP (i := 0) rfl rfl ag_3 rfl)) ?_
                        refine GQ.stepG (s := 30) rfl rfl rfl (q_pure (p_leq rfl rfl)) ?_
                        refine GQ.stepG (s := 27) rfl rfl rfl (q_pure (p_pick_true rfl rfl)) ?_
                        refine GQ.step rfl (q_pure (p_pick_false rfl rfl)) ?_
                        refine GQ.step rfl (q_pure (p_move rfl)) ?_
                        refine GQ.split (i := 42) rfl (fun h11 => ?_) (fun h11 => ?_)
                        · try simp only [decide_eq_true_eq, decide_eq_false_iff_not, Bool.not_eq_true', Bool.not_eq_false', Bool.not_true, Bool.not_false, Bool.not_not, ne_eq, Decidable.not_not, Int.not_lt, Int.not_le, gt_iff_lt, ge_iff_le, bool_true_eq_, bool_false_eq_] at h11
                          first
                          | (exfalso; omega)
                          | (skip
                             refine GQ.pass (s := 42) rfl rfl rfl ?_
                             refine GQ.pass (s := 42) rfl rfl rfl ?_
                             refine GQ.pass (s := 42) rfl rfl rfl ?_
                             refine GQ.step rfl (q_pure (p_pick_true rfl rfl)) ?_
                             refine GQ.step rfl (q_pure (p_move rfl)) ?_
                             refine GQ.pass (s := 47) rfl rfl rfl ?_
                             refine GQ.pass (s := 47) rfl rfl rfl ?_
                             refine GQ.pass (s := 47) rfl rfl rfl ?_
                             refine GQ.step rfl (q_pure (p_pick_true rfl rfl)) ?_
                             refine GQ.step rfl (q_pure (p_move rfl)) ?_
                             refine GQ.pass (s := 52) rfl rfl rfl ?_
                             refine GQ.pass (s := 52) rfl rfl rfl ?_
                             refine GQ.pass (s := 52) rfl rfl rfl ?_
                             refine GQ.pass (s := 52) rfl rfl rfl ?_
                             refine GQ.pass (s := 52) rfl rfl rfl ?_
                             refine GQ.pass (s := 52) rfl rfl rfl ?_
                             refine GQ.step rfl (q_pure (p_pick_true rfl rfl)) ?_
                             refine GQ.nil (?_ : GC _ _ _ _)
                             refine GC.cond_true rfl ?_
                             refine GC.seq' ?_
                             refine GC.region ?_
                             refine GL.pure rfl (p_assign rfl) ?_
                             refine GL.nil (?_ : GC _ _ _ _)
                             refine GC.ret ?_
                             refine fun a w h => Fin.back (rs := [.tmp 4]) (vs := [_]) (is := []) (js := []) rfl ⟨rfl, trivial⟩ rfl rfl ?_ h
                             clear h
                             first | (exact ⟨by rw [he, laidF_end (by omega)]; rfl, rfl, rfl⟩) | (exact ⟨by rw [he, laidF_bad (by omega) (by unfold badP; (try simp only [lastOf] at *); (try simp only [show ∀ x : Nat, ((x + 1 : Nat) : Int) - 1 = x by omega] at *); omega)]; rfl, rfl, rfl⟩))
                        · try simp only [decide_eq_true_eq, decide_eq_false_iff_not, Bool.not_eq_true', Bool.not_eq_false', Bool.not_true, Bool.not_false, Bool.not_not, ne_eq, Decidable.not_not, Int.not_lt, Int.not_le, gt_iff_lt, ge_iff_le, bool_true_eq_, bool_false_eq_] at h11
                          first
                          | (exfalso; omega)
                          | (skip
                             refine GQ.stepG (s := 42) rfl rfl rfl (q_pure (p_fieldAddr fo_71_1 rfl)) ?_
                             refine GQ.stepG (s := 42) rfl rfl rfl (q_mem (m_load (i := 0) rfl rfl ag_3 rfl)) ?_
                             refine GQ.stepG (s := 42) rfl rfl rfl (q_pure (p_lss rfl rfl)) ?_
                             refine GQ.step rfl (q_pure (p_pick_false rfl rfl)) ?_
                             refine GQ.step rfl (q_pure (p_move rfl)) ?_
                             refine GQ.split (i := 47) rfl (fun h12 => ?_) (fun h12 => ?_)
                             · try simp only [decide_eq_true_eq, decide_eq_false_iff_not, Bool.not_eq_true', Bool.not_eq_false', Bool.not_true, Bool.not_false, Bool.not_not, ne_eq, Decidable.not_not, Int.not_lt, Int.not_le, gt_iff_lt, ge_iff_le, bool_true_eq_, bool_false_eq_] at h12
                               first
                               | (exfalso; omega)
                               | (skip
                                  refine GQ.pass (s := 47) rfl rfl rfl ?_
                                  refine GQ.pass (s := 47) rfl rfl rfl ?_
                                  refine GQ.pass (s := 47) rfl rfl rfl ?_
                                  refine GQ.step rfl (q_pure (p_pick_true rfl rfl)) ?_
                                  refine GQ.step rfl (q_pure (p_move rfl)) ?_
                                  refine GQ.pass (s := 52) rfl rfl rfl ?_
                                  refine GQ.pass (s := 52) rfl rfl rfl ?_
                                  refine GQ.pass (s := 52) rfl rfl rfl ?_
                                  refine GQ.pass (s := 52) rfl rfl rfl ?_
                                  refine GQ.pass (s := 52) rfl rfl rfl ?_
                                  refine GQ.pass (s := 52) rfl rfl rfl ?_
                                  refine GQ.step rfl (q_pure (p_pick_true rfl rfl)) ?_
                                  refine GQ.nil (?_ : GC _ _ _ _)
                                  refine GC.cond_true rfl ?_
                                  refine GC.seq' ?_
                                  refine GC.region ?_
                                  refine GL.pure rfl (p_assign rfl) ?_
                                  refine GL.nil (?_ : GC _ _ _ _)
                                  refine GC.ret ?_
                                  refine fun a w h => Fin.back (rs := [.tmp 4]) (vs := [_]) (is := []) (js := []) rfl ⟨rfl, trivial⟩ rfl rfl ?_ h
                                  clear h
                                  first | (exact ⟨by rw [he, laidF_end (by omega)]; rfl, rfl, rfl⟩) | (exact ⟨by rw [he, laidF_bad (by omega) (by unfold badP; (try simp only [lastOf] at *); (try simp only [show ∀ x : Nat, ((x + 1 : Nat) : Int) - 1 = x by omega] at *); omega)]; rfl, rfl, rfl⟩))
                             · try simp only [decide_eq_true_eq, decide_eq_false_iff_not, Bool.not_eq_true', Bool.not_eq_false', Bool.not_true, Bool.not_false, Bool.not_not, ne_eq, Decidable.not_not, Int.not_lt, Int.not_le, gt_iff_lt, ge_iff_le, bool_true_eq_, bool_false_eq_] at h12
                               first
                               | (exfalso; omega)
                               | (skip
                                  refine GQ.stepG (s := 47) rfl rfl rfl (q_pure (p_fieldAddr fo_71_1 rfl)) ?_
                                  refine GQ.stepG (s := 47) rfl rfl rfl (q_mem (m_load (i := 0) rfl rfl ag_3 rfl)) ?_
                                  refine GQ.stepG (s := 47) rfl rfl rfl (q_pure (p_gtr rfl rfl)) ?_
                                  refine GQ.step rfl (q_pure (p_pick_false rfl rfl)) ?_
                                  refine GQ.step rfl (q_pure (p_move rfl)) ?_
                                  refine GQ.split (i := 52) rfl (fun h13 => ?_) (fun h13 => ?_)
                                  · try simp only [decide_eq_true_eq, decide_eq_false_iff_not, Bool.not_eq_true', Bool.not_eq_false', Bool.not_true, Bool.not_false, Bool.not_not, ne_eq, Decidable.not_not, Int.not_lt, Int.not_le, gt_iff_lt, ge_iff_le, bool_true_eq_, bool_false_eq_] at h13
                                    first
                                    | (exfalso; omega)
                                    | (skip
                                       refine GQ.pass (s := 52) rfl rfl rfl ?_
                                       refine GQ.pass (s := 52) rfl rfl rfl ?_
                                       refine GQ.pass (s := 52) rfl rfl rfl ?_
                                       refine GQ.pass (s := 52) rfl rfl rfl ?_
                                       refine GQ.pass (s := 52) rfl rfl rfl ?_
                                       refine GQ.pass (s := 52) rfl rfl rfl ?_
                                       refine GQ.step rfl (q_pure (p_pick_true rfl rfl)) ?_
                                       refine GQ.nil (?_ : GC _ _ _ _)
                                       refine GC.cond_true rfl ?_
                                       refine GC.seq' ?_
                                       refine GC.region ?_
                                       refine GL.pure rfl (p_assign rfl) ?_
                                       refine GL.nil (?_ : GC _ _ _ _)
                                       refine GC.ret ?_
                                       refine fun a w h => Fin.back (rs := [.tmp 4]) (vs := [_]) (is := []) (js := []) rfl ⟨rfl, trivial⟩ rfl rfl ?_ h
                                       clear h
                                       first | (exact ⟨by rw [he, laidF_end (by omega)]; rfl, rfl, rfl⟩) | (exact ⟨by rw [he, laidF_bad (by omega) (by unfold badP; (try simp only [lastOf] at *); (try simp only [show ∀ x : Nat, ((x + 1 : Nat) : Int) - 1 = x by omega] at *); omega)]; rfl, rfl, rfl⟩))
                                  · try simp only [decide_eq_true_eq, decide_eq_false_iff_not, Bool.not_eq_true', Bool.not_eq_false', Bool.not_true, Bool.not_false, Bool.not_not, ne_eq, Decidable.not_not, Int.not_lt, Int.not_le, gt_iff_lt, ge_iff_le, bool_true_eq_, bool_false_eq_] at h13
                                    first
                                    | (exfalso; omega)
                                    | (skip
                                       refine GQ.stepG (s := 52) rfl rfl rfl (q_pure (p_fieldAddr fo_71_2 rfl)) ?_
                                       refine GQ.stepG (s := 52) rfl rfl rfl (q_mem (m_load (i := 0) rfl rfl ag_31 rfl)) ?_
                                       refine GQ.stepG (s := 52) rfl rfl rfl (q_pure (p_len Try.underlying31 rfl)) ?_
                                       refine GQ.stepG (s := 52) rfl rfl rfl (q_pure (p_fieldAddr fo_23_1 rfl)) ?_
                                       refine GQ.stepG (s := 52) rfl rfl rfl (q_mem (m_load (i := 1) rfl rfl ag_3 rfl)) ?_
                                       refine GQ.stepG (s := 52) rfl rfl rfl (q_pure (p_neq rfl rfl)) ?_
                                       refine GQ.step rfl (q_pure (p_pick_false rfl rfl)) ?_
                                       refine GQ.nil (?_ : GC _ _ _ _)
                                       refine GC.cond rfl (fun h14 => ?_) (fun h14 => ?_)
                                       · try simp only [decide_eq_true_eq, decide_eq_false_iff_not, Bool.not_eq_true', Bool.not_eq_false', Bool.not_true, Bool.not_false, Bool.not_not, ne_eq, Decidable.not_not, Int.not_lt, Int.not_le, gt_iff_lt, ge_iff_le, bool_true_eq_, bool_false_eq_] at h14
                                         first
                                         | (exfalso; omega)
                                         | (skip
                                            refine GC.seq' ?_
                                            refine GC.region ?_
                                            refine GL.pure rfl (p_assign rfl) ?_
                                            refine GL.nil (?_ : GC _ _ _ _)
                                            refine GC.ret ?_
                                            refine fun a w h => Fin.back (rs := [.tmp 4]) (vs := [_]) (is := []) (js := []) rfl ⟨rfl, trivial⟩ rfl rfl ?_ h
                                            clear h
                                            first | (exact ⟨by rw [he, laidF_end (by omega)]; rfl, rfl, rfl⟩) | (exact ⟨by rw [he, laidF_bad (by omega) (by unfold badP; (try simp only [lastOf] at *); (try simp only [show ∀ x : Nat, ((x + 1 : Nat) : Int) - 1 = x by omega] at *); omega)]; rfl, rfl, rfl⟩))
                                       · try simp only [decide_eq_true_eq, decide_eq_false_iff_not, Bool.not_eq_true', Bool.not_eq_false', Bool.not_true, Bool.not_false, Bool.not_not, ne_eq, Decidable.not_not, Int.not_lt, Int.not_le, gt_iff_lt, ge_iff_le, bool_true_eq_, bool_false_eq_] at h14
                                         first
                                         | (exfalso; omega)
                                         | (skip
                                            refine GC.skip (?_ : GC _ _ _ _)
                                            refine GC.region ?_
                                            refine GL.pure rfl (p_move rfl) ?_
                                            refine GL.pure rfl (p_add rfl rfl (w64 (by omega) (by omega))) ?_
                                            refine GL.pure rfl (p_assign rfl) ?_
                                            refine GL.nil ?_
                                            exact fun a w h => ⟨(_ + 1), (by omega), ⟨by omega, by rw [he]; exact laidF_ok (by omega) (by unfold badP; (try simp only [lastOf] at *); (try simp only [show ∀ x : Nat, ((x + 1 : Nat) : Int) - 1 = x by omega] at *); omega), by simp only [lastOf]; omega⟩, h.cut (is := [1]) (js := [4]) ⟨rfl, rfl, rfl, trivial⟩ rfl rfl⟩)))))
                   · try simp only [decide_eq_true_eq, decide_eq_false_iff_not, Bool.not_eq_true', Bool.not_eq_false', Bool.not_true, Bool.not_false, Bool.not_not, ne_eq, Decidable.not_not, Int.not_lt, Int.not_le, gt_iff_lt, ge_iff_le, bool_true_eq_, bool_false_eq_] at h10
                     first
                     | (exfalso; omega)
                     | (skip
                        refine GQ.pass (s := 30) rfl rfl rfl ?_
                        refine GQ.pass (s := 30) rfl rfl rfl ?_
                        refine GQ.pass (s := 30) rfl rfl rfl ?_
                        refine GQ.pass (s := 30) rfl rfl rfl ?_
                        refine GQ.pass (s := 30) rfl rfl rfl ?_
                        refine GQ.pass (s := 30) rfl rfl rfl ?_
                        refine GQ.pass (s := 30) rfl rfl rfl ?_
                        refine GQ.pass (s := 30) rfl rfl rfl ?_
                        refine GQ.pass (s := 30) rfl rfl rfl ?_
                        refine GQ.stepG (s := 27) rfl rfl rfl (q_pure (p_pick_false rfl rfl)) ?_
                        refine GQ.step rfl (q_pure (p_pick_false rfl rfl)) ?_
                        refine GQ.step rfl (q_pure (p_move rfl)) ?_
                        refine GQ.stepG (s := 42) rfl rfl rfl (q_pure (p_fieldAddr fo_71_1 rfl)) ?_
                        refine GQ.stepG (s := 42) rfl rfl rfl (q_mem (m_load (i := 0) rfl rfl ag_3 rfl)) ?_
                        refine GQ.stepG (s := 42) rfl rfl rfl (q_pure (p_lss rfl rfl)) ?_
                        refine GQ.step rfl (q_pure (p_pick_false rfl rfl)) ?_
                        refine GQ.step rfl (q_pure (p_move rfl)) ?_
                        refine GQ.split (i := 47) rfl (fun h15 => ?_) (fun h15 => ?_)
                        · try simp only [decide_eq_true_eq, decide_eq_false_iff_not, Bool.not_eq_true', Bool.not_eq_false', Bool.not_true, Bool.not_false, Bool.not_not, ne_eq, Decidable.not_not, Int.not_lt, Int.not_le, gt_iff_lt, ge_iff_le, bool_true_eq_, bool_false_eq_] at h15
                          first
                          | (exfalso; omega)
                          | (skip
                             refine GQ.pass (s := 47) rfl rfl rfl ?_
                             refine GQ.pass (s := 47) rfl rfl rfl ?_
                             refine GQ.pass (s := 47) rfl rfl rfl ?_
                             refine GQ.step rfl (q_pure (p_pick_true rfl rfl)) ?_
                             refine GQ.step rfl (q_pure (p_move rfl)) ?_
                             refine GQ.pass (s := 52) rfl rfl rfl ?_
                             refine GQ.pass (s := 52) rfl rfl rfl ?_
                             refine GQ.pass (s := 52) rfl rfl rfl ?_
                             refine GQ.pass (s := 52) rfl rfl rfl ?_
                             refine GQ.pass (s := 52) rfl rfl rfl ?_
                             refine GQ.pass (s := 52) rfl rfl rfl ?_
                             refine GQ.step rfl (q_pure (p_pick_true rfl rfl)) ?_
                             refine GQ.nil (?_ : GC _ _ _ _)
                             refine GC.cond_true rfl ?_
                             refine GC.seq' ?_
                             refine GC.region ?_
                             refine GL.pure rfl (p_assign rfl) ?_
                             refine GL.nil (?_ : GC _ _ _ _)
                             refine GC.ret ?_
                             refine fun a w h => Fin.back (rs := [.tmp 4]) (vs := [_]) (is := []) (js := []) rfl ⟨rfl, trivial⟩ rfl rfl ?_ h
                             clear h
                             first | (exact ⟨by rw [he, laidF_end (by omega)]; rfl, rfl, rfl⟩) | (exact ⟨by rw [he, laidF_bad (by omega) (by unfold badP; (try simp only [lastOf] at *); (try simp only [show ∀ x : Nat, ((x + 1 : Nat) : Int) - 1 = x by omega] at *); omega)]; rfl, rfl, rfl⟩))
                        · try simp only [decide_eq_true_eq, decide_eq_false_iff_not, Bool.not_eq_true', Bool.not_eq_false', Bool.not_true, Bool.not_false, Bool.not_not, ne_eq, Decidable.not_not, Int.not_lt, Int.not_le, gt_iff_lt, ge_iff_le, bool_true_eq_, bool_false_eq_] at h15
                          first
                          | (exfalso; omega)
                          | (skip
                             refine GQ.stepG (s := 47) rfl rfl rfl (q_pure (p_fieldAddr fo_71_1 rfl)) ?_
                             refine GQ.stepG (s := 47) rfl rfl rfl (q_mem (m_load (i := 0) rfl rfl ag_3 rfl)) ?_
                             refine GQ.stepG (s := 47) rfl rfl rfl (q_pure (p_gtr rfl rfl)) ?_
                             refine GQ.step rfl (q_pure (p_pick_false rfl rfl)) ?_
                             refine GQ.step rfl (q_pure (p_move rfl)) ?_
                             refine GQ.split (i := 52) rfl (fun h16 => ?_) (fun h16 => ?_)
                             · try simp only [decide_eq_true_eq, decide_eq_false_iff_not, Bool.not_eq_true', Bool.not_eq_false', Bool.not_true, Bool.not_false, Bool.not_not, ne_eq, Decidable.not_not, Int.not_lt, Int.not_le, gt_iff_lt, ge_iff_le, bool_true_eq_, bool_false_eq_] at h16
                               first
                               | (exfalso; omega)
                               | (skip
                                  refine GQ.pass (s := 52) rfl rfl rfl ?_
                                  refine GQ.pass (s := 52) rfl rfl rfl ?_
                                  refine GQ.pass (s := 52) rfl rfl rfl ?_
                                  refine GQ.pass (s := 52) rfl rfl rfl ?_
                                  refine GQ.pass (s := 52) rfl rfl rfl ?_
                                  refine GQ.pass (s := 52) rfl rfl rfl ?_
                                  refine GQ.step rfl (q_pure (p_pick_true rfl rfl)) ?_
                                  refine GQ.nil (?_ : GC _ _ _ _)
                                  refine GC.cond_true rfl ?_
                                  refine GC.seq' ?_
                                  refine GC.region ?_
                                  refine GL.pure rfl (p_assign rfl) ?_
                                  refine GL.nil (?_ : GC _ _ _ _)
                                  refine GC.ret ?_
                                  refine fun a w h => Fin.back (rs := [.tmp 4]) (vs := [_]) (is := []) (js := []) rfl ⟨rfl, trivial⟩ rfl rfl ?_ h
                                  clear h
                                  first | (exact ⟨by rw [he, laidF_end (by omega)]; rfl, rfl, rfl⟩) | (exact ⟨by rw [he, laidF_bad (by omega) (by unfold badP; (try simp only [lastOf] at *); (try simp only [show ∀ x : Nat, ((x + 1 : Nat) : Int) - 1 = x by omega] at *); omega)]; rfl, rfl, rfl⟩))
                             · try simp only [decide_eq_true_eq, decide_eq_false_iff_not, Bool.not_eq_true', Bool.not_eq_false', Bool.not_true, Bool.not_false, Bool.not_not, ne_eq, Decidable.not_not, Int.not_lt, Int.not_le, gt_iff_lt, ge_iff_le, bool_true_eq_, bool_false_eq_] at h16
                               first
                               | (exfalso; omega)
                               | (skip
                                  refine GQ.stepG (s := 52) rfl rfl rfl (q_pure (p_fieldAddr fo_71_2 rfl)) ?_
                                  refine GQ.stepG (s := 52) rfl rfl rfl (q_mem (m_load (i := 0) rfl rfl ag_31 rfl)) ?_
                                  refine GQ.stepG (s := 52) rfl rfl rfl (q_pure (p_len Try.underlying31 rfl)) ?_
                                  refine GQ.stepG (s := 52) rfl rfl rfl (q_pure (p_fieldAddr fo_23_1 rfl)) ?_
                                  refine GQ.stepG (s := 52) rfl rfl rfl (q_mem (m_load (i := 1) rfl rfl ag_3 rfl)) ?_
                                  refine GQ.stepG (s := 52) rfl rfl rfl (q_pure (p_neq rfl rfl)) ?_
                                  refine GQ.step rfl (q_pure (p_pick_false rfl rfl)) ?_
                                  refine GQ.nil (?_ : GC _ _ _ _)
                                  refine GC.cond rfl (fun h17 => ?_) (fun h17 => ?_)
                                  · try simp only [decide_eq_true_eq, decide_eq_false_iff_not, Bool.not_eq_true', Bool.not_eq_false', Bool.not_true, Bool.not_false, Bool.not_not, ne_eq, Decidable.not_not, Int.not_lt, Int.not_le, gt_iff_lt, ge_iff_le, bool_true_eq_, bool_false_eq_] at h17
                                    first
                                    | (exfalso; omega)
                                    | (skip
                                       refine GC.seq' ?_
                                       refine GC.region ?_
                                       refine GL.pure rfl (p_assign rfl) ?_
                                       refine GL.nil (?_ : GC _ _ _ _)
                                       refine GC.ret ?_
                                       refine fun a w h => Fin.back (rs := [.tmp 4]) (vs := [_]) (is := []) (js := []) rfl ⟨rfl, trivial⟩ rfl rfl ?_ h
                                       clear h
                                       first | (exact ⟨by rw [he, laidF_end (by omega)]; rfl, rfl, rfl⟩) | (exact ⟨by rw [he, laidF_bad (by omega) (by unfold badP; (try simp only [lastOf] at *); (try simp only [show ∀ x : Nat, ((x + 1 : Nat) : Int) - 1 = x by omega] at *); omega)]; rfl, rfl, rfl⟩))
                                  · try simp only [decide_eq_true_eq, decide_eq_false_iff_not, Bool.not_eq_true', Bool.not_eq_false', Bool.not_true, Bool.not_false, Bool.not_not, ne_eq, Decidable.not_not, Int.not_lt, Int.not_le, gt_iff_lt, ge_iff_le, bool_true_eq_, bool_false_eq_] at h17
                                    first
                                    | (exfalso; omega)
                                    | (skip
                                       refine GC.skip (?_ : GC _ _ _ _)
                                       refine GC.region ?_
                                       refine GL.pure rfl (p_move rfl) ?_
                                       refine GL.pure rfl (p_add rfl rfl (w64 (by omega) (by omega))) ?_
                                       refine GL.pure rfl (p_assign rfl) ?_
                                       refine GL.nil ?_
                                       exact fun a w h => ⟨(_ + 1), (by omega), ⟨by omega, by rw [he]; exact laidF_ok (by omega) (by unfold badP; (try simp only [lastOf] at *); (try simp only [show ∀ x : Nat, ((x + 1 : Nat) : Int) - 1 = x by omega] at *); omega), by simp only [lastOf]; omega⟩, h.cut (is := [1]) (js := [4]) ⟨rfl, rfl, rfl, trivial⟩ rfl rfl⟩)))))))
  · try simp only [decide_eq_true_eq, decide_eq_false_iff_not, Bool.not_eq_true', Bool.not_eq_false', Bool.not_true, Bool.not_false, Bool.not_not, ne_eq, Decidable.not_not, Int.not_lt, Int.not_le, gt_iff_lt, ge_iff_le, bool_true_eq_, bool_false_eq_] at h1
    first
    | (exfalso; omega)
    | (skip
       refine GC.exit (?_ : GC _ _ _ _)
       refine GC.seq' ?_
       refine GC.region ?_
       refine GL.pure rfl (p_assign rfl) ?_
       refine GL.nil (?_ : GC _ _ _ _)
       refine GC.ret ?_
       refine fun a w h => Fin.back (rs := [.tmp 4]) (vs := [_]) (is := []) (js := []) rfl ⟨rfl, trivial⟩ rfl rfl ?_ h
       clear h
       first | (exact ⟨by rw [he, laidF_end (by omega)]; rfl, rfl, rfl⟩) | (exact ⟨by rw [he, laidF_bad (by omega) (by unfold badP; (try simp only [lastOf] at *); (try simp only [show ∀ x : Nat, ((x + 1 : Nat) : Int) - 1 = x by omega] at *); omega)]; rfl, rfl, rfl⟩))
end Go.Proofs.Ytihhpkbbhfcdcaa
