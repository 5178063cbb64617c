/- THE VOLUME: both hold the same. -/
import Derived.Test.YtihhpkbbhfcdcaaVk5
import Derived.Test.YtihhpkbbhfcdcaaVp6
set_option linter.unusedVariables false
set_option linter.unusedSimpArgs false
set_option maxRecDepth 100000
namespace Go.Proofs.Ytihhpkbbhfcdcaa
open Go Go.Sx Go.Proofs
theorem vsame_ct (vp vb vv p pB pV c1 c2 : Nat) (sp spv cs : List Value) (v : Vol) (hv : VolOk v) :
    Ct Try.prog 25 [.pointer (some ⟨vp, 0, none⟩), .pointer (some ⟨p, 0, none⟩)] (volG vp vb vv v ++ rvG p pB pV c1 c2 sp spv cs v) [Pers.reps kBytes (chV v) cs] (fun u G Q => u = .bool true ∧ G = [] ∧ Q = []) := by
  have hl := hv.lv
  have hs := hv.shp
  have hm := mulS hv.shp
  have hlb := hv.lb
  have hch : (chV v).length = v.bl.toNat := chunks_length _ _ _
  simp only [shapeOk] at hs
  refine Ct.intro Try.func25 rfl rfl rfl (fun c hc => ?_)
  refine GC.seq' ?_
  refine GC.region ?_
  refine GL.pure rfl (p_assign rfl) ?_
  refine GL.nil (?_ : GC _ _ _ _)
  refine GC.seq' ?_
  refine GC.seq' ?_
  refine GC.region ?_
  refine GL.pure rfl (p_assign rfl) ?_
  refine GL.nil (?_ : GC _ _ _ _)
  refine GC.block ?_
  refine GC.loopK1 (ks := [0, 1]) (is := [0, 1, 2, 3, 4, 5]) (js := [0]) (fun (k : Nat) => (k : Int) ≤ v.bl + 2) (fun (k : Nat) => [(5, .int .i64 ((k : Int) - 1))]) (fun (k : Nat) => []) (fun (k : Nat) => []) (fun (k : Nat) => (v.bl + 2).toNat - k) (0) rfl rfl rfl (fun a w h => ⟨by omega, h.cutK (is := [0, 0, 0, 0, 0, 0]) (js := [0]) (ks := [0, 1]) (by exact ⟨rfl, trivial⟩) rfl rfl rfl⟩) ?_
  intro k hk
  try dsimp only [List.cons_append, List.nil_append] at hk ⊢
  refine GC.seq' ?_
  refine GC.seq' ?_
  refine GC.region ?_
  refine GL.pure rfl (p_move rfl) ?_
  refine GL.pure rfl (p_move rfl) ?_
  refine GL.pure rfl (p_nilCheck rfl) ?_
  refine GL.pure rfl (p_fieldAddr fo_79_0 rfl) ?_
  refine GL.pure rfl (p_fieldAddr fo_23_0 rfl) ?_
  refine GL.step rfl (t_mem rfl (m_load (i := 3) rfl rfl ag_3 rfl)) ?_
  refine GL.pure rfl (p_leq rfl rfl) ?_
  refine GL.nil (?_ : GC _ _ _ _)
  refine GC.cond rfl (fun h1 => ?_) (fun h1 => ?_)
  · try simp only [decide_eq_true_eq, decide_eq_false_iff_not, Bool.not_eq_true', Bool.not_eq_false', Bool.not_true, Bool.not_false, Bool.not_not, ne_eq, Decidable.not_not, Int.not_lt, Int.not_le, gt_iff_lt, ge_iff_le, bool_true_eq_, bool_false_eq_] at h1
    first
    | (exfalso; first | omega | (simp at h1; done))
    | (skip
       refine GC.skip (?_ : GC _ _ _ _)
       refine GC.seq' ?_
       refine GC.block ?_
       refine GC.seq' ?_
       refine GC.region ?_
       by_cases hr : (k : Int) - 1 < 0 ∨ v.bl ≤ (k : Int) - 1
       · skip
         refine GL.pure rfl (p_move rfl) ?_
         refine GL.pure rfl (p_move rfl) ?_
         refine GL.step rfl (t_call rfl fn_22 rfl (is := [0, 0, 0]) (js := []) rfl rfl (by exact vblock_bad _ _ _ v _ hr)) (GL.ret ?_)
         rintro _ _ _ ⟨rfl, rfl, rfl⟩
         refine GL.pure rfl (p_move rfl) ?_
         refine GL.pure rfl (p_extract rfl rfl) ?_
         refine GL.pure rfl (p_extract rfl rfl) ?_
         refine GL.pure rfl (p_extract rfl rfl) ?_
         refine GL.pure rfl (p_assign rfl) ?_
         refine GL.pure rfl (p_assign rfl) ?_
         refine GL.pure rfl (p_assign rfl) ?_
         refine GL.nil (?_ : GC _ _ _ _)
         refine GC.seq' ?_
         refine GC.seq' ?_
         refine GC.region ?_
         refine GL.pure rfl (p_move rfl) ?_
         refine GL.pure rfl (p_lss rfl rfl) ?_
         refine GL.pure rfl (p_move rfl) ?_
         refine GL.split (i := 27) rfl (fun h2 => ?_) (fun h2 => ?_)
         · try simp only [decide_eq_true_eq, decide_eq_false_iff_not, Bool.not_eq_true', Bool.not_eq_false', Bool.not_true, Bool.not_false, Bool.not_not, ne_eq, Decidable.not_not, Int.not_lt, Int.not_le, gt_iff_lt, ge_iff_le, bool_true_eq_, bool_false_eq_] at h2
           first
           | (exfalso; first | omega | (simp at h2; done))
           | (skip
              refine GL.pass (s := 27) rfl rfl rfl ?_
              refine GL.pass (s := 27) rfl rfl rfl ?_
              refine GL.pass (s := 27) rfl rfl rfl ?_
              refine GL.pass (s := 27) rfl rfl rfl ?_
              refine GL.pass (s := 27) rfl rfl rfl ?_
              refine GL.pass (s := 27) rfl rfl rfl ?_
              refine GL.pass (s := 27) rfl rfl rfl ?_
              refine GL.pure rfl (p_pick_true rfl rfl) ?_
              refine GL.nil (?_ : GC _ _ _ _)
              refine GC.cond_true rfl ?_
              refine GC.seq' ?_
              refine GC.seq' ?_
              refine GC.region ?_
              refine GL.pure rfl (p_move rfl) ?_
              refine GL.pure rfl (p_neq rfl rfl) ?_
              refine GL.pure rfl (p_move rfl) ?_
              refine GL.pureG (s := 38) rfl rfl rfl (p_move rfl) ?_
              refine GL.pureG (s := 38) rfl rfl rfl (p_len Try.underlying31 rfl) ?_
              refine GL.pureG (s := 38) rfl rfl rfl (p_move rfl) ?_
              refine GL.pureG (s := 38) rfl rfl rfl (p_add rfl rfl (w64 (by omega) (by omega))) ?_
              refine GL.pureG (s := 38) rfl rfl rfl (p_neq rfl rfl) ?_
              refine GL.pure rfl (p_pick_false rfl rfl) ?_
              refine GL.nil (?_ : GC _ _ _ _)
              refine GC.cond rfl (fun h3 => ?_) (fun h3 => ?_)
              · try simp only [decide_eq_true_eq, decide_eq_false_iff_not, Bool.not_eq_true', Bool.not_eq_false', Bool.not_true, Bool.not_false, Bool.not_not, ne_eq, Decidable.not_not, Int.not_lt, Int.not_le, gt_iff_lt, ge_iff_le, bool_true_eq_, bool_false_eq_] at h3
                first
                | (exfalso; first | omega | (simp at h3; done))
                | (skip
                   refine GC.seq' ?_
                   refine GC.region ?_
                   refine GL.pure rfl (p_assign rfl) ?_
                   refine GL.nil (?_ : GC _ _ _ _)
                   refine GC.ret ?_
                   refine fun a w h => Fin.back (rs := [.tmp 4]) (vs := [_]) (is := []) (js := []) rfl ⟨rfl, trivial⟩ rfl rfl ?_ h
                   clear h
                   refine ⟨?_, rfl, rfl⟩; first | rfl | (show Value.bool _ = _; simp))
              · try simp only [decide_eq_true_eq, decide_eq_false_iff_not, Bool.not_eq_true', Bool.not_eq_false', Bool.not_true, Bool.not_false, Bool.not_not, ne_eq, Decidable.not_not, Int.not_lt, Int.not_le, gt_iff_lt, ge_iff_le, bool_true_eq_, bool_false_eq_] at h3
                first
                | (exfalso; first | omega | (simp at h3; done))
                | (skip
                   refine GC.skip (?_ : GC _ _ _ _)
                   refine GC.exit (?_ : GC _ _ _ _)
                   refine GC.region ?_
                   refine GL.pure rfl (p_move rfl) ?_
                   refine GL.pure rfl (p_add rfl rfl (w64 (by omega) (by omega))) ?_
                   refine GL.pure rfl (p_assign rfl) ?_
                   refine GL.nil ?_
                   exact fun a w h => ⟨(k + 1), (by omega), by omega, by rw [show (((k + 1 : Nat) : Int) - 1) = ((k : Int) - 1 + 1) by omega]; exact h.cut (is := [0, 0, 0, 0, 0, 0]) (js := [0]) ⟨rfl, rfl, rfl, trivial⟩ rfl rfl⟩))
         · try simp only [decide_eq_true_eq, decide_eq_false_iff_not, Bool.not_eq_true', Bool.not_eq_false', Bool.not_true, Bool.not_false, Bool.not_not, ne_eq, Decidable.not_not, Int.not_lt, Int.not_le, gt_iff_lt, ge_iff_le, bool_true_eq_, bool_false_eq_] at h2
           first
           | (exfalso; first | omega | (simp at h2; done))
           | (skip
              refine GL.pureG (s := 27) rfl rfl rfl (p_move rfl) ?_
              refine GL.pureG (s := 27) rfl rfl rfl (p_move rfl) ?_
              refine GL.pureG (s := 27) rfl rfl rfl (p_nilCheck rfl) ?_
              refine GL.pureG (s := 27) rfl rfl rfl (p_fieldAddr fo_79_0 rfl) ?_
              refine GL.pureG (s := 27) rfl rfl rfl (p_fieldAddr fo_23_0 rfl) ?_
              refine GL.stepG rfl (s := 27) rfl rfl (t_mem rfl (m_load (i := 3) rfl rfl ag_3 rfl)) ?_
              refine GL.pureG (s := 27) rfl rfl rfl (p_eql rfl rfl) ?_
              refine GL.pure rfl (p_pick_false rfl rfl) ?_
              refine GL.nil (?_ : GC _ _ _ _)
              refine GC.cond rfl (fun h4 => ?_) (fun h4 => ?_)
              · try simp only [decide_eq_true_eq, decide_eq_false_iff_not, Bool.not_eq_true', Bool.not_eq_false', Bool.not_true, Bool.not_false, Bool.not_not, ne_eq, Decidable.not_not, Int.not_lt, Int.not_le, gt_iff_lt, ge_iff_le, bool_true_eq_, bool_false_eq_] at h4
                first
                | (exfalso; first | omega | (simp at h4; done))
                | (skip
                   refine GC.seq' ?_
                   refine GC.seq' ?_
                   refine GC.region ?_
                   refine GL.pure rfl (p_move rfl) ?_
                   refine GL.pure rfl (p_neq rfl rfl) ?_
                   refine GL.pure rfl (p_move rfl) ?_
                   refine GL.pureG (s := 38) rfl rfl rfl (p_move rfl) ?_
                   refine GL.pureG (s := 38) rfl rfl rfl (p_len Try.underlying31 rfl) ?_
                   refine GL.pureG (s := 38) rfl rfl rfl (p_move rfl) ?_
                   refine GL.pureG (s := 38) rfl rfl rfl (p_add rfl rfl (w64 (by omega) (by omega))) ?_
                   refine GL.pureG (s := 38) rfl rfl rfl (p_neq rfl rfl) ?_
                   refine GL.pure rfl (p_pick_false rfl rfl) ?_
                   refine GL.nil (?_ : GC _ _ _ _)
                   refine GC.cond rfl (fun h5 => ?_) (fun h5 => ?_)
                   · try simp only [decide_eq_true_eq, decide_eq_false_iff_not, Bool.not_eq_true', Bool.not_eq_false', Bool.not_true, Bool.not_false, Bool.not_not, ne_eq, Decidable.not_not, Int.not_lt, Int.not_le, gt_iff_lt, ge_iff_le, bool_true_eq_, bool_false_eq_] at h5
                     first
                     | (exfalso; first | omega | (simp at h5; done))
                     | (skip
                        refine GC.seq' ?_
                        refine GC.region ?_
                        refine GL.pure rfl (p_assign rfl) ?_
                        refine GL.nil (?_ : GC _ _ _ _)
                        refine GC.ret ?_
                        refine fun a w h => Fin.back (rs := [.tmp 4]) (vs := [_]) (is := []) (js := []) rfl ⟨rfl, trivial⟩ rfl rfl ?_ h
                        clear h
                        refine ⟨?_, rfl, rfl⟩; first | rfl | (show Value.bool _ = _; simp))
                   · try simp only [decide_eq_true_eq, decide_eq_false_iff_not, Bool.not_eq_true', Bool.not_eq_false', Bool.not_true, Bool.not_false, Bool.not_not, ne_eq, Decidable.not_not, Int.not_lt, Int.not_le, gt_iff_lt, ge_iff_le, bool_true_eq_, bool_false_eq_] at h5
                     first
                     | (exfalso; first | omega | (simp at h5; done))
                     | (skip
                        refine GC.skip (?_ : GC _ _ _ _)
                        refine GC.exit (?_ : GC _ _ _ _)
                        refine GC.region ?_
                        refine GL.pure rfl (p_move rfl) ?_
                        refine GL.pure rfl (p_add rfl rfl (w64 (by omega) (by omega))) ?_
                        refine GL.pure rfl (p_assign rfl) ?_
                        refine GL.nil ?_
                        exact fun a w h => ⟨(k + 1), (by omega), by omega, by rw [show (((k + 1 : Nat) : Int) - 1) = ((k : Int) - 1 + 1) by omega]; exact h.cut (is := [0, 0, 0, 0, 0, 0]) (js := [0]) ⟨rfl, rfl, rfl, trivial⟩ rfl rfl⟩))
              · try simp only [decide_eq_true_eq, decide_eq_false_iff_not, Bool.not_eq_true', Bool.not_eq_false', Bool.not_true, Bool.not_false, Bool.not_not, ne_eq, Decidable.not_not, Int.not_lt, Int.not_le, gt_iff_lt, ge_iff_le, bool_true_eq_, bool_false_eq_] at h4
                first
                | (exfalso; first | omega | (simp at h4; done))
                | (skip
                   refine GC.skip (?_ : GC _ _ _ _)
                   refine GC.seq' ?_
                   refine GC.regionQ wide_ (by kernel_rfl) ?_
                   refine GQ.step rfl (q_pure (p_move rfl)) ?_
                   refine GQ.step rfl (q_pure (p_neq rfl rfl)) ?_
                   refine GQ.step rfl (q_pure (p_move rfl)) ?_
                   refine GQ.pass (s := 47) rfl rfl rfl ?_
                   refine GQ.pass (s := 47) rfl rfl rfl ?_
                   refine GQ.pass (s := 47) rfl rfl rfl ?_
                   refine GQ.pass (s := 47) rfl rfl rfl ?_
                   refine GQ.pass (s := 47) rfl rfl rfl ?_
                   refine GQ.pass (s := 47) rfl rfl rfl ?_
                   refine GQ.pass (s := 47) rfl rfl rfl ?_
                   refine GQ.pass (s := 47) rfl rfl rfl ?_
                   refine GQ.pass (s := 47) rfl rfl rfl ?_
                   refine GQ.step rfl (q_pure (p_pick_true rfl rfl)) ?_
                   refine GQ.step rfl (q_pure (p_move rfl)) ?_
                   refine GQ.pass (s := 58) rfl rfl rfl ?_
                   refine GQ.pass (s := 58) rfl rfl rfl ?_
                   refine GQ.pass (s := 58) rfl rfl rfl ?_
                   refine GQ.pass (s := 58) rfl rfl rfl ?_
                   refine GQ.pass (s := 58) rfl rfl rfl ?_
                   refine GQ.pass (s := 58) rfl rfl rfl ?_
                   refine GQ.pass (s := 58) rfl rfl rfl ?_
                   refine GQ.pass (s := 58) rfl rfl rfl ?_
                   refine GQ.pass (s := 58) rfl rfl rfl ?_
                   refine GQ.pass (s := 58) rfl rfl rfl ?_
                   refine GQ.pass (s := 58) rfl rfl rfl ?_
                   refine GQ.step rfl (q_pure (p_pick_true rfl rfl)) ?_
                   refine GQ.nil (?_ : GC _ _ _ _)
                   refine GC.cond_true rfl ?_
                   refine GC.seq' ?_
                   refine GC.region ?_
                   refine GL.pure rfl (p_assign rfl) ?_
                   refine GL.nil (?_ : GC _ _ _ _)
                   refine GC.ret ?_
                   refine fun a w h => Fin.back (rs := [.tmp 4]) (vs := [_]) (is := []) (js := []) rfl ⟨rfl, trivial⟩ rfl rfl ?_ h
                   clear h
                   refine ⟨?_, rfl, rfl⟩; first | rfl | (show Value.bool _ = _; simp)))
       · skip
         refine GL.pure rfl (p_move rfl) ?_
         refine GL.pure rfl (p_move rfl) ?_
         refine GL.step rfl (t_call rfl fn_22 rfl (is := [0, 0, 0]) (js := []) rfl rfl (by exact vblock_ok _ _ _ v ((k : Int) - 1) hv (by omega) (by omega))) (GL.ret ?_)
         rintro _ _ _ ⟨A21, cp21, l21, k21, rfl, rfl, rfl⟩
         refine GL.pure rfl (p_move rfl) ?_
         refine GL.pure rfl (p_extract rfl rfl) ?_
         refine GL.pure rfl (p_extract rfl rfl) ?_
         refine GL.pure rfl (p_extract rfl rfl) ?_
         refine GL.pure rfl (p_assign rfl) ?_
         refine GL.pure rfl (p_assign rfl) ?_
         refine GL.pure rfl (p_assign rfl) ?_
         refine GL.nil (?_ : GC _ _ _ _)
         refine GC.seq' ?_
         refine GC.seq' ?_
         refine GC.region ?_
         refine GL.freezeB (i := 0) rfl ?_
         refine GL.pure rfl (p_move rfl) ?_
         refine GL.pure rfl (p_lss rfl rfl) ?_
         refine GL.pure rfl (p_move rfl) ?_
         refine GL.split (i := 27) rfl (fun h6 => ?_) (fun h6 => ?_)
         · try simp only [decide_eq_true_eq, decide_eq_false_iff_not, Bool.not_eq_true', Bool.not_eq_false', Bool.not_true, Bool.not_false, Bool.not_not, ne_eq, Decidable.not_not, Int.not_lt, Int.not_le, gt_iff_lt, ge_iff_le, bool_true_eq_, bool_false_eq_] at h6
           first
           | (exfalso; first | omega | (simp at h6; done))
           | (skip
              refine GL.pass (s := 27) rfl rfl rfl ?_
              refine GL.pass (s := 27) rfl rfl rfl ?_
              refine GL.pass (s := 27) rfl rfl rfl ?_
              refine GL.pass (s := 27) rfl rfl rfl ?_
              refine GL.pass (s := 27) rfl rfl rfl ?_
              refine GL.pass (s := 27) rfl rfl rfl ?_
              refine GL.pass (s := 27) rfl rfl rfl ?_
              refine GL.pure rfl (p_pick_true rfl rfl) ?_
              refine GL.nil (?_ : GC _ _ _ _)
              refine GC.cond_true rfl ?_
              refine GC.seq' ?_
              refine GC.seq' ?_
              refine GC.region ?_
              refine GL.pure rfl (p_move rfl) ?_
              refine GL.pure rfl (p_neq rfl rfl) ?_
              refine GL.pure rfl (p_move rfl) ?_
              refine GL.pass (s := 38) rfl rfl rfl ?_
              refine GL.pass (s := 38) rfl rfl rfl ?_
              refine GL.pass (s := 38) rfl rfl rfl ?_
              refine GL.pass (s := 38) rfl rfl rfl ?_
              refine GL.pass (s := 38) rfl rfl rfl ?_
              refine GL.pure rfl (p_pick_true rfl rfl) ?_
              refine GL.nil (?_ : GC _ _ _ _)
              refine GC.cond_true rfl ?_
              refine GC.seq' ?_
              refine GC.region ?_
              refine GL.pure rfl (p_assign rfl) ?_
              refine GL.nil (?_ : GC _ _ _ _)
              refine GC.ret ?_
              refine fun a w h => Fin.back (rs := [.tmp 4]) (vs := [_]) (is := []) (js := []) rfl ⟨rfl, trivial⟩ rfl rfl ?_ h
              clear h
              refine ⟨?_, rfl, rfl⟩; first | rfl | (show Value.bool _ = _; simp))
         · try simp only [decide_eq_true_eq, decide_eq_false_iff_not, Bool.not_eq_true', Bool.not_eq_false', Bool.not_true, Bool.not_false, Bool.not_not, ne_eq, Decidable.not_not, Int.not_lt, Int.not_le, gt_iff_lt, ge_iff_le, bool_true_eq_, bool_false_eq_] at h6
           first
           | (exfalso; first | omega | (simp at h6; done))
           | (skip
              refine GL.pureG (s := 27) rfl rfl rfl (p_move rfl) ?_
              refine GL.pureG (s := 27) rfl rfl rfl (p_move rfl) ?_
              refine GL.pureG (s := 27) rfl rfl rfl (p_nilCheck rfl) ?_
              refine GL.pureG (s := 27) rfl rfl rfl (p_fieldAddr fo_79_0 rfl) ?_
              refine GL.pureG (s := 27) rfl rfl rfl (p_fieldAddr fo_23_0 rfl) ?_
              refine GL.stepG rfl (s := 27) rfl rfl (t_mem rfl (m_load (i := 3) rfl rfl ag_3 rfl)) ?_
              refine GL.pureG (s := 27) rfl rfl rfl (p_eql rfl rfl) ?_
              refine GL.pure rfl (p_pick_false rfl rfl) ?_
              refine GL.nil (?_ : GC _ _ _ _)
              refine GC.cond rfl (fun h7 => ?_) (fun h7 => ?_)
              · try simp only [decide_eq_true_eq, decide_eq_false_iff_not, Bool.not_eq_true', Bool.not_eq_false', Bool.not_true, Bool.not_false, Bool.not_not, ne_eq, Decidable.not_not, Int.not_lt, Int.not_le, gt_iff_lt, ge_iff_le, bool_true_eq_, bool_false_eq_] at h7
                first
                | (exfalso; first | omega | (simp at h7; done))
                | (skip
                   refine GC.seq' ?_
                   refine GC.seq' ?_
                   refine GC.region ?_
                   refine GL.pure rfl (p_move rfl) ?_
                   refine GL.pure rfl (p_neq rfl rfl) ?_
                   refine GL.pure rfl (p_move rfl) ?_
                   refine GL.pass (s := 38) rfl rfl rfl ?_
                   refine GL.pass (s := 38) rfl rfl rfl ?_
                   refine GL.pass (s := 38) rfl rfl rfl ?_
                   refine GL.pass (s := 38) rfl rfl rfl ?_
                   refine GL.pass (s := 38) rfl rfl rfl ?_
                   refine GL.pure rfl (p_pick_true rfl rfl) ?_
                   refine GL.nil (?_ : GC _ _ _ _)
                   refine GC.cond_true rfl ?_
                   refine GC.seq' ?_
                   refine GC.region ?_
                   refine GL.pure rfl (p_assign rfl) ?_
                   refine GL.nil (?_ : GC _ _ _ _)
                   refine GC.ret ?_
                   refine fun a w h => Fin.back (rs := [.tmp 4]) (vs := [_]) (is := []) (js := []) rfl ⟨rfl, trivial⟩ rfl rfl ?_ h
                   clear h
                   refine ⟨?_, rfl, rfl⟩; first | rfl | (show Value.bool _ = _; simp))
              · try simp only [decide_eq_true_eq, decide_eq_false_iff_not, Bool.not_eq_true', Bool.not_eq_false', Bool.not_true, Bool.not_false, Bool.not_not, ne_eq, Decidable.not_not, Int.not_lt, Int.not_le, gt_iff_lt, ge_iff_le, bool_true_eq_, bool_false_eq_] at h7
                first
                | (exfalso; first | omega | (simp at h7; done))
                | (skip
                   refine GC.skip (?_ : GC _ _ _ _)
                   refine GC.seq' ?_
                   refine GC.layE (j := 1) (m := (k : Int) - 1) (sp) rfl (by omega) (gt_ok (by omega) (by omega)) (fun r_e ok_e hc_e => ?_)
                   rcases r_e with ⟨A_e, c_e⟩
                   have hg := chV_gt hv (show 0 ≤ (k : Int) - 1 by omega) (by omega)
                   have hl1 := pc_length hv (a := (k : Int) - 1) (n := 1) (by omega) (by omega) (by omega)
                   rw [hg] at ok_e hc_e ⊢
                   refine GC.regionQ wide_ (by kernel_rfl) ?_
                   refine GQ.step rfl (q_pure (p_move rfl)) ?_
                   refine GQ.step rfl (q_pure (p_neq rfl rfl)) ?_
                   refine GQ.step rfl (q_pure (p_move rfl)) ?_
                   refine GQ.stepG (s := 47) rfl rfl rfl (q_pure (p_move rfl)) ?_
                   refine GQ.stepG (s := 47) rfl rfl rfl (q_pure (p_move rfl)) ?_
                   refine GQ.stepG (s := 47) rfl rfl rfl (q_pure (p_nilCheck rfl)) ?_
                   refine GQ.stepG (s := 47) rfl rfl rfl (q_pure (p_fieldAddr fo_79_2 rfl)) ?_
                   refine GQ.stepG (s := 47) rfl rfl rfl (q_mem (m_load (i := 3) rfl rfl ag_56 rfl)) ?_
                   refine GQ.stepG (s := 47) rfl rfl rfl (q_pure (p_move rfl)) ?_
                   refine GQ.stepG (s := 47) rfl rfl rfl (q_pure (p_indexB rfl rfl Try.underlying56 sz_3 (by omega) (by omega))) ?_
                   refine GQ.stepG (s := 47) rfl rfl rfl (q_mem (m_load (i := 5) rfl rfl ag_3 (nth_mapS _ (by omega) (by omega)))) ?_
                   refine GQ.stepG (s := 47) rfl rfl rfl (q_pure (p_neq rfl rfl)) ?_
                   refine GQ.step rfl (q_pure (p_pick_false rfl rfl)) ?_
                   refine GQ.step rfl (q_pure (p_move rfl)) ?_
                   refine GQ.split (i := 58) rfl (fun h8 => ?_) (fun h8 => ?_)
                   · try simp only [decide_eq_true_eq, decide_eq_false_iff_not, Bool.not_eq_true', Bool.not_eq_false', Bool.not_true, Bool.not_false, Bool.not_not, ne_eq, Decidable.not_not, Int.not_lt, Int.not_le, gt_iff_lt, ge_iff_le, bool_true_eq_, bool_false_eq_] at h8
                     first
                     | (exfalso; first | omega | (simp at h8; done))
                     | (skip
                        refine GQ.pass (s := 58) rfl rfl rfl ?_
                        refine GQ.pass (s := 58) rfl rfl rfl ?_
                        refine GQ.pass (s := 58) rfl rfl rfl ?_
                        refine GQ.pass (s := 58) rfl rfl rfl ?_
                        refine GQ.pass (s := 58) rfl rfl rfl ?_
                        refine GQ.pass (s := 58) rfl rfl rfl ?_
                        refine GQ.pass (s := 58) rfl rfl rfl ?_
                        refine GQ.pass (s := 58) rfl rfl rfl ?_
                        refine GQ.pass (s := 58) rfl rfl rfl ?_
                        refine GQ.pass (s := 58) rfl rfl rfl ?_
                        refine GQ.pass (s := 58) rfl rfl rfl ?_
                        refine GQ.step rfl (q_pure (p_pick_true rfl rfl)) ?_
                        refine GQ.nil (?_ : GC _ _ _ _)
                        refine GC.cond_true rfl ?_
                        refine GC.seq' ?_
                        refine GC.region ?_
                        refine GL.pure rfl (p_assign rfl) ?_
                        refine GL.nil (?_ : GC _ _ _ _)
                        refine GC.ret ?_
                        refine fun a w h => Fin.back (rs := [.tmp 4]) (vs := [_]) (is := []) (js := []) rfl ⟨rfl, trivial⟩ rfl rfl ?_ h
                        clear h
                        refine ⟨?_, rfl, rfl⟩; first | rfl | (show Value.bool _ = _; simp))
                   · try simp only [decide_eq_true_eq, decide_eq_false_iff_not, Bool.not_eq_true', Bool.not_eq_false', Bool.not_true, Bool.not_false, Bool.not_not, ne_eq, Decidable.not_not, Int.not_lt, Int.not_le, gt_iff_lt, ge_iff_le, bool_true_eq_, bool_false_eq_] at h8
                     first
                     | (exfalso; first | omega | (simp at h8; done))
                     | (skip
                        refine GQ.stepG (s := 58) rfl rfl rfl (q_pure (p_move rfl)) ?_
                        refine GQ.stepG (s := 58) rfl rfl rfl (q_mem (m_str (i := 1) rfl rfl Try.underlying31 Try.underlying5 Try.underlying9)) ?_
                        refine GQ.stepG (s := 58) rfl rfl rfl (q_pure (p_move rfl)) ?_
                        refine GQ.stepG (s := 58) rfl rfl rfl (q_pure (p_nilCheck rfl)) ?_
                        refine GQ.stepG (s := 58) rfl rfl rfl (q_pure (p_fieldAddr fo_79_1 rfl)) ?_
                        refine GQ.stepG (s := 58) rfl rfl rfl (q_mem (m_load (i := 3) rfl rfl ag_77 rfl)) ?_
                        refine GQ.stepG (s := 58) rfl rfl rfl (q_pure (p_move rfl)) ?_
                        refine GQ.stepG (s := 58) rfl rfl rfl (q_pure (p_indexB rfl rfl Try.underlying77 sz_31 (by omega) (by omega))) ?_
                        refine GQ.stepG (s := 58) rfl rfl rfl (q_mem (m_load (i := 4) rfl rfl ag_31 (hc_e 0 _ rfl))) ?_
                        refine GQ.stepG (s := 58) rfl rfl rfl (q_mem (m_str (i := 0) rfl rfl Try.underlying31 Try.underlying5 Try.underlying9)) ?_
                        refine GQ.stepG (s := 58) rfl rfl rfl (q_pure (p_sneq rfl rfl)) ?_
                        refine GQ.step rfl (q_pure (p_pick_false rfl rfl)) ?_
                        refine GQ.nil (?_ : GC _ _ _ _)
                        refine GC.cond rfl (fun h9 => ?_) (fun h9 => ?_)
                        · try simp only [decide_eq_true_eq, decide_eq_false_iff_not, Bool.not_eq_true', Bool.not_eq_false', Bool.not_true, Bool.not_false, Bool.not_not, ne_eq, Decidable.not_not, Int.not_lt, Int.not_le, gt_iff_lt, ge_iff_le, bool_true_eq_, bool_false_eq_] at h9
                          first
                          | (exfalso; first | omega | (simp at h9; done))
                          | (skip
                             refine GC.seq' ?_
                             refine GC.region ?_
                             refine GL.pure rfl (p_assign rfl) ?_
                             refine GL.nil (?_ : GC _ _ _ _)
                             refine GC.ret ?_
                             refine fun a w h => Fin.back (rs := [.tmp 4]) (vs := [_]) (is := []) (js := []) rfl ⟨rfl, trivial⟩ rfl rfl ?_ h
                             clear h
                             refine ⟨?_, rfl, rfl⟩; first | rfl | (show Value.bool _ = _; simp))
                        · try simp only [decide_eq_true_eq, decide_eq_false_iff_not, Bool.not_eq_true', Bool.not_eq_false', Bool.not_true, Bool.not_false, Bool.not_not, ne_eq, Decidable.not_not, Int.not_lt, Int.not_le, gt_iff_lt, ge_iff_le, bool_true_eq_, bool_false_eq_] at h9
                          first
                          | (exfalso; first | omega | (simp at h9; done))
                          | (skip
                             refine GC.skip (?_ : GC _ _ _ _)
                             refine GC.region ?_
                             refine GL.pure rfl (p_move rfl) ?_
                             refine GL.pure rfl (p_add rfl rfl (w64 (by omega) (by omega))) ?_
                             refine GL.pure rfl (p_assign rfl) ?_
                             refine GL.nil ?_
                             exact fun a w h => ⟨(k + 1), (by omega), by omega, by rw [show (((k + 1 : Nat) : Int) - 1) = ((k : Int) - 1 + 1) by omega]; exact h.cut (is := [0, 0, 0, 0, 0, 0]) (js := [2]) ⟨rfl, rfl, rfl, trivial⟩ rfl rfl⟩)))))
  · try simp only [decide_eq_true_eq, decide_eq_false_iff_not, Bool.not_eq_true', Bool.not_eq_false', Bool.not_true, Bool.not_false, Bool.not_not, ne_eq, Decidable.not_not, Int.not_lt, Int.not_le, gt_iff_lt, ge_iff_le, bool_true_eq_, bool_false_eq_] at h1
    first
    | (exfalso; first | omega | (simp at h1; done))
    | (skip
       refine GC.exit (?_ : GC _ _ _ _)
       refine GC.seq' ?_
       refine GC.regionC (m := 24) (is := [0, 0, 0, 0, 0, 0]) (js := [0]) wide_ rfl rfl rfl ?_
       refine GA.take 0 rfl (by kernel_rfl) (by kernel_rfl) (by kernel_rfl) rfl (fun a w h => h.mem (is := [0, 0, 0, 0, 0, 0]) (js := [0]) rfl rfl) (i_pure (p_move rfl)) ?_
       refine GA.take 2 rfl (by kernel_rfl) (by kernel_rfl) (by kernel_rfl) rfl (fun a w h => h.mem (is := [0, 0, 0, 0, 0, 0]) (js := [0]) rfl rfl) (i_pure (p_move rfl)) ?_
       refine GA.take 3 rfl (by kernel_rfl) (by kernel_rfl) (by kernel_rfl) rfl (fun a w h => h.mem (is := [0, 0, 0, 0, 0, 0]) (js := [0]) rfl rfl) (i_pure (p_nilCheck rfl)) ?_
       refine GA.take 4 rfl (by kernel_rfl) (by kernel_rfl) (by kernel_rfl) rfl (fun a w h => h.mem (is := [0, 0, 0, 0, 0, 0]) (js := [0]) rfl rfl) (i_pure (p_fieldAddr fo_79_0 rfl)) ?_
       refine GA.take 5 rfl (by kernel_rfl) (by kernel_rfl) (by kernel_rfl) rfl (fun a w h => h.mem (is := [0, 0, 0, 0, 0, 0]) (js := [0]) rfl rfl) (i_mem (m_loadN (i := 3) rfl rfl ag_23 (vs := [_, _]) sz_23 ⟨rfl, rfl, trivial⟩)) ?_
       refine GA.all (rs := [1]) (by kernel_rfl) (by simp) ?_
       refine GAs.cons (i := 1) rfl rfl (t_call rfl fn_24 rfl (is := [0, 0, 0]) (js := []) rfl rfl (by exact vshape_ct _ _ _ v)) (by rintro a w ⟨_, _, _, ⟨rfl, rfl, rfl⟩, h⟩; exact h.mem (is := [0, 0, 0, 0, 0, 0]) (js := [0]) rfl rfl) (GA.ret ?_) ?_
       · rintro _ _ _ ⟨rfl, rfl, rfl⟩
         refine GA.take 6 rfl (by kernel_rfl) (by kernel_rfl) (by kernel_rfl) rfl (fun a w h => h.mem (is := [0, 0, 0, 0, 0, 0]) (js := [0]) rfl rfl) (i_pure (p_shapeEql rfl rfl)) ?_
         refine GA.take 7 rfl (by kernel_rfl) (by kernel_rfl) (by kernel_rfl) rfl (fun a w h => h.mem (is := [0, 0, 0, 0, 0, 0]) (js := [0]) rfl rfl) (i_pure (p_move rfl)) ?_
         refine GA.split (i := 78) rfl (fun h10 => ?_) (fun h10 => ?_)
         · try simp only [decide_eq_true_eq, decide_eq_false_iff_not, Bool.not_eq_true', Bool.not_eq_false', Bool.not_true, Bool.not_false, Bool.not_not, ne_eq, Decidable.not_not, Int.not_lt, Int.not_le, gt_iff_lt, ge_iff_le, bool_true_eq_, bool_false_eq_] at h10
           first
           | (exfalso; first | omega | (simp at h10; done))
           | (skip
              refine GA.takeG (s := 78) 8 rfl rfl rfl (by kernel_rfl) (by kernel_rfl) (by kernel_rfl) rfl (fun a w h => h.mem (is := [0, 0, 0, 0, 0, 0]) (js := [0]) rfl rfl) (i_pure (p_move rfl)) ?_
              refine GA.takeG (s := 78) 11 rfl rfl rfl (by kernel_rfl) (by kernel_rfl) (by kernel_rfl) rfl (fun a w h => h.mem (is := [0, 0, 0, 0, 0, 0]) (js := [0]) rfl rfl) (i_pure (p_move rfl)) ?_
              refine GA.all (rs := [9]) (by kernel_rfl) (by simp) ?_
              refine GAs.consG (i := 9) (s := 78) rfl rfl rfl rfl (t_call rfl fn_13 rfl (is := [0, 0, 0]) (js := []) rfl rfl (by exact bytes_ct _ _ _ v hv)) (by rintro a w ⟨_, _, _, ⟨A80, cp80, l80, k80, rfl, rfl, rfl⟩, h⟩; exact h.mem (is := [1, 1, 1, 1, 1, 1]) (js := [0]) rfl rfl) (GA.ret ?_) ?_
              · rintro _ _ _ ⟨A80, cp80, l80, k80, rfl, rfl, rfl⟩
                refine GA.freezeB (i := 0) rfl ?_
                refine GA.all (rs := [10, 12]) (by kernel_rfl) (by simp) ?_
                refine GAs.consG (i := 10) (s := 78) rfl rfl rfl rfl (t_mem rfl (m_str (i := 0) rfl rfl Try.underlying31 Try.underlying5 Try.underlying9)) (by rintro a w h; exact h.mem (is := [0, 0, 0, 0, 0, 0]) (js := [1]) rfl rfl) ?_ ?_
                · refine GA.all (rs := [12]) (by kernel_rfl) (by simp) ?_
                  refine GAs.consG (i := 12) (s := 78) rfl rfl rfl rfl (t_call rfl fn_40 rfl (is := [3, 3, 3]) (js := [1]) rfl rfl (by exact rbytes_ct _ _ _ _ _ _ _ _ v hv)) (by rintro a w ⟨_, _, _, ⟨A83, cp83, l83, k83, rfl, rfl, rfl⟩, h⟩; exact h.mem (is := [4, 4, 4, 1, 1, 1]) (js := [1]) rfl rfl) (GA.ret ?_) ?_
                  · rintro _ _ _ ⟨A83, cp83, l83, k83, rfl, rfl, rfl⟩
                    refine GA.freezeB (i := 0) rfl ?_
                    refine GA.all (rs := [13]) (by kernel_rfl) (by simp) ?_
                    refine GAs.consG (i := 13) (s := 78) rfl rfl rfl rfl (t_mem rfl (m_str (i := 0) rfl rfl Try.underlying31 Try.underlying5 Try.underlying9)) (by rintro a w h; exact h.mem (is := [3, 3, 3, 0, 0, 0]) (js := [2]) rfl rfl) ?_ ?_
                    · refine GA.takeG (s := 78) 14 rfl rfl rfl (by kernel_rfl) (by kernel_rfl) (by kernel_rfl) rfl (fun a w h => h.mem (is := [3, 3, 3, 0, 0, 0]) (js := [2]) rfl rfl) (i_pure (p_seql rfl rfl)) ?_
                      refine GA.take 15 rfl (by kernel_rfl) (by kernel_rfl) (by kernel_rfl) rfl (fun a w h => h.mem (is := [3, 3, 3, 0, 0, 0]) (js := [2]) rfl rfl) (i_pure (p_pick_true rfl rfl)) ?_
                      refine GA.take 16 rfl (by kernel_rfl) (by kernel_rfl) (by kernel_rfl) rfl (fun a w h => h.mem (is := [3, 3, 3, 0, 0, 0]) (js := [2]) rfl rfl) (i_pure (p_move rfl)) ?_
                      refine GA.split (i := 87) rfl (fun h11 => ?_) (fun h11 => ?_)
                      · try simp only [decide_eq_true_eq, decide_eq_false_iff_not, Bool.not_eq_true', Bool.not_eq_false', Bool.not_true, Bool.not_false, Bool.not_not, ne_eq, Decidable.not_not, Int.not_lt, Int.not_le, gt_iff_lt, ge_iff_le, bool_true_eq_, bool_false_eq_] at h11
                        first
                        | (exfalso; first | omega | (simp at h11; done))
                        | (skip
                           refine GA.takeG (s := 87) 17 rfl rfl rfl (by kernel_rfl) (by kernel_rfl) (by kernel_rfl) rfl (fun a w h => h.mem (is := [3, 3, 3, 0, 0, 0]) (js := [2]) rfl rfl) (i_pure (p_move rfl)) ?_
                           refine GA.takeG (s := 87) 19 rfl rfl rfl (by kernel_rfl) (by kernel_rfl) (by kernel_rfl) rfl (fun a w h => h.mem (is := [3, 3, 3, 0, 0, 0]) (js := [2]) rfl rfl) (i_pure (p_move rfl)) ?_
                           refine GA.all (rs := [18]) (by kernel_rfl) (by simp) ?_
                           refine GAs.consG (i := 18) (s := 87) rfl rfl rfl rfl (t_call rfl fn_23 rfl (is := [3, 3, 3]) (js := []) rfl rfl (by exact vsum_ct _ _ _ v hv)) (by rintro a w ⟨_, _, _, ⟨rfl, rfl, rfl⟩, h⟩; exact h.mem (is := [0, 0, 0, 0, 0, 0]) (js := [2]) rfl rfl) (GA.ret ?_) ?_
                           · rintro _ _ _ ⟨rfl, rfl, rfl⟩
                             refine GA.all (rs := [20]) (by kernel_rfl) (by simp) ?_
                             refine GAs.consG (i := 20) (s := 87) rfl rfl rfl rfl (t_call rfl fn_41 rfl (is := [3, 3, 3]) (js := [2]) rfl rfl (by exact rsum_ct _ _ _ _ _ _ _ _ v hv)) (by rintro a w ⟨_, _, _, ⟨rfl, rfl, rfl⟩, h⟩; exact h.mem (is := [3, 3, 3, 0, 0, 0]) (js := [2]) rfl rfl) (GA.ret ?_) ?_
                             · rintro _ _ _ ⟨rfl, rfl, rfl⟩
                               refine GA.takeG (s := 87) 21 rfl rfl rfl (by kernel_rfl) (by kernel_rfl) (by kernel_rfl) rfl (fun a w h => h.mem (is := [3, 3, 3, 0, 0, 0]) (js := [2]) rfl rfl) (i_pure (p_eql rfl rfl)) ?_
                               refine GA.take 22 rfl (by kernel_rfl) (by kernel_rfl) (by kernel_rfl) rfl (fun a w h => h.mem (is := [3, 3, 3, 0, 0, 0]) (js := [2]) rfl rfl) (i_pure (p_pick_true rfl rfl)) ?_
                               refine GA.take 23 rfl (by kernel_rfl) (by kernel_rfl) (by kernel_rfl) rfl (fun a w h => h.mem (is := [3, 3, 3, 0, 0, 0]) (js := [2]) rfl rfl) (i_pure (p_assign rfl)) ?_
                               refine GA.done (by kernel_rfl) (?_ : GC _ _ _ _)
                               refine GC.ret ?_
                               refine fun a w h => Fin.back (rs := [.tmp 4]) (vs := [_]) (is := []) (js := []) rfl ⟨rfl, trivial⟩ rfl rfl ?_ h
                               clear h
                               refine ⟨?_, rfl, rfl⟩; first | rfl | (show Value.bool _ = _; simp)
                             exact GAs.nil
                           exact GAs.nil)
                      · try simp only [decide_eq_true_eq, decide_eq_false_iff_not, Bool.not_eq_true', Bool.not_eq_false', Bool.not_true, Bool.not_false, Bool.not_not, ne_eq, Decidable.not_not, Int.not_lt, Int.not_le, gt_iff_lt, ge_iff_le, bool_true_eq_, bool_false_eq_] at h11
                        first
                        | (exfalso; first | omega | (simp at h11; done))
                        | (skip
                           refine GA.takeX (s := 87) 17 rfl rfl rfl (by kernel_rfl) (by kernel_rfl) (by kernel_rfl) rfl (fun a w h => h.mem (is := [3, 3, 3, 0, 0, 0]) (js := [2]) rfl rfl) ?_
                           refine GA.takeX (s := 87) 18 rfl rfl rfl (by kernel_rfl) (by kernel_rfl) (by kernel_rfl) rfl (fun a w h => h.mem (is := [3, 3, 3, 0, 0, 0]) (js := [2]) rfl rfl) ?_
                           refine GA.takeX (s := 87) 19 rfl rfl rfl (by kernel_rfl) (by kernel_rfl) (by kernel_rfl) rfl (fun a w h => h.mem (is := [3, 3, 3, 0, 0, 0]) (js := [2]) rfl rfl) ?_
                           refine GA.takeX (s := 87) 20 rfl rfl rfl (by kernel_rfl) (by kernel_rfl) (by kernel_rfl) rfl (fun a w h => h.mem (is := [3, 3, 3, 0, 0, 0]) (js := [2]) rfl rfl) ?_
                           refine GA.takeX (s := 87) 21 rfl rfl rfl (by kernel_rfl) (by kernel_rfl) (by kernel_rfl) rfl (fun a w h => h.mem (is := [3, 3, 3, 0, 0, 0]) (js := [2]) rfl rfl) ?_
                           refine GA.take 22 rfl (by kernel_rfl) (by kernel_rfl) (by kernel_rfl) rfl (fun a w h => h.mem (is := [3, 3, 3, 0, 0, 0]) (js := [2]) rfl rfl) (i_pure (p_pick_false rfl rfl)) ?_
                           refine GA.take 23 rfl (by kernel_rfl) (by kernel_rfl) (by kernel_rfl) rfl (fun a w h => h.mem (is := [3, 3, 3, 0, 0, 0]) (js := [2]) rfl rfl) (i_pure (p_assign rfl)) ?_
                           refine GA.done (by kernel_rfl) (?_ : GC _ _ _ _)
                           refine GC.ret ?_
                           refine fun a w h => Fin.back (rs := [.tmp 4]) (vs := [_]) (is := []) (js := []) rfl ⟨rfl, trivial⟩ rfl rfl ?_ h
                           clear h
                           refine ⟨?_, rfl, rfl⟩; first | rfl | (show Value.bool _ = _; simp))
                    exact GAs.nil
                  exact GAs.nil
                refine GAs.consG (i := 12) (s := 78) rfl rfl rfl rfl (t_call rfl fn_40 rfl (is := [3, 3, 3]) (js := [1]) rfl rfl (by exact rbytes_ct _ _ _ _ _ _ _ _ v hv)) (by rintro a w ⟨_, _, _, ⟨A83, cp83, l83, k83, rfl, rfl, rfl⟩, h⟩; exact h.mem (is := [4, 4, 4, 1, 1, 1]) (js := [1]) rfl rfl) (GA.ret ?_) ?_
                · rintro _ _ _ ⟨A83, cp83, l83, k83, rfl, rfl, rfl⟩
                  refine GA.freezeB (i := 0) rfl ?_
                  refine GA.all (rs := [10, 13]) (by kernel_rfl) (by simp) ?_
                  refine GAs.consG (i := 10) (s := 78) rfl rfl rfl rfl (t_mem rfl (m_str (i := 1) rfl rfl Try.underlying31 Try.underlying5 Try.underlying9)) (by rintro a w h; exact h.mem (is := [3, 3, 3, 0, 0, 0]) (js := [2]) rfl rfl) ?_ ?_
                  · refine GA.all (rs := [13]) (by kernel_rfl) (by simp) ?_
                    refine GAs.consG (i := 13) (s := 78) rfl rfl rfl rfl (t_mem rfl (m_str (i := 0) rfl rfl Try.underlying31 Try.underlying5 Try.underlying9)) (by rintro a w h; exact h.mem (is := [3, 3, 3, 0, 0, 0]) (js := [2]) rfl rfl) ?_ ?_
                    · refine GA.takeG (s := 78) 14 rfl rfl rfl (by kernel_rfl) (by kernel_rfl) (by kernel_rfl) rfl (fun a w h => h.mem (is := [3, 3, 3, 0, 0, 0]) (js := [2]) rfl rfl) (i_pure (p_seql rfl rfl)) ?_
                      refine GA.take 15 rfl (by kernel_rfl) (by kernel_rfl) (by kernel_rfl) rfl (fun a w h => h.mem (is := [3, 3, 3, 0, 0, 0]) (js := [2]) rfl rfl) (i_pure (p_pick_true rfl rfl)) ?_
                      refine GA.take 16 rfl (by kernel_rfl) (by kernel_rfl) (by kernel_rfl) rfl (fun a w h => h.mem (is := [3, 3, 3, 0, 0, 0]) (js := [2]) rfl rfl) (i_pure (p_move rfl)) ?_
                      refine GA.split (i := 87) rfl (fun h11 => ?_) (fun h11 => ?_)
                      · try simp only [decide_eq_true_eq, decide_eq_false_iff_not, Bool.not_eq_true', Bool.not_eq_false', Bool.not_true, Bool.not_false, Bool.not_not, ne_eq, Decidable.not_not, Int.not_lt, Int.not_le, gt_iff_lt, ge_iff_le, bool_true_eq_, bool_false_eq_] at h11
                        first
                        | (exfalso; first | omega | (simp at h11; done))
                        | (skip
                           refine GA.takeG (s := 87) 17 rfl rfl rfl (by kernel_rfl) (by kernel_rfl) (by kernel_rfl) rfl (fun a w h => h.mem (is := [3, 3, 3, 0, 0, 0]) (js := [2]) rfl rfl) (i_pure (p_move rfl)) ?_
                           refine GA.takeG (s := 87) 19 rfl rfl rfl (by kernel_rfl) (by kernel_rfl) (by kernel_rfl) rfl (fun a w h => h.mem (is := [3, 3, 3, 0, 0, 0]) (js := [2]) rfl rfl) (i_pure (p_move rfl)) ?_
                           refine GA.all (rs := [18]) (by kernel_rfl) (by simp) ?_
                           refine GAs.consG (i := 18) (s := 87) rfl rfl rfl rfl (t_call rfl fn_23 rfl (is := [3, 3, 3]) (js := []) rfl rfl (by exact vsum_ct _ _ _ v hv)) (by rintro a w ⟨_, _, _, ⟨rfl, rfl, rfl⟩, h⟩; exact h.mem (is := [0, 0, 0, 0, 0, 0]) (js := [2]) rfl rfl) (GA.ret ?_) ?_
                           · rintro _ _ _ ⟨rfl, rfl, rfl⟩
                             refine GA.all (rs := [20]) (by kernel_rfl) (by simp) ?_
                             refine GAs.consG (i := 20) (s := 87) rfl rfl rfl rfl (t_call rfl fn_41 rfl (is := [3, 3, 3]) (js := [2]) rfl rfl (by exact rsum_ct _ _ _ _ _ _ _ _ v hv)) (by rintro a w ⟨_, _, _, ⟨rfl, rfl, rfl⟩, h⟩; exact h.mem (is := [3, 3, 3, 0, 0, 0]) (js := [2]) rfl rfl) (GA.ret ?_) ?_
                             · rintro _ _ _ ⟨rfl, rfl, rfl⟩
                               refine GA.takeG (s := 87) 21 rfl rfl rfl (by kernel_rfl) (by kernel_rfl) (by kernel_rfl) rfl (fun a w h => h.mem (is := [3, 3, 3, 0, 0, 0]) (js := [2]) rfl rfl) (i_pure (p_eql rfl rfl)) ?_
                               refine GA.take 22 rfl (by kernel_rfl) (by kernel_rfl) (by kernel_rfl) rfl (fun a w h => h.mem (is := [3, 3, 3, 0, 0, 0]) (js := [2]) rfl rfl) (i_pure (p_pick_true rfl rfl)) ?_
                               refine GA.take 23 rfl (by kernel_rfl) (by kernel_rfl) (by kernel_rfl) rfl (fun a w h => h.mem (is := [3, 3, 3, 0, 0, 0]) (js := [2]) rfl rfl) (i_pure (p_assign rfl)) ?_
                               refine GA.done (by kernel_rfl) (?_ : GC _ _ _ _)
                               refine GC.ret ?_
                               refine fun a w h => Fin.back (rs := [.tmp 4]) (vs := [_]) (is := []) (js := []) rfl ⟨rfl, trivial⟩ rfl rfl ?_ h
                               clear h
                               refine ⟨?_, rfl, rfl⟩; first | rfl | (show Value.bool _ = _; simp)
                             exact GAs.nil
                           exact GAs.nil)
                      · try simp only [decide_eq_true_eq, decide_eq_false_iff_not, Bool.not_eq_true', Bool.not_eq_false', Bool.not_true, Bool.not_false, Bool.not_not, ne_eq, Decidable.not_not, Int.not_lt, Int.not_le, gt_iff_lt, ge_iff_le, bool_true_eq_, bool_false_eq_] at h11
                        first
                        | (exfalso; first | omega | (simp at h11; done))
                        | (skip
                           refine GA.takeX (s := 87) 17 rfl rfl rfl (by kernel_rfl) (by kernel_rfl) (by kernel_rfl) rfl (fun a w h => h.mem (is := [3, 3, 3, 0, 0, 0]) (js := [2]) rfl rfl) ?_
                           refine GA.takeX (s := 87) 18 rfl rfl rfl (by kernel_rfl) (by kernel_rfl) (by kernel_rfl) rfl (fun a w h => h.mem (is := [3, 3, 3, 0, 0, 0]) (js := [2]) rfl rfl) ?_
                           refine GA.takeX (s := 87) 19 rfl rfl rfl (by kernel_rfl) (by kernel_rfl) (by kernel_rfl) rfl (fun a w h => h.mem (is := [3, 3, 3, 0, 0, 0]) (js := [2]) rfl rfl) ?_
                           refine GA.takeX (s := 87) 20 rfl rfl rfl (by kernel_rfl) (by kernel_rfl) (by kernel_rfl) rfl (fun a w h => h.mem (is := [3, 3, 3, 0, 0, 0]) (js := [2]) rfl rfl) ?_
                           refine GA.takeX (s := 87) 21 rfl rfl rfl (by kernel_rfl) (by kernel_rfl) (by kernel_rfl) rfl (fun a w h => h.mem (is := [3, 3, 3, 0, 0, 0]) (js := [2]) rfl rfl) ?_
                           refine GA.take 22 rfl (by kernel_rfl) (by kernel_rfl) (by kernel_rfl) rfl (fun a w h => h.mem (is := [3, 3, 3, 0, 0, 0]) (js := [2]) rfl rfl) (i_pure (p_pick_false rfl rfl)) ?_
                           refine GA.take 23 rfl (by kernel_rfl) (by kernel_rfl) (by kernel_rfl) rfl (fun a w h => h.mem (is := [3, 3, 3, 0, 0, 0]) (js := [2]) rfl rfl) (i_pure (p_assign rfl)) ?_
                           refine GA.done (by kernel_rfl) (?_ : GC _ _ _ _)
                           refine GC.ret ?_
                           refine fun a w h => Fin.back (rs := [.tmp 4]) (vs := [_]) (is := []) (js := []) rfl ⟨rfl, trivial⟩ rfl rfl ?_ h
                           clear h
                           refine ⟨?_, rfl, rfl⟩; first | rfl | (show Value.bool _ = _; simp))
                    exact GAs.nil
                  refine GAs.consG (i := 13) (s := 78) rfl rfl rfl rfl (t_mem rfl (m_str (i := 0) rfl rfl Try.underlying31 Try.underlying5 Try.underlying9)) (by rintro a w h; exact h.mem (is := [3, 3, 3, 0, 0, 0]) (js := [2]) rfl rfl) ?_ ?_
                  · refine GA.all (rs := [10]) (by kernel_rfl) (by simp) ?_
                    refine GAs.consG (i := 10) (s := 78) rfl rfl rfl rfl (t_mem rfl (m_str (i := 1) rfl rfl Try.underlying31 Try.underlying5 Try.underlying9)) (by rintro a w h; exact h.mem (is := [3, 3, 3, 0, 0, 0]) (js := [2]) rfl rfl) ?_ ?_
                    · refine GA.takeG (s := 78) 14 rfl rfl rfl (by kernel_rfl) (by kernel_rfl) (by kernel_rfl) rfl (fun a w h => h.mem (is := [3, 3, 3, 0, 0, 0]) (js := [2]) rfl rfl) (i_pure (p_seql rfl rfl)) ?_
                      refine GA.take 15 rfl (by kernel_rfl) (by kernel_rfl) (by kernel_rfl) rfl (fun a w h => h.mem (is := [3, 3, 3, 0, 0, 0]) (js := [2]) rfl rfl) (i_pure (p_pick_true rfl rfl)) ?_
                      refine GA.take 16 rfl (by kernel_rfl) (by kernel_rfl) (by kernel_rfl) rfl (fun a w h => h.mem (is := [3, 3, 3, 0, 0, 0]) (js := [2]) rfl rfl) (i_pure (p_move rfl)) ?_
                      refine GA.split (i := 87) rfl (fun h11 => ?_) (fun h11 => ?_)
                      · try simp only [decide_eq_true_eq, decide_eq_false_iff_not, Bool.not_eq_true', Bool.not_eq_false', Bool.not_true, Bool.not_false, Bool.not_not, ne_eq, Decidable.not_not, Int.not_lt, Int.not_le, gt_iff_lt, ge_iff_le, bool_true_eq_, bool_false_eq_] at h11
                        first
                        | (exfalso; first | omega | (simp at h11; done))
                        | (skip
                           refine GA.takeG (s := 87) 17 rfl rfl rfl (by kernel_rfl) (by kernel_rfl) (by kernel_rfl) rfl (fun a w h => h.mem (is := [3, 3, 3, 0, 0, 0]) (js := [2]) rfl rfl) (i_pure (p_move rfl)) ?_
                           refine GA.takeG (s := 87) 19 rfl rfl rfl (by kernel_rfl) (by kernel_rfl) (by kernel_rfl) rfl (fun a w h => h.mem (is := [3, 3, 3, 0, 0, 0]) (js := [2]) rfl rfl) (i_pure (p_move rfl)) ?_
                           refine GA.all (rs := [18]) (by kernel_rfl) (by simp) ?_
                           refine GAs.consG (i := 18) (s := 87) rfl rfl rfl rfl (t_call rfl fn_23 rfl (is := [3, 3, 3]) (js := []) rfl rfl (by exact vsum_ct _ _ _ v hv)) (by rintro a w ⟨_, _, _, ⟨rfl, rfl, rfl⟩, h⟩; exact h.mem (is := [0, 0, 0, 0, 0, 0]) (js := [2]) rfl rfl) (GA.ret ?_) ?_
                           · rintro _ _ _ ⟨rfl, rfl, rfl⟩
                             refine GA.all (rs := [20]) (by kernel_rfl) (by simp) ?_
                             refine GAs.consG (i := 20) (s := 87) rfl rfl rfl rfl (t_call rfl fn_41 rfl (is := [3, 3, 3]) (js := [2]) rfl rfl (by exact rsum_ct _ _ _ _ _ _ _ _ v hv)) (by rintro a w ⟨_, _, _, ⟨rfl, rfl, rfl⟩, h⟩; exact h.mem (is := [3, 3, 3, 0, 0, 0]) (js := [2]) rfl rfl) (GA.ret ?_) ?_
                             · rintro _ _ _ ⟨rfl, rfl, rfl⟩
                               refine GA.takeG (s := 87) 21 rfl rfl rfl (by kernel_rfl) (by kernel_rfl) (by kernel_rfl) rfl (fun a w h => h.mem (is := [3, 3, 3, 0, 0, 0]) (js := [2]) rfl rfl) (i_pure (p_eql rfl rfl)) ?_
                               refine GA.take 22 rfl (by kernel_rfl) (by kernel_rfl) (by kernel_rfl) rfl (fun a w h => h.mem (is := [3, 3, 3, 0, 0, 0]) (js := [2]) rfl rfl) (i_pure (p_pick_true rfl rfl)) ?_
                               refine GA.take 23 rfl (by kernel_rfl) (by kernel_rfl) (by kernel_rfl) rfl (fun a w h => h.mem (is := [3, 3, 3, 0, 0, 0]) (js := [2]) rfl rfl) (i_pure (p_assign rfl)) ?_
                               refine GA.done (by kernel_rfl) (?_ : GC _ _ _ _)
                               refine GC.ret ?_
                               refine fun a w h => Fin.back (rs := [.tmp 4]) (vs := [_]) (is := []) (js := []) rfl ⟨rfl, trivial⟩ rfl rfl ?_ h
                               clear h
                               refine ⟨?_, rfl, rfl⟩; first | rfl | (show Value.bool _ = _; simp)
                             exact GAs.nil
                           exact GAs.nil)
                      · try simp only [decide_eq_true_eq, decide_eq_false_iff_not, Bool.not_eq_true', Bool.not_eq_false', Bool.not_true, Bool.not_false, Bool.not_not, ne_eq, Decidable.not_not, Int.not_lt, Int.not_le, gt_iff_lt, ge_iff_le, bool_true_eq_, bool_false_eq_] at h11
                        first
                        | (exfalso; first | omega | (simp at h11; done))
                        | (skip
                           refine GA.takeX (s := 87) 17 rfl rfl rfl (by kernel_rfl) (by kernel_rfl) (by kernel_rfl) rfl (fun a w h => h.mem (is := [3, 3, 3, 0, 0, 0]) (js := [2]) rfl rfl) ?_
                           refine GA.takeX (s := 87) 18 rfl rfl rfl (by kernel_rfl) (by kernel_rfl) (by kernel_rfl) rfl (fun a w h => h.mem (is := [3, 3, 3, 0, 0, 0]) (js := [2]) rfl rfl) ?_
                           refine GA.takeX (s := 87) 19 rfl rfl rfl (by kernel_rfl) (by kernel_rfl) (by kernel_rfl) rfl (fun a w h => h.mem (is := [3, 3, 3, 0, 0, 0]) (js := [2]) rfl rfl) ?_
                           refine GA.takeX (s := 87) 20 rfl rfl rfl (by kernel_rfl) (by kernel_rfl) (by kernel_rfl) rfl (fun a w h => h.mem (is := [3, 3, 3, 0, 0, 0]) (js := [2]) rfl rfl) ?_
                           refine GA.takeX (s := 87) 21 rfl rfl rfl (by kernel_rfl) (by kernel_rfl) (by kernel_rfl) rfl (fun a w h => h.mem (is := [3, 3, 3, 0, 0, 0]) (js := [2]) rfl rfl) ?_
                           refine GA.take 22 rfl (by kernel_rfl) (by kernel_rfl) (by kernel_rfl) rfl (fun a w h => h.mem (is := [3, 3, 3, 0, 0, 0]) (js := [2]) rfl rfl) (i_pure (p_pick_false rfl rfl)) ?_
                           refine GA.take 23 rfl (by kernel_rfl) (by kernel_rfl) (by kernel_rfl) rfl (fun a w h => h.mem (is := [3, 3, 3, 0, 0, 0]) (js := [2]) rfl rfl) (i_pure (p_assign rfl)) ?_
                           refine GA.done (by kernel_rfl) (?_ : GC _ _ _ _)
                           refine GC.ret ?_
                           refine fun a w h => Fin.back (rs := [.tmp 4]) (vs := [_]) (is := []) (js := []) rfl ⟨rfl, trivial⟩ rfl rfl ?_ h
                           clear h
                           refine ⟨?_, rfl, rfl⟩; first | rfl | (show Value.bool _ = _; simp))
                    exact GAs.nil
                  exact GAs.nil
                exact GAs.nil
              exact GAs.nil)
         · try simp only [decide_eq_true_eq, decide_eq_false_iff_not, Bool.not_eq_true', Bool.not_eq_false', Bool.not_true, Bool.not_false, Bool.not_not, ne_eq, Decidable.not_not, Int.not_lt, Int.not_le, gt_iff_lt, ge_iff_le, bool_true_eq_, bool_false_eq_] at h10
           first
           | (exfalso; first | omega | (simp at h10; done))
           | (skip
              refine GA.takeX (s := 78) 8 rfl rfl rfl (by kernel_rfl) (by kernel_rfl) (by kernel_rfl) rfl (fun a w h => h.mem (is := [0, 0, 0, 0, 0, 0]) (js := [0]) rfl rfl) ?_
              refine GA.takeX (s := 78) 9 rfl rfl rfl (by kernel_rfl) (by kernel_rfl) (by kernel_rfl) rfl (fun a w h => h.mem (is := [0, 0, 0, 0, 0, 0]) (js := [0]) rfl rfl) ?_
              refine GA.takeX (s := 78) 10 rfl rfl rfl (by kernel_rfl) (by kernel_rfl) (by kernel_rfl) rfl (fun a w h => h.mem (is := [0, 0, 0, 0, 0, 0]) (js := [0]) rfl rfl) ?_
              refine GA.takeX (s := 78) 11 rfl rfl rfl (by kernel_rfl) (by kernel_rfl) (by kernel_rfl) rfl (fun a w h => h.mem (is := [0, 0, 0, 0, 0, 0]) (js := [0]) rfl rfl) ?_
              refine GA.takeX (s := 78) 12 rfl rfl rfl (by kernel_rfl) (by kernel_rfl) (by kernel_rfl) rfl (fun a w h => h.mem (is := [0, 0, 0, 0, 0, 0]) (js := [0]) rfl rfl) ?_
              refine GA.takeX (s := 78) 13 rfl rfl rfl (by kernel_rfl) (by kernel_rfl) (by kernel_rfl) rfl (fun a w h => h.mem (is := [0, 0, 0, 0, 0, 0]) (js := [0]) rfl rfl) ?_
              refine GA.takeX (s := 78) 14 rfl rfl rfl (by kernel_rfl) (by kernel_rfl) (by kernel_rfl) rfl (fun a w h => h.mem (is := [0, 0, 0, 0, 0, 0]) (js := [0]) rfl rfl) ?_
              refine GA.take 15 rfl (by kernel_rfl) (by kernel_rfl) (by kernel_rfl) rfl (fun a w h => h.mem (is := [0, 0, 0, 0, 0, 0]) (js := [0]) rfl rfl) (i_pure (p_pick_false rfl rfl)) ?_
              refine GA.take 16 rfl (by kernel_rfl) (by kernel_rfl) (by kernel_rfl) rfl (fun a w h => h.mem (is := [0, 0, 0, 0, 0, 0]) (js := [0]) rfl rfl) (i_pure (p_move rfl)) ?_
              refine GA.takeX (s := 87) 17 rfl rfl rfl (by kernel_rfl) (by kernel_rfl) (by kernel_rfl) rfl (fun a w h => h.mem (is := [0, 0, 0, 0, 0, 0]) (js := [0]) rfl rfl) ?_
              refine GA.takeX (s := 87) 18 rfl rfl rfl (by kernel_rfl) (by kernel_rfl) (by kernel_rfl) rfl (fun a w h => h.mem (is := [0, 0, 0, 0, 0, 0]) (js := [0]) rfl rfl) ?_
              refine GA.takeX (s := 87) 19 rfl rfl rfl (by kernel_rfl) (by kernel_rfl) (by kernel_rfl) rfl (fun a w h => h.mem (is := [0, 0, 0, 0, 0, 0]) (js := [0]) rfl rfl) ?_
              refine GA.takeX (s := 87) 20 rfl rfl rfl (by kernel_rfl) (by kernel_rfl) (by kernel_rfl) rfl (fun a w h => h.mem (is := [0, 0, 0, 0, 0, 0]) (js := [0]) rfl rfl) ?_
              refine GA.takeX (s := 87) 21 rfl rfl rfl (by kernel_rfl) (by kernel_rfl) (by kernel_rfl) rfl (fun a w h => h.mem (is := [0, 0, 0, 0, 0, 0]) (js := [0]) rfl rfl) ?_
              refine GA.take 22 rfl (by kernel_rfl) (by kernel_rfl) (by kernel_rfl) rfl (fun a w h => h.mem (is := [0, 0, 0, 0, 0, 0]) (js := [0]) rfl rfl) (i_pure (p_pick_false rfl rfl)) ?_
              refine GA.take 23 rfl (by kernel_rfl) (by kernel_rfl) (by kernel_rfl) rfl (fun a w h => h.mem (is := [0, 0, 0, 0, 0, 0]) (js := [0]) rfl rfl) (i_pure (p_assign rfl)) ?_
              refine GA.done (by kernel_rfl) (?_ : GC _ _ _ _)
              refine GC.ret ?_
              refine fun a w h => Fin.back (rs := [.tmp 4]) (vs := [_]) (is := []) (js := []) rfl ⟨rfl, trivial⟩ rfl rfl ?_ h
              clear h
              refine ⟨?_, rfl, rfl⟩; first | rfl | (show Value.bool _ = _; simp))
       exact GAs.nil)
end Go.Proofs.Ytihhpkbbhfcdcaa
