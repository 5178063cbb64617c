/- VOTES: the laws. -/
import Derived.Test.YtmjfkjajedhciaaVx3
set_option linter.unusedVariables false
set_option linter.unusedSimpArgs false
set_option maxRecDepth 100000
namespace Go.Proofs.Ytmjfkjajedhciaa
open Go Go.Sx Go.Proofs
theorem votesSets_ct (A : Option Addr) (ns : List Int) (cp : Nat) (B : Option Addr) (l : List Ack) (cq : Nat) (node num : Int) (hn : ns.length ≤ cp) (hl : l.length ≤ cq) :
    Ct Try.prog 3 [.slice A ns.length cp, .slice B l.length cq, .int .i64 node, .int .i64 num] [] [Pers.row kI A ns, Pers.row kAck B l] (fun u G Q => u = .bool true ∧ G = [] ∧ Q = []) := by
  have q2 : (l.take 60).length ≤ 60 := by simp; omega
  have q4 := ackF_len (l.take 60) node num
  have q1 : (ns.take 60).length ≤ 60 := by simp; omega
  have q3 := addF_len (ns.take 60) node
  by_cases hh : 60 < (ns.length : Int)
  ·
    refine Ct.intro Try.func3 rfl rfl rfl (fun c hc => ?_)
    refine GC.seq' ?_
    refine GC.region ?_
    refine GL.pure rfl (p_assign rfl) ?_
    refine GL.nil (?_ : GC _ _ _ _)
    refine GC.seq' ?_
    refine GC.seq' ?_
    refine GC.region ?_
    refine GL.pure rfl (p_move rfl) ?_
    refine GL.pure rfl (p_len Try.underlying22 rfl) ?_
    refine GL.pure rfl (p_gtr rfl rfl) ?_
    refine GL.nil (?_ : GC _ _ _ _)
    refine GC.cond rfl (fun h1 => ?_) (fun h1 => ?_)
    · try simp only [decide_eq_true_eq, decide_eq_false_iff_not, Bool.not_eq_true', Bool.not_eq_false', Bool.not_true, Bool.not_false, Bool.not_not, ne_eq, Decidable.not_not, Int.not_lt, Int.not_le, gt_iff_lt, ge_iff_le, bool_true_eq_, bool_false_eq_] at h1
      first
      | (exfalso; first | omega | (simp at h1; done))
      | (skip
         refine GC.region ?_
         refine GL.pure rfl (p_move rfl) ?_
         refine GL.step rfl (t_cut_h (j := 0) rfl rfl rfl rfl Try.underlying22 sz_3 (by omega) (by omega) (by omega)) ?_
         refine GL.pure rfl (p_assign rfl) ?_
         refine GL.nil (?_ : GC _ _ _ _)
         refine GC.seq' ?_
         refine GC.region ?_
         have hseg : seg ns 0 60 = ns.take 60 := by simp [seg]
         refine GL.pure rfl (p_move rfl) ?_
         refine GL.step rfl (t_call rfl fn_6 rfl (is := []) (js := [2]) rfl rfl (by exact few_ct _ l _ hl)) (GL.ret ?_)
         rintro _ _ _ ⟨A19, cp19, rfl, rfl, rfl⟩
         refine GL.pure rfl (p_assign rfl) ?_
         refine GL.nil (?_ : GC _ _ _ _)
         refine GC.seq' ?_
         refine GC.region ?_
         refine GL.pure rfl (p_move rfl) ?_
         refine GL.pure rfl (p_move rfl) ?_
         refine GL.step rfl (t_call rfl fn_7 rfl (is := []) (js := [0]) rfl rfl (by exact num_ct _ (l.take 60) _ _ (by omega))) (GL.ret ?_)
         rintro _ _ _ ⟨rfl, rfl, rfl⟩
         refine GL.pure rfl (p_move rfl) ?_
         refine GL.pure rfl (p_extract rfl rfl) ?_
         refine GL.pure rfl (p_extract rfl rfl) ?_
         refine GL.pure rfl (p_assign rfl) ?_
         refine GL.pure rfl (p_assign rfl) ?_
         refine GL.nil (?_ : GC _ _ _ _)
         refine GC.seq' ?_
         refine GC.region ?_
         refine GL.pure rfl (p_move rfl) ?_
         refine GL.pure rfl (p_move rfl) ?_
         refine GL.step rfl (t_call rfl fn_8 rfl (is := []) (js := [0]) rfl rfl (by exact rnum_ct _ (l.take 60) _ _ (by omega))) (GL.ret ?_)
         rintro _ _ _ ⟨rfl, rfl, rfl⟩
         refine GL.pure rfl (p_move rfl) ?_
         refine GL.pure rfl (p_extract rfl rfl) ?_
         refine GL.pure rfl (p_extract rfl rfl) ?_
         refine GL.pure rfl (p_assign rfl) ?_
         refine GL.pure rfl (p_assign rfl) ?_
         refine GL.nil (?_ : GC _ _ _ _)
         refine GC.seq' ?_
         refine GC.region ?_
         refine GL.pure rfl (p_move rfl) ?_
         refine GL.pure rfl (p_move rfl) ?_
         refine GL.step rfl (t_call rfl fn_10 rfl (is := []) (js := [1]) rfl rfl (by exact add_ct _ (seg ns 0 60) _ _ (by rw [hseg]; omega))) (GL.ret ?_)
         rintro _ _ _ ⟨A34, cp34, rfl, rfl, rfl⟩
         refine GL.pure rfl (p_move rfl) ?_
         refine GL.pure rfl (p_move rfl) ?_
         refine GL.step rfl (t_call rfl fn_11 rfl (is := []) (js := [2]) rfl rfl (by exact radd_ct _ (seg ns 0 60) _ _ (by rw [hseg]; omega))) (GL.ret ?_)
         rintro _ _ _ ⟨A37, cp37, rfl, rfl, rfl⟩
         refine GL.step rfl (t_call rfl fn_9 rfl (is := []) (js := [1, 0]) rfl rfl (by exact sameN_ct _ (addF (seg ns 0 60) node) _ _ _ (by rw [hseg]; omega))) (GL.ret ?_)
         rintro _ _ _ ⟨rfl, rfl, rfl⟩
         refine GL.pure rfl (p_move rfl) ?_
         refine GL.pureG (s := 39) rfl rfl rfl (p_move rfl) ?_
         refine GL.pureG (s := 39) rfl rfl rfl (p_move rfl) ?_
         refine GL.pureG (s := 39) rfl rfl rfl (p_move rfl) ?_
         refine GL.stepG rfl (s := 39) rfl rfl (t_call rfl fn_13 rfl (is := []) (js := [2]) rfl rfl (by exact ack_ct _ (l.take 60) _ _ _ (by omega))) (GL.ret ?_)
         rintro _ _ _ ⟨A43, cp43, rfl, rfl, rfl⟩
         refine GL.pureG (s := 39) rfl rfl rfl (p_move rfl) ?_
         refine GL.pureG (s := 39) rfl rfl rfl (p_move rfl) ?_
         refine GL.pureG (s := 39) rfl rfl rfl (p_move rfl) ?_
         refine GL.stepG rfl (s := 39) rfl rfl (t_call rfl fn_14 rfl (is := []) (js := [3]) rfl rfl (by exact rack_ct _ (l.take 60) _ _ _ (by omega))) (GL.ret ?_)
         rintro _ _ _ ⟨A47, cp47, rfl, rfl, rfl⟩
         refine GL.stepG rfl (s := 39) rfl rfl (t_call rfl fn_12 rfl (is := []) (js := [1, 0]) rfl rfl (by exact sameA_ct _ (ackF (l.take 60) node num) _ _ _ (by omega))) (GL.ret ?_)
         rintro _ _ _ ⟨rfl, rfl, rfl⟩
         refine GL.pure rfl (p_pick_true rfl rfl) ?_
         refine GL.pure rfl (p_move rfl) ?_
         refine GL.pureG (s := 50) rfl rfl rfl (p_move rfl) ?_
         refine GL.pureG (s := 50) rfl rfl rfl (p_move rfl) ?_
         refine GL.pureG (s := 50) rfl rfl rfl (p_eql rfl rfl) ?_
         refine GL.pure rfl (p_pick_true rfl rfl) ?_
         refine GL.pure rfl (p_move rfl) ?_
         refine GL.split (i := 55) rfl (fun h2 => ?_) (fun h2 => ?_)
         · try simp only [decide_eq_true_eq, decide_eq_false_iff_not, Bool.not_eq_true', Bool.not_eq_false', Bool.not_true, Bool.not_false, Bool.not_not, ne_eq, Decidable.not_not, Int.not_lt, Int.not_le, gt_iff_lt, ge_iff_le, bool_true_eq_, bool_false_eq_] at h2
           first
           | (exfalso; first | omega | (simp at h2; done))
           | (skip
              refine GL.pureG (s := 55) rfl rfl rfl (p_move rfl) ?_
              refine GL.pureG (s := 55) rfl rfl rfl (p_move rfl) ?_
              refine GL.pureG (s := 55) rfl rfl rfl (p_beql Try.underlying4 rfl rfl) ?_
              refine GL.pure rfl (p_pick_true rfl rfl) ?_
              refine GL.pure rfl (p_move rfl) ?_
              refine GL.split (i := 60) rfl (fun h3 => ?_) (fun h3 => ?_)
              · try simp only [decide_eq_true_eq, decide_eq_false_iff_not, Bool.not_eq_true', Bool.not_eq_false', Bool.not_true, Bool.not_false, Bool.not_not, ne_eq, Decidable.not_not, Int.not_lt, Int.not_le, gt_iff_lt, ge_iff_le, bool_true_eq_, bool_false_eq_] at h3
                first
                | (exfalso; first | omega | (simp at h3; done))
                | (skip
                   refine GL.stepG rfl (s := 60) rfl rfl (t_call rfl fn_15 rfl (is := []) (js := []) rfl rfl (by exact awake_ct)) (GL.ret ?_)
                   rintro _ _ _ ⟨rfl, rfl, rfl⟩
                   refine GL.pure rfl (p_pick_true rfl rfl) ?_
                   refine GL.pure rfl (p_assign rfl) ?_
                   refine GL.nil (?_ : GC _ _ _ _)
                   refine GC.ret ?_
                   refine fun a w h => Fin.back (rs := [.tmp 8]) (vs := [_]) (is := []) (js := []) rfl ⟨rfl, trivial⟩ rfl rfl ?_ h
                   clear h
                   refine ⟨?_, rfl, rfl⟩
                   first | rfl | (show Value.bool _ = _; simp))
              · try simp only [decide_eq_true_eq, decide_eq_false_iff_not, Bool.not_eq_true', Bool.not_eq_false', Bool.not_true, Bool.not_false, Bool.not_not, ne_eq, Decidable.not_not, Int.not_lt, Int.not_le, gt_iff_lt, ge_iff_le, bool_true_eq_, bool_false_eq_] at h3
                first
                | (exfalso; first | omega | (simp at h3; done))
                | (skip
                   refine GL.pass (s := 60) rfl rfl rfl ?_
                   refine GL.pure rfl (p_pick_false rfl rfl) ?_
                   refine GL.pure rfl (p_assign rfl) ?_
                   refine GL.nil (?_ : GC _ _ _ _)
                   refine GC.ret ?_
                   refine fun a w h => Fin.back (rs := [.tmp 8]) (vs := [_]) (is := []) (js := []) rfl ⟨rfl, trivial⟩ rfl rfl ?_ h
                   clear h
                   refine ⟨?_, rfl, rfl⟩
                   first | rfl | (show Value.bool _ = _; simp)))
         · try simp only [decide_eq_true_eq, decide_eq_false_iff_not, Bool.not_eq_true', Bool.not_eq_false', Bool.not_true, Bool.not_false, Bool.not_not, ne_eq, Decidable.not_not, Int.not_lt, Int.not_le, gt_iff_lt, ge_iff_le, bool_true_eq_, bool_false_eq_] at h2
           first
           | (exfalso; first | omega | (simp at h2; done))
           | (skip
              refine GL.pass (s := 55) rfl rfl rfl ?_
              refine GL.pass (s := 55) rfl rfl rfl ?_
              refine GL.pass (s := 55) rfl rfl rfl ?_
              refine GL.pure rfl (p_pick_false rfl rfl) ?_
              refine GL.pure rfl (p_move rfl) ?_
              refine GL.pass (s := 60) rfl rfl rfl ?_
              refine GL.pure rfl (p_pick_false rfl rfl) ?_
              refine GL.pure rfl (p_assign rfl) ?_
              refine GL.nil (?_ : GC _ _ _ _)
              refine GC.ret ?_
              refine fun a w h => Fin.back (rs := [.tmp 8]) (vs := [_]) (is := []) (js := []) rfl ⟨rfl, trivial⟩ rfl rfl ?_ h
              clear h
              refine ⟨?_, rfl, rfl⟩
              first | rfl | (show Value.bool _ = _; simp)))
    · try simp only [decide_eq_true_eq, decide_eq_false_iff_not, Bool.not_eq_true', Bool.not_eq_false', Bool.not_true, Bool.not_false, Bool.not_not, ne_eq, Decidable.not_not, Int.not_lt, Int.not_le, gt_iff_lt, ge_iff_le, bool_true_eq_, bool_false_eq_] at h1
      exact absurd h1 (by omega)
  ·
    refine Ct.intro Try.func3 rfl rfl rfl (fun c hc => ?_)
    refine GC.seq' ?_
    refine GC.region ?_
    refine GL.pure rfl (p_assign rfl) ?_
    refine GL.nil (?_ : GC _ _ _ _)
    refine GC.seq' ?_
    refine GC.seq' ?_
    refine GC.region ?_
    refine GL.pure rfl (p_move rfl) ?_
    refine GL.pure rfl (p_len Try.underlying22 rfl) ?_
    refine GL.pure rfl (p_gtr rfl rfl) ?_
    refine GL.nil (?_ : GC _ _ _ _)
    refine GC.cond rfl (fun h1 => ?_) (fun h1 => ?_)
    · try simp only [decide_eq_true_eq, decide_eq_false_iff_not, Bool.not_eq_true', Bool.not_eq_false', Bool.not_true, Bool.not_false, Bool.not_not, ne_eq, Decidable.not_not, Int.not_lt, Int.not_le, gt_iff_lt, ge_iff_le, bool_true_eq_, bool_false_eq_] at h1
      exact absurd h1 (by omega)
    · try simp only [decide_eq_true_eq, decide_eq_false_iff_not, Bool.not_eq_true', Bool.not_eq_false', Bool.not_true, Bool.not_false, Bool.not_not, ne_eq, Decidable.not_not, Int.not_lt, Int.not_le, gt_iff_lt, ge_iff_le, bool_true_eq_, bool_false_eq_] at h1
      first
      | (exfalso; first | omega | (simp at h1; done))
      | (skip
         refine GC.skip (?_ : GC _ _ _ _)
         refine GC.seq' ?_
         refine GC.region ?_
         refine GL.pure rfl (p_move rfl) ?_
         refine GL.step rfl (t_call rfl fn_6 rfl (is := []) (js := [1]) rfl rfl (by exact few_ct _ l _ hl)) (GL.ret ?_)
         rintro _ _ _ ⟨A19, cp19, rfl, rfl, rfl⟩
         refine GL.pure rfl (p_assign rfl) ?_
         refine GL.nil (?_ : GC _ _ _ _)
         refine GC.seq' ?_
         refine GC.region ?_
         refine GL.pure rfl (p_move rfl) ?_
         refine GL.pure rfl (p_move rfl) ?_
         refine GL.step rfl (t_call rfl fn_7 rfl (is := []) (js := [0]) rfl rfl (by exact num_ct _ (l.take 60) _ _ (by omega))) (GL.ret ?_)
         rintro _ _ _ ⟨rfl, rfl, rfl⟩
         refine GL.pure rfl (p_move rfl) ?_
         refine GL.pure rfl (p_extract rfl rfl) ?_
         refine GL.pure rfl (p_extract rfl rfl) ?_
         refine GL.pure rfl (p_assign rfl) ?_
         refine GL.pure rfl (p_assign rfl) ?_
         refine GL.nil (?_ : GC _ _ _ _)
         refine GC.seq' ?_
         refine GC.region ?_
         refine GL.pure rfl (p_move rfl) ?_
         refine GL.pure rfl (p_move rfl) ?_
         refine GL.step rfl (t_call rfl fn_8 rfl (is := []) (js := [0]) rfl rfl (by exact rnum_ct _ (l.take 60) _ _ (by omega))) (GL.ret ?_)
         rintro _ _ _ ⟨rfl, rfl, rfl⟩
         refine GL.pure rfl (p_move rfl) ?_
         refine GL.pure rfl (p_extract rfl rfl) ?_
         refine GL.pure rfl (p_extract rfl rfl) ?_
         refine GL.pure rfl (p_assign rfl) ?_
         refine GL.pure rfl (p_assign rfl) ?_
         refine GL.nil (?_ : GC _ _ _ _)
         refine GC.seq' ?_
         refine GC.region ?_
         refine GL.pure rfl (p_move rfl) ?_
         refine GL.pure rfl (p_move rfl) ?_
         refine GL.step rfl (t_call rfl fn_10 rfl (is := []) (js := [1]) rfl rfl (by exact add_ct _ ns _ _ (by omega))) (GL.ret ?_)
         rintro _ _ _ ⟨A34, cp34, rfl, rfl, rfl⟩
         refine GL.pure rfl (p_move rfl) ?_
         refine GL.pure rfl (p_move rfl) ?_
         refine GL.step rfl (t_call rfl fn_11 rfl (is := []) (js := [2]) rfl rfl (by exact radd_ct _ ns _ _ (by omega))) (GL.ret ?_)
         rintro _ _ _ ⟨A37, cp37, rfl, rfl, rfl⟩
         refine GL.step rfl (t_call rfl fn_9 rfl (is := []) (js := [1, 0]) rfl rfl (by exact sameN_ct _ (addF ns node) _ _ _ (by have := addF_len ns node; omega))) (GL.ret ?_)
         rintro _ _ _ ⟨rfl, rfl, rfl⟩
         refine GL.pure rfl (p_move rfl) ?_
         refine GL.pureG (s := 39) rfl rfl rfl (p_move rfl) ?_
         refine GL.pureG (s := 39) rfl rfl rfl (p_move rfl) ?_
         refine GL.pureG (s := 39) rfl rfl rfl (p_move rfl) ?_
         refine GL.stepG rfl (s := 39) rfl rfl (t_call rfl fn_13 rfl (is := []) (js := [2]) rfl rfl (by exact ack_ct _ (l.take 60) _ _ _ (by omega))) (GL.ret ?_)
         rintro _ _ _ ⟨A43, cp43, rfl, rfl, rfl⟩
         refine GL.pureG (s := 39) rfl rfl rfl (p_move rfl) ?_
         refine GL.pureG (s := 39) rfl rfl rfl (p_move rfl) ?_
         refine GL.pureG (s := 39) rfl rfl rfl (p_move rfl) ?_
         refine GL.stepG rfl (s := 39) rfl rfl (t_call rfl fn_14 rfl (is := []) (js := [3]) rfl rfl (by exact rack_ct _ (l.take 60) _ _ _ (by omega))) (GL.ret ?_)
         rintro _ _ _ ⟨A47, cp47, rfl, rfl, rfl⟩
         refine GL.stepG rfl (s := 39) rfl rfl (t_call rfl fn_12 rfl (is := []) (js := [1, 0]) rfl rfl (by exact sameA_ct _ (ackF (l.take 60) node num) _ _ _ (by omega))) (GL.ret ?_)
         rintro _ _ _ ⟨rfl, rfl, rfl⟩
         refine GL.pure rfl (p_pick_true rfl rfl) ?_
         refine GL.pure rfl (p_move rfl) ?_
         refine GL.pureG (s := 50) rfl rfl rfl (p_move rfl) ?_
         refine GL.pureG (s := 50) rfl rfl rfl (p_move rfl) ?_
         refine GL.pureG (s := 50) rfl rfl rfl (p_eql rfl rfl) ?_
         refine GL.pure rfl (p_pick_true rfl rfl) ?_
         refine GL.pure rfl (p_move rfl) ?_
         refine GL.split (i := 55) rfl (fun h2 => ?_) (fun h2 => ?_)
         · try simp only [decide_eq_true_eq, decide_eq_false_iff_not, Bool.not_eq_true', Bool.not_eq_false', Bool.not_true, Bool.not_false, Bool.not_not, ne_eq, Decidable.not_not, Int.not_lt, Int.not_le, gt_iff_lt, ge_iff_le, bool_true_eq_, bool_false_eq_] at h2
           first
           | (exfalso; first | omega | (simp at h2; done))
           | (skip
              refine GL.pureG (s := 55) rfl rfl rfl (p_move rfl) ?_
              refine GL.pureG (s := 55) rfl rfl rfl (p_move rfl) ?_
              refine GL.pureG (s := 55) rfl rfl rfl (p_beql Try.underlying4 rfl rfl) ?_
              refine GL.pure rfl (p_pick_true rfl rfl) ?_
              refine GL.pure rfl (p_move rfl) ?_
              refine GL.split (i := 60) rfl (fun h3 => ?_) (fun h3 => ?_)
              · try simp only [decide_eq_true_eq, decide_eq_false_iff_not, Bool.not_eq_true', Bool.not_eq_false', Bool.not_true, Bool.not_false, Bool.not_not, ne_eq, Decidable.not_not, Int.not_lt, Int.not_le, gt_iff_lt, ge_iff_le, bool_true_eq_, bool_false_eq_] at h3
                first
                | (exfalso; first | omega | (simp at h3; done))
                | (skip
                   refine GL.stepG rfl (s := 60) rfl rfl (t_call rfl fn_15 rfl (is := []) (js := []) rfl rfl (by exact awake_ct)) (GL.ret ?_)
                   rintro _ _ _ ⟨rfl, rfl, rfl⟩
                   refine GL.pure rfl (p_pick_true rfl rfl) ?_
                   refine GL.pure rfl (p_assign rfl) ?_
                   refine GL.nil (?_ : GC _ _ _ _)
                   refine GC.ret ?_
                   refine fun a w h => Fin.back (rs := [.tmp 8]) (vs := [_]) (is := []) (js := []) rfl ⟨rfl, trivial⟩ rfl rfl ?_ h
                   clear h
                   refine ⟨?_, rfl, rfl⟩
                   first | rfl | (show Value.bool _ = _; simp))
              · try simp only [decide_eq_true_eq, decide_eq_false_iff_not, Bool.not_eq_true', Bool.not_eq_false', Bool.not_true, Bool.not_false, Bool.not_not, ne_eq, Decidable.not_not, Int.not_lt, Int.not_le, gt_iff_lt, ge_iff_le, bool_true_eq_, bool_false_eq_] at h3
                first
                | (exfalso; first | omega | (simp at h3; done))
                | (skip
                   refine GL.pass (s := 60) rfl rfl rfl ?_
                   refine GL.pure rfl (p_pick_false rfl rfl) ?_
                   refine GL.pure rfl (p_assign rfl) ?_
                   refine GL.nil (?_ : GC _ _ _ _)
                   refine GC.ret ?_
                   refine fun a w h => Fin.back (rs := [.tmp 8]) (vs := [_]) (is := []) (js := []) rfl ⟨rfl, trivial⟩ rfl rfl ?_ h
                   clear h
                   refine ⟨?_, rfl, rfl⟩
                   first | rfl | (show Value.bool _ = _; simp)))
         · try simp only [decide_eq_true_eq, decide_eq_false_iff_not, Bool.not_eq_true', Bool.not_eq_false', Bool.not_true, Bool.not_false, Bool.not_not, ne_eq, Decidable.not_not, Int.not_lt, Int.not_le, gt_iff_lt, ge_iff_le, bool_true_eq_, bool_false_eq_] at h2
           first
           | (exfalso; first | omega | (simp at h2; done))
           | (skip
              refine GL.pass (s := 55) rfl rfl rfl ?_
              refine GL.pass (s := 55) rfl rfl rfl ?_
              refine GL.pass (s := 55) rfl rfl rfl ?_
              refine GL.pure rfl (p_pick_false rfl rfl) ?_
              refine GL.pure rfl (p_move rfl) ?_
              refine GL.pass (s := 60) rfl rfl rfl ?_
              refine GL.pure rfl (p_pick_false rfl rfl) ?_
              refine GL.pure rfl (p_assign rfl) ?_
              refine GL.nil (?_ : GC _ _ _ _)
              refine GC.ret ?_
              refine fun a w h => Fin.back (rs := [.tmp 8]) (vs := [_]) (is := []) (js := []) rfl ⟨rfl, trivial⟩ rfl rfl ?_ h
              clear h
              refine ⟨?_, rfl, rfl⟩
              first | rfl | (show Value.bool _ = _; simp)))
end Go.Proofs.Ytmjfkjajedhciaa
