/- THE TABLE: a full table knows as many clients as there may be, and takes further requests of these alone: the walk of the law. -/
import Derived.Test.YtipjpgjahmadiaaTb2
set_option linter.unusedVariables false
set_option linter.unusedSimpArgs false
set_option maxRecDepth 100000
namespace Go.Proofs.Ytipjpgjahmadiaa
open Go Go.Sx Go.Proofs

theorem tableFull_ct (cl se : Int) : Ct Try.prog 4 [.int .i64 cl, .int .i64 se] [] [] (fun v G Q => v = .bool true ∧ G = [] ∧ Q = []) := by
  refine Ct.intro Try.func4 rfl rfl rfl (fun c hc => ?_)
  refine GC.seq' ?_
  refine GC.region ?_
  refine GL.pure rfl (p_assign rfl) ?_
  refine GL.nil (?_ : GC _ _ _ _)
  refine GC.seq' ?_
  refine GC.seq' ?_
  refine GC.region ?_
  refine GL.step rfl (t_call rfl fn_8 rfl (is := []) (js := []) rfl rfl (by exact awake_ct)) (GL.ret ?_)
  rintro _ _ _ ⟨rfl, rfl, rfl⟩
  refine GL.pure rfl (p_not rfl) ?_
  refine GL.nil (?_ : GC _ _ _ _)
  refine GC.cond_false rfl ?_
  refine GC.skip (?_ : GC _ _ _ _)
  refine GC.seq' ?_
  refine GC.region ?_
  refine GL.step rfl (t_call rfl fn_9 rfl (is := []) (js := []) rfl rfl (by exact tnew_ct)) (GL.ret ?_)
  rintro _ _ _ ⟨p13, m13, rfl, rfl, rfl⟩
  refine GL.pure rfl (p_assign rfl) ?_
  refine GL.nil (?_ : GC _ _ _ _)
  refine GC.seq' ?_
  refine GC.seq' ?_
  refine GC.region ?_
  refine GL.pure rfl (p_assign rfl) ?_
  refine GL.nil (?_ : GC _ _ _ _)
  refine GC.block ?_
  refine GC.imp (fun a w h => (⟨by simp, h.cut (is := [0, 0]) (js := [0]) ⟨rfl, rfl, rfl, rfl, trivial⟩ rfl rfl⟩ : (fun (y : Nat × Array MapEntry × Nat) (a : Act) (w : World) => y.1 ≤ 64 ∧ St c 89 [(0, .int .i64 cl), (1, .int .i64 se), (5, .pointer (some ⟨p13, 0, none⟩)), (6, .int .i64 ((y.1 : Int) + 1))] [.cells p13 [.map (some m13)] 43, .blk m13 (.map y.2.1 y.2.2)] [Pers.map kLast true (fullT y.1) y.2.1] a w) (0, _, _) a w)) (GC.loop (fun (y : Nat × Array MapEntry × Nat) (a : Act) (w : World) => y.1 ≤ 64 ∧ St c 89 [(0, .int .i64 cl), (1, .int .i64 se), (5, .pointer (some ⟨p13, 0, none⟩)), (6, .int .i64 ((y.1 : Int) + 1))] [.cells p13 [.map (some m13)] 43, .blk m13 (.map y.2.1 y.2.2)] [Pers.map kLast true (fullT y.1) y.2.1] a w) (fun y => 65 - y.1) (0, _, _) ?_)
  intro y
  refine GC.and fun hk => ?_
  obtain ⟨k, es, ck⟩ := y
  simp only at hk
  refine GC.seq' ?_
  refine GC.seq' ?_
  refine GC.region ?_
  refine GL.pure rfl (p_move rfl) ?_
  refine GL.pure rfl (p_leq rfl rfl) ?_
  refine GL.nil (?_ : GC _ _ _ _)
  refine GC.cond rfl (fun h1 => ?_) (fun h1 => ?_)
  · try simp only [decide_eq_true_eq, decide_eq_false_iff_not, Bool.not_eq_true', Bool.not_eq_false', Bool.not_true, Bool.not_false, Bool.not_not, ne_eq, Decidable.not_not, Int.not_lt, Int.not_le, gt_iff_lt, ge_iff_le, bool_true_eq_, bool_false_eq_] at h1
    first
    | (exfalso; first | omega | (simp at h1; omega))
    | (skip
       refine GC.skip (?_ : GC _ _ _ _)
       refine GC.seq' ?_
       refine GC.block ?_
       refine GC.seq' ?_
       refine GC.region ?_
       refine GL.pure rfl (p_move rfl) ?_
       refine GL.pure rfl (p_move rfl) ?_
       refine GL.pure rfl (p_mul rfl rfl (w64 (by omega) (by omega))) ?_
       refine GL.pure rfl (p_build ze_29 of_29 rfl rfl) ?_
       refine GL.know (q := Pers.row Kd.u8 none []) (fun _ _ _ => .inl rfl) ?_
       refine GL.step rfl (t_call rfl fn_10 rfl (is := [0, 0]) (js := [1, 0]) rfl rfl (by exact put_eq _ _ _ _ _ _ _ (⟨1, []⟩ : Res) none 0 (fullT_ok k) 0 (fullT (k + 1)) (full_put k (by omega)))) (GL.ret ?_)
       rintro _ _ _ ⟨es22, ck22, rfl, rfl, rfl⟩
       refine GL.pure rfl (p_neq rfl rfl) ?_
       refine GL.nil (?_ : GC _ _ _ _)
       refine GC.cond_false rfl ?_
       refine GC.skip (?_ : GC _ _ _ _)
       refine GC.region ?_
       refine GL.pure rfl (p_move rfl) ?_
       refine GL.pure rfl (p_add rfl rfl (w64 (by omega) (by omega))) ?_
       refine GL.pure rfl (p_assign rfl) ?_
       refine GL.nil ?_
       exact fun a w h => ⟨(k + 1, es22, ck22), (by simp only; omega), (by simp only; omega), h.cut (is := [0, 0]) (js := [0]) ⟨rfl, rfl, rfl, rfl, trivial⟩ rfl rfl⟩)
  · try simp only [decide_eq_true_eq, decide_eq_false_iff_not, Bool.not_eq_true', Bool.not_eq_false', Bool.not_true, Bool.not_false, Bool.not_not, ne_eq, Decidable.not_not, Int.not_lt, Int.not_le, gt_iff_lt, ge_iff_le, bool_true_eq_, bool_false_eq_] at h1
    first
    | (exfalso; first | omega | (simp at h1; omega))
    | (skip
       refine GC.exit (?_ : GC _ _ _ _)
       refine GC.seq' ?_
       refine GC.region ?_
       refine GL.pure rfl (p_move rfl) ?_
       refine GL.pure rfl (p_move rfl) ?_
       refine GL.pure rfl (p_move rfl) ?_
       obtain rfl : k = 64 := by omega
       refine GL.know (q := Pers.row Kd.u8 none []) (fun _ _ _ => .inl rfl) ?_
       rcases full_cases cl se with hk | ⟨hk, hd⟩ | ⟨hk, hd, he⟩ | ⟨hk, hd, he⟩ | ⟨hk, hd, he⟩
       · skip
         refine GL.step rfl (t_call rfl fn_11 rfl (is := [0, 0]) (js := [1]) rfl rfl (by exact ask_eq _ _ _ _ (fullT 64) _ _ (fullT_ok 64) 0 rz 5 (full_bad hk))) (GL.ret ?_)
         rintro _ _ _ ⟨A28, cp28, l28, m28, rfl, rfl, rfl⟩
         refine GL.pure rfl (p_move rfl) ?_
         refine GL.pure rfl (p_extract rfl rfl) ?_
         refine GL.pure rfl (p_extract rfl rfl) ?_
         refine GL.pure rfl (p_extract rfl rfl) ?_
         refine GL.step rfl (t_alloc rfl ze_29) (GL.ex fun b_t8 => ?_)
         refine GL.pure rfl (p_assign rfl) ?_
         refine GL.step rfl (t_storeN (i := 0) rfl rfl rfl sz_29 rfl rfl rfl) ?_
         refine GL.pure rfl (p_assign rfl) ?_
         refine GL.nil (?_ : GC _ _ _ _)
         refine GC.seq' ?_
         refine GC.region ?_
         refine GL.pure rfl (p_move rfl) ?_
         refine GL.pure rfl (p_move rfl) ?_
         refine GL.pure rfl (p_move rfl) ?_
         refine GL.pure rfl (p_build ze_29 of_29 rfl rfl) ?_
         refine GL.step rfl (t_call rfl fn_10 rfl (is := [1, 1]) (js := [2, 1]) rfl rfl (by exact put_eq _ _ _ _ (fullT 64) _ _ (⟨2, []⟩ : Res) none 0 (fullT_ok 64) 5 (fullT 64) (full_put_bad hk))) (GL.ret ?_)
         rintro _ _ _ ⟨es36, ck36, rfl, rfl, rfl⟩
         refine GL.pure rfl (p_assign rfl) ?_
         refine GL.nil (?_ : GC _ _ _ _)
         refine GC.seq' ?_
         refine GC.seq' ?_
         refine GC.region ?_
         refine GL.pure rfl (p_move rfl) ?_
         refine GL.pure rfl (p_lss rfl rfl) ?_
         refine GL.pure rfl (p_move rfl) ?_
         refine GL.split (i := 39) rfl (fun h2 => ?_) (fun h2 => ?_)
         · try simp only [decide_eq_true_eq, decide_eq_false_iff_not, Bool.not_eq_true', Bool.not_eq_false', Bool.not_true, Bool.not_false, Bool.not_not, ne_eq, Decidable.not_not, Int.not_lt, Int.not_le, gt_iff_lt, ge_iff_le, bool_true_eq_, bool_false_eq_] at h2
           first
           | (exfalso; first | omega | (simp at h2; omega))
           | (skip
              refine GL.pass (s := 39) rfl rfl rfl ?_
              refine GL.pass (s := 39) rfl rfl rfl ?_
              refine GL.pure rfl (p_pick_true rfl rfl) ?_
              refine GL.pure rfl (p_move rfl) ?_
              refine GL.pass (s := 43) rfl rfl rfl ?_
              refine GL.pass (s := 43) rfl rfl rfl ?_
              refine GL.pure rfl (p_pick_true rfl rfl) ?_
              refine GL.pure rfl (p_move rfl) ?_
              refine GL.pass (s := 47) rfl rfl rfl ?_
              refine GL.pass (s := 47) rfl rfl rfl ?_
              refine GL.pure rfl (p_pick_true rfl rfl) ?_
              refine GL.nil (?_ : GC _ _ _ _)
              refine GC.cond_true rfl ?_
              refine GC.seq' ?_
              refine GC.region ?_
              refine GL.pure rfl (p_move rfl) ?_
              refine GL.pure rfl (p_eql rfl rfl) ?_
              refine GL.pure rfl (p_move rfl) ?_
              refine GL.pureG (s := 53) rfl rfl rfl (p_move rfl) ?_
              refine GL.pureG (s := 53) rfl rfl rfl (p_eql rfl rfl) ?_
              refine GL.pure rfl (p_pick_true rfl rfl) ?_
              refine GL.pure rfl (p_assign rfl) ?_
              refine GL.nil (?_ : GC _ _ _ _)
              refine GC.ret ?_
              refine fun a w h => Fin.back (rs := [.tmp 4]) (vs := [_]) (is := []) (js := []) rfl ⟨rfl, trivial⟩ rfl rfl ?_ h
              clear h
              exact ⟨rfl, rfl, rfl⟩)
         · try simp only [decide_eq_true_eq, decide_eq_false_iff_not, Bool.not_eq_true', Bool.not_eq_false', Bool.not_true, Bool.not_false, Bool.not_not, ne_eq, Decidable.not_not, Int.not_lt, Int.not_le, gt_iff_lt, ge_iff_le, bool_true_eq_, bool_false_eq_] at h2
           first
           | (exfalso; first | omega | (simp at h2; omega))
           | (skip
              refine GL.pureG (s := 39) rfl rfl rfl (p_move rfl) ?_
              refine GL.pureG (s := 39) rfl rfl rfl (p_lss rfl rfl) ?_
              refine GL.pure rfl (p_pick_false rfl rfl) ?_
              refine GL.pure rfl (p_move rfl) ?_
              refine GL.split (i := 43) rfl (fun h3 => ?_) (fun h3 => ?_)
              · try simp only [decide_eq_true_eq, decide_eq_false_iff_not, Bool.not_eq_true', Bool.not_eq_false', Bool.not_true, Bool.not_false, Bool.not_not, ne_eq, Decidable.not_not, Int.not_lt, Int.not_le, gt_iff_lt, ge_iff_le, bool_true_eq_, bool_false_eq_] at h3
                first
                | (exfalso; first | omega | (simp at h3; omega))
                | (skip
                   refine GL.pass (s := 43) rfl rfl rfl ?_
                   refine GL.pass (s := 43) rfl rfl rfl ?_
                   refine GL.pure rfl (p_pick_true rfl rfl) ?_
                   refine GL.pure rfl (p_move rfl) ?_
                   refine GL.pass (s := 47) rfl rfl rfl ?_
                   refine GL.pass (s := 47) rfl rfl rfl ?_
                   refine GL.pure rfl (p_pick_true rfl rfl) ?_
                   refine GL.nil (?_ : GC _ _ _ _)
                   refine GC.cond_true rfl ?_
                   refine GC.seq' ?_
                   refine GC.region ?_
                   refine GL.pure rfl (p_move rfl) ?_
                   refine GL.pure rfl (p_eql rfl rfl) ?_
                   refine GL.pure rfl (p_move rfl) ?_
                   refine GL.pureG (s := 53) rfl rfl rfl (p_move rfl) ?_
                   refine GL.pureG (s := 53) rfl rfl rfl (p_eql rfl rfl) ?_
                   refine GL.pure rfl (p_pick_true rfl rfl) ?_
                   refine GL.pure rfl (p_assign rfl) ?_
                   refine GL.nil (?_ : GC _ _ _ _)
                   refine GC.ret ?_
                   refine fun a w h => Fin.back (rs := [.tmp 4]) (vs := [_]) (is := []) (js := []) rfl ⟨rfl, trivial⟩ rfl rfl ?_ h
                   clear h
                   exact ⟨rfl, rfl, rfl⟩)
              · try simp only [decide_eq_true_eq, decide_eq_false_iff_not, Bool.not_eq_true', Bool.not_eq_false', Bool.not_true, Bool.not_false, Bool.not_not, ne_eq, Decidable.not_not, Int.not_lt, Int.not_le, gt_iff_lt, ge_iff_le, bool_true_eq_, bool_false_eq_] at h3
                first
                | (exfalso; first | omega | (simp at h3; omega))
                | (skip
                   refine GL.pureG (s := 43) rfl rfl rfl (p_move rfl) ?_
                   refine GL.pureG (s := 43) rfl rfl rfl (p_gtr rfl rfl) ?_
                   refine GL.pure rfl (p_pick_false rfl rfl) ?_
                   refine GL.pure rfl (p_move rfl) ?_
                   refine GL.split (i := 47) rfl (fun h4 => ?_) (fun h4 => ?_)
                   · try simp only [decide_eq_true_eq, decide_eq_false_iff_not, Bool.not_eq_true', Bool.not_eq_false', Bool.not_true, Bool.not_false, Bool.not_not, ne_eq, Decidable.not_not, Int.not_lt, Int.not_le, gt_iff_lt, ge_iff_le, bool_true_eq_, bool_false_eq_] at h4
                     first
                     | (exfalso; first | omega | (simp at h4; omega))
                     | (skip
                        refine GL.pass (s := 47) rfl rfl rfl ?_
                        refine GL.pass (s := 47) rfl rfl rfl ?_
                        refine GL.pure rfl (p_pick_true rfl rfl) ?_
                        refine GL.nil (?_ : GC _ _ _ _)
                        refine GC.cond_true rfl ?_
                        refine GC.seq' ?_
                        refine GC.region ?_
                        refine GL.pure rfl (p_move rfl) ?_
                        refine GL.pure rfl (p_eql rfl rfl) ?_
                        refine GL.pure rfl (p_move rfl) ?_
                        refine GL.pureG (s := 53) rfl rfl rfl (p_move rfl) ?_
                        refine GL.pureG (s := 53) rfl rfl rfl (p_eql rfl rfl) ?_
                        refine GL.pure rfl (p_pick_true rfl rfl) ?_
                        refine GL.pure rfl (p_assign rfl) ?_
                        refine GL.nil (?_ : GC _ _ _ _)
                        refine GC.ret ?_
                        refine fun a w h => Fin.back (rs := [.tmp 4]) (vs := [_]) (is := []) (js := []) rfl ⟨rfl, trivial⟩ rfl rfl ?_ h
                        clear h
                        exact ⟨rfl, rfl, rfl⟩)
                   · try simp only [decide_eq_true_eq, decide_eq_false_iff_not, Bool.not_eq_true', Bool.not_eq_false', Bool.not_true, Bool.not_false, Bool.not_not, ne_eq, Decidable.not_not, Int.not_lt, Int.not_le, gt_iff_lt, ge_iff_le, bool_true_eq_, bool_false_eq_] at h4
                     first
                     | (exfalso; first | omega | (simp at h4; omega))
                     | (skip
                        refine GL.pureG (s := 47) rfl rfl rfl (p_move rfl) ?_
                        refine GL.pureG (s := 47) rfl rfl rfl (p_gtr rfl rfl) ?_
                        refine GL.pure rfl (p_pick_false rfl rfl) ?_
                        refine GL.nil (?_ : GC _ _ _ _)
                        refine GC.cond rfl (fun h5 => ?_) (fun h5 => ?_)
                        · try simp only [decide_eq_true_eq, decide_eq_false_iff_not, Bool.not_eq_true', Bool.not_eq_false', Bool.not_true, Bool.not_false, Bool.not_not, ne_eq, Decidable.not_not, Int.not_lt, Int.not_le, gt_iff_lt, ge_iff_le, bool_true_eq_, bool_false_eq_] at h5
                          first
                          | (exfalso; first | omega | (simp at h5; omega))
                          | (skip
                             refine GC.seq' ?_
                             refine GC.region ?_
                             refine GL.pure rfl (p_move rfl) ?_
                             refine GL.pure rfl (p_eql rfl rfl) ?_
                             refine GL.pure rfl (p_move rfl) ?_
                             refine GL.pureG (s := 53) rfl rfl rfl (p_move rfl) ?_
                             refine GL.pureG (s := 53) rfl rfl rfl (p_eql rfl rfl) ?_
                             refine GL.pure rfl (p_pick_true rfl rfl) ?_
                             refine GL.pure rfl (p_assign rfl) ?_
                             refine GL.nil (?_ : GC _ _ _ _)
                             refine GC.ret ?_
                             refine fun a w h => Fin.back (rs := [.tmp 4]) (vs := [_]) (is := []) (js := []) rfl ⟨rfl, trivial⟩ rfl rfl ?_ h
                             clear h
                             exact ⟨rfl, rfl, rfl⟩)
                        · try simp only [decide_eq_true_eq, decide_eq_false_iff_not, Bool.not_eq_true', Bool.not_eq_false', Bool.not_true, Bool.not_false, Bool.not_not, ne_eq, Decidable.not_not, Int.not_lt, Int.not_le, gt_iff_lt, ge_iff_le, bool_true_eq_, bool_false_eq_] at h5
                          first
                          | (exfalso; first | omega | (simp at h5; omega))
                          | (skip
                             refine GC.skip (?_ : GC _ _ _ _)
                             refine GC.seq' ?_
                             refine GC.seq' ?_
                             refine GC.region ?_
                             refine GL.pure rfl (p_move rfl) ?_
                             refine GL.pure rfl (p_rem rfl rfl (by omega) (Int.tmod_eq_emod_of_nonneg (by omega))) ?_
                             refine GL.pure rfl (p_eql rfl rfl) ?_
                             refine GL.pure rfl (p_move rfl) ?_
                             refine GL.split (i := 60) rfl (fun h6 => ?_) (fun h6 => ?_)
                             · try simp only [decide_eq_true_eq, decide_eq_false_iff_not, Bool.not_eq_true', Bool.not_eq_false', Bool.not_true, Bool.not_false, Bool.not_not, ne_eq, Decidable.not_not, Int.not_lt, Int.not_le, gt_iff_lt, ge_iff_le, bool_true_eq_, bool_false_eq_] at h6
                               first
                               | (exfalso; first | omega | (simp at h6; omega))
                               | (skip
                                  refine GL.pass (s := 60) rfl rfl rfl ?_
                                  refine GL.pass (s := 60) rfl rfl rfl ?_
                                  refine GL.pure rfl (p_pick_true rfl rfl) ?_
                                  refine GL.nil (?_ : GC _ _ _ _)
                                  refine GC.cond_true rfl ?_
                                  refine GC.seq' ?_
                                  refine GC.region ?_
                                  refine GL.pure rfl (p_move rfl) ?_
                                  refine GL.pure rfl (p_eql rfl rfl) ?_
                                  refine GL.pure rfl (p_move rfl) ?_
                                  refine GL.pass (s := 66) rfl rfl rfl ?_
                                  refine GL.pass (s := 66) rfl rfl rfl ?_
                                  refine GL.pure rfl (p_pick_false rfl rfl) ?_
                                  refine GL.pure rfl (p_move rfl) ?_
                                  refine GL.pass (s := 70) rfl rfl rfl ?_
                                  refine GL.pass (s := 70) rfl rfl rfl ?_
                                  refine GL.pass (s := 70) rfl rfl rfl ?_
                                  refine GL.pure rfl (p_pick_false rfl rfl) ?_
                                  refine GL.pure rfl (p_assign rfl) ?_
                                  refine GL.nil (?_ : GC _ _ _ _)
                                  refine GC.ret ?_
                                  refine fun a w h => Fin.back (rs := [.tmp 4]) (vs := [_]) (is := []) (js := []) rfl ⟨rfl, trivial⟩ rfl rfl ?_ h
                                  clear h
                                  exact ⟨rfl, rfl, rfl⟩)
                             · try simp only [decide_eq_true_eq, decide_eq_false_iff_not, Bool.not_eq_true', Bool.not_eq_false', Bool.not_true, Bool.not_false, Bool.not_not, ne_eq, Decidable.not_not, Int.not_lt, Int.not_le, gt_iff_lt, ge_iff_le, bool_true_eq_, bool_false_eq_] at h6
                               first
                               | (exfalso; first | omega | (simp at h6; omega))
                               | (skip
                                  refine GL.pureG (s := 60) rfl rfl rfl (p_move rfl) ?_
                                  refine GL.pureG (s := 60) rfl rfl rfl (p_gtr rfl rfl) ?_
                                  refine GL.pure rfl (p_pick_false rfl rfl) ?_
                                  refine GL.nil (?_ : GC _ _ _ _)
                                  refine GC.cond rfl (fun h7 => ?_) (fun h7 => ?_)
                                  · try simp only [decide_eq_true_eq, decide_eq_false_iff_not, Bool.not_eq_true', Bool.not_eq_false', Bool.not_true, Bool.not_false, Bool.not_not, ne_eq, Decidable.not_not, Int.not_lt, Int.not_le, gt_iff_lt, ge_iff_le, bool_true_eq_, bool_false_eq_] at h7
                                    first
                                    | (exfalso; first | omega | (simp at h7; omega))
                                    | (skip
                                       refine GC.seq' ?_
                                       refine GC.region ?_
                                       refine GL.pure rfl (p_move rfl) ?_
                                       refine GL.pure rfl (p_eql rfl rfl) ?_
                                       refine GL.pure rfl (p_move rfl) ?_
                                       refine GL.pass (s := 66) rfl rfl rfl ?_
                                       refine GL.pass (s := 66) rfl rfl rfl ?_
                                       refine GL.pure rfl (p_pick_false rfl rfl) ?_
                                       refine GL.pure rfl (p_move rfl) ?_
                                       refine GL.pass (s := 70) rfl rfl rfl ?_
                                       refine GL.pass (s := 70) rfl rfl rfl ?_
                                       refine GL.pass (s := 70) rfl rfl rfl ?_
                                       refine GL.pure rfl (p_pick_false rfl rfl) ?_
                                       refine GL.pure rfl (p_assign rfl) ?_
                                       refine GL.nil (?_ : GC _ _ _ _)
                                       refine GC.ret ?_
                                       refine fun a w h => Fin.back (rs := [.tmp 4]) (vs := [_]) (is := []) (js := []) rfl ⟨rfl, trivial⟩ rfl rfl ?_ h
                                       clear h
                                       exact ⟨rfl, rfl, rfl⟩)
                                  · try simp only [decide_eq_true_eq, decide_eq_false_iff_not, Bool.not_eq_true', Bool.not_eq_false', Bool.not_true, Bool.not_false, Bool.not_not, ne_eq, Decidable.not_not, Int.not_lt, Int.not_le, gt_iff_lt, ge_iff_le, bool_true_eq_, bool_false_eq_] at h7
                                    first
                                    | (exfalso; first | omega | (simp at h7; omega))
                                    | (skip
                                       refine GC.skip (?_ : GC _ _ _ _)
                                       refine GC.seq' ?_
                                       refine GC.region ?_
                                       refine GL.pure rfl (p_move rfl) ?_
                                       refine GL.pure rfl (p_neq rfl rfl) ?_
                                       refine GL.pure rfl (p_move rfl) ?_
                                       refine GL.pureG (s := 77) rfl rfl rfl (p_move rfl) ?_
                                       refine GL.pureG (s := 77) rfl rfl rfl (p_eql rfl rfl) ?_
                                       refine GL.pureG (s := 77) rfl rfl rfl (p_move rfl) ?_
                                       refine GL.pureG (s := 77) rfl rfl rfl (p_gtr rfl rfl) ?_
                                       refine GL.pureG (s := 77) rfl rfl rfl (p_beql Try.underlying4 rfl rfl) ?_
                                       refine GL.pure rfl (p_pick_true rfl rfl) ?_
                                       refine GL.pure rfl (p_move rfl) ?_
                                       refine GL.split (i := 84) rfl (fun h8 => ?_) (fun h8 => ?_)
                                       · try simp only [decide_eq_true_eq, decide_eq_false_iff_not, Bool.not_eq_true', Bool.not_eq_false', Bool.not_true, Bool.not_false, Bool.not_not, ne_eq, Decidable.not_not, Int.not_lt, Int.not_le, gt_iff_lt, ge_iff_le, bool_true_eq_, bool_false_eq_] at h8
                                         first
                                         | (exfalso; first | omega | (simp at h8; omega))
                                         | (skip
                                            refine GL.pureG (s := 84) rfl rfl rfl (p_move rfl) ?_
                                            refine GL.stepG rfl (s := 84) rfl rfl (t_call rfl fn_13 rfl (is := [0, 0]) (js := [0]) rfl rfl (by exact len_eq _ _ _ _ _ 64 (fullT_len64))) (GL.ret ?_)
                                            rintro _ _ _ ⟨rfl, rfl, rfl⟩
                                            refine GL.pureG (s := 84) rfl rfl rfl (p_eql rfl rfl) ?_
                                            refine GL.pure rfl (p_pick_true rfl rfl) ?_
                                            refine GL.pure rfl (p_assign rfl) ?_
                                            refine GL.nil (?_ : GC _ _ _ _)
                                            refine GC.ret ?_
                                            refine fun a w h => Fin.back (rs := [.tmp 4]) (vs := [_]) (is := []) (js := []) rfl ⟨rfl, trivial⟩ rfl rfl ?_ h
                                            clear h
                                            exact ⟨rfl, rfl, rfl⟩)
                                       · try simp only [decide_eq_true_eq, decide_eq_false_iff_not, Bool.not_eq_true', Bool.not_eq_false', Bool.not_true, Bool.not_false, Bool.not_not, ne_eq, Decidable.not_not, Int.not_lt, Int.not_le, gt_iff_lt, ge_iff_le, bool_true_eq_, bool_false_eq_] at h8
                                         first
                                         | (exfalso; first | omega | (simp at h8; omega))
                                         | (skip
                                            refine GL.pass (s := 84) rfl rfl rfl ?_
                                            refine GL.pass (s := 84) rfl rfl rfl ?_
                                            refine GL.pass (s := 84) rfl rfl rfl ?_
                                            refine GL.pure rfl (p_pick_false rfl rfl) ?_
                                            refine GL.pure rfl (p_assign rfl) ?_
                                            refine GL.nil (?_ : GC _ _ _ _)
                                            refine GC.ret ?_
                                            refine fun a w h => Fin.back (rs := [.tmp 4]) (vs := [_]) (is := []) (js := []) rfl ⟨rfl, trivial⟩ rfl rfl ?_ h
                                            clear h
                                            exact ⟨rfl, rfl, rfl⟩)))))))
       · skip
         refine GL.step rfl (t_call rfl fn_11 rfl (is := [0, 0]) (js := [1]) rfl rfl (by exact ask_eq _ _ _ _ (fullT 64) _ _ (fullT_ok 64) 4 rz 0 (full_none hk hd))) (GL.ret ?_)
         rintro _ _ _ ⟨A28, cp28, l28, m28, rfl, rfl, rfl⟩
         refine GL.pure rfl (p_move rfl) ?_
         refine GL.pure rfl (p_extract rfl rfl) ?_
         refine GL.pure rfl (p_extract rfl rfl) ?_
         refine GL.pure rfl (p_extract rfl rfl) ?_
         refine GL.step rfl (t_alloc rfl ze_29) (GL.ex fun b_t8 => ?_)
         refine GL.pure rfl (p_assign rfl) ?_
         refine GL.step rfl (t_storeN (i := 0) rfl rfl rfl sz_29 rfl rfl rfl) ?_
         refine GL.pure rfl (p_assign rfl) ?_
         refine GL.nil (?_ : GC _ _ _ _)
         refine GC.seq' ?_
         refine GC.region ?_
         refine GL.pure rfl (p_move rfl) ?_
         refine GL.pure rfl (p_move rfl) ?_
         refine GL.pure rfl (p_move rfl) ?_
         refine GL.pure rfl (p_build ze_29 of_29 rfl rfl) ?_
         refine GL.step rfl (t_call rfl fn_10 rfl (is := [1, 1]) (js := [2, 1]) rfl rfl (by exact put_eq _ _ _ _ (fullT 64) _ _ (⟨2, []⟩ : Res) none 0 (fullT_ok 64) 3 (fullT 64) (full_put_none hk hd))) (GL.ret ?_)
         rintro _ _ _ ⟨es36, ck36, rfl, rfl, rfl⟩
         refine GL.pure rfl (p_assign rfl) ?_
         refine GL.nil (?_ : GC _ _ _ _)
         refine GC.seq' ?_
         refine GC.seq' ?_
         refine GC.region ?_
         refine GL.pure rfl (p_move rfl) ?_
         refine GL.pure rfl (p_lss rfl rfl) ?_
         refine GL.pure rfl (p_move rfl) ?_
         refine GL.split (i := 39) rfl (fun h9 => ?_) (fun h9 => ?_)
         · try simp only [decide_eq_true_eq, decide_eq_false_iff_not, Bool.not_eq_true', Bool.not_eq_false', Bool.not_true, Bool.not_false, Bool.not_not, ne_eq, Decidable.not_not, Int.not_lt, Int.not_le, gt_iff_lt, ge_iff_le, bool_true_eq_, bool_false_eq_] at h9
           first
           | (exfalso; first | omega | (simp at h9; omega))
           | (skip
              refine GL.pass (s := 39) rfl rfl rfl ?_
              refine GL.pass (s := 39) rfl rfl rfl ?_
              refine GL.pure rfl (p_pick_true rfl rfl) ?_
              refine GL.pure rfl (p_move rfl) ?_
              refine GL.pass (s := 43) rfl rfl rfl ?_
              refine GL.pass (s := 43) rfl rfl rfl ?_
              refine GL.pure rfl (p_pick_true rfl rfl) ?_
              refine GL.pure rfl (p_move rfl) ?_
              refine GL.pass (s := 47) rfl rfl rfl ?_
              refine GL.pass (s := 47) rfl rfl rfl ?_
              refine GL.pure rfl (p_pick_true rfl rfl) ?_
              refine GL.nil (?_ : GC _ _ _ _)
              refine GC.cond_true rfl ?_
              refine GC.seq' ?_
              refine GC.region ?_
              refine GL.pure rfl (p_move rfl) ?_
              refine GL.pure rfl (p_eql rfl rfl) ?_
              refine GL.pure rfl (p_move rfl) ?_
              refine GL.pass (s := 53) rfl rfl rfl ?_
              refine GL.pass (s := 53) rfl rfl rfl ?_
              refine GL.pure rfl (p_pick_false rfl rfl) ?_
              refine GL.pure rfl (p_assign rfl) ?_
              refine GL.nil (?_ : GC _ _ _ _)
              refine GC.ret ?_
              refine fun a w h => Fin.back (rs := [.tmp 4]) (vs := [_]) (is := []) (js := []) rfl ⟨rfl, trivial⟩ rfl rfl ?_ h
              clear h
              exact ⟨rfl, rfl, rfl⟩)
         · try simp only [decide_eq_true_eq, decide_eq_false_iff_not, Bool.not_eq_true', Bool.not_eq_false', Bool.not_true, Bool.not_false, Bool.not_not, ne_eq, Decidable.not_not, Int.not_lt, Int.not_le, gt_iff_lt, ge_iff_le, bool_true_eq_, bool_false_eq_] at h9
           first
           | (exfalso; first | omega | (simp at h9; omega))
           | (skip
              refine GL.pureG (s := 39) rfl rfl rfl (p_move rfl) ?_
              refine GL.pureG (s := 39) rfl rfl rfl (p_lss rfl rfl) ?_
              refine GL.pure rfl (p_pick_false rfl rfl) ?_
              refine GL.pure rfl (p_move rfl) ?_
              refine GL.split (i := 43) rfl (fun h10 => ?_) (fun h10 => ?_)
              · try simp only [decide_eq_true_eq, decide_eq_false_iff_not, Bool.not_eq_true', Bool.not_eq_false', Bool.not_true, Bool.not_false, Bool.not_not, ne_eq, Decidable.not_not, Int.not_lt, Int.not_le, gt_iff_lt, ge_iff_le, bool_true_eq_, bool_false_eq_] at h10
                first
                | (exfalso; first | omega | (simp at h10; omega))
                | (skip
                   refine GL.pass (s := 43) rfl rfl rfl ?_
                   refine GL.pass (s := 43) rfl rfl rfl ?_
                   refine GL.pure rfl (p_pick_true rfl rfl) ?_
                   refine GL.pure rfl (p_move rfl) ?_
                   refine GL.pass (s := 47) rfl rfl rfl ?_
                   refine GL.pass (s := 47) rfl rfl rfl ?_
                   refine GL.pure rfl (p_pick_true rfl rfl) ?_
                   refine GL.nil (?_ : GC _ _ _ _)
                   refine GC.cond_true rfl ?_
                   refine GC.seq' ?_
                   refine GC.region ?_
                   refine GL.pure rfl (p_move rfl) ?_
                   refine GL.pure rfl (p_eql rfl rfl) ?_
                   refine GL.pure rfl (p_move rfl) ?_
                   refine GL.pass (s := 53) rfl rfl rfl ?_
                   refine GL.pass (s := 53) rfl rfl rfl ?_
                   refine GL.pure rfl (p_pick_false rfl rfl) ?_
                   refine GL.pure rfl (p_assign rfl) ?_
                   refine GL.nil (?_ : GC _ _ _ _)
                   refine GC.ret ?_
                   refine fun a w h => Fin.back (rs := [.tmp 4]) (vs := [_]) (is := []) (js := []) rfl ⟨rfl, trivial⟩ rfl rfl ?_ h
                   clear h
                   exact ⟨rfl, rfl, rfl⟩)
              · try simp only [decide_eq_true_eq, decide_eq_false_iff_not, Bool.not_eq_true', Bool.not_eq_false', Bool.not_true, Bool.not_false, Bool.not_not, ne_eq, Decidable.not_not, Int.not_lt, Int.not_le, gt_iff_lt, ge_iff_le, bool_true_eq_, bool_false_eq_] at h10
                first
                | (exfalso; first | omega | (simp at h10; omega))
                | (skip
                   refine GL.pureG (s := 43) rfl rfl rfl (p_move rfl) ?_
                   refine GL.pureG (s := 43) rfl rfl rfl (p_gtr rfl rfl) ?_
                   refine GL.pure rfl (p_pick_false rfl rfl) ?_
                   refine GL.pure rfl (p_move rfl) ?_
                   refine GL.split (i := 47) rfl (fun h11 => ?_) (fun h11 => ?_)
                   · try simp only [decide_eq_true_eq, decide_eq_false_iff_not, Bool.not_eq_true', Bool.not_eq_false', Bool.not_true, Bool.not_false, Bool.not_not, ne_eq, Decidable.not_not, Int.not_lt, Int.not_le, gt_iff_lt, ge_iff_le, bool_true_eq_, bool_false_eq_] at h11
                     first
                     | (exfalso; first | omega | (simp at h11; omega))
                     | (skip
                        refine GL.pass (s := 47) rfl rfl rfl ?_
                        refine GL.pass (s := 47) rfl rfl rfl ?_
                        refine GL.pure rfl (p_pick_true rfl rfl) ?_
                        refine GL.nil (?_ : GC _ _ _ _)
                        refine GC.cond_true rfl ?_
                        refine GC.seq' ?_
                        refine GC.region ?_
                        refine GL.pure rfl (p_move rfl) ?_
                        refine GL.pure rfl (p_eql rfl rfl) ?_
                        refine GL.pure rfl (p_move rfl) ?_
                        refine GL.pass (s := 53) rfl rfl rfl ?_
                        refine GL.pass (s := 53) rfl rfl rfl ?_
                        refine GL.pure rfl (p_pick_false rfl rfl) ?_
                        refine GL.pure rfl (p_assign rfl) ?_
                        refine GL.nil (?_ : GC _ _ _ _)
                        refine GC.ret ?_
                        refine fun a w h => Fin.back (rs := [.tmp 4]) (vs := [_]) (is := []) (js := []) rfl ⟨rfl, trivial⟩ rfl rfl ?_ h
                        clear h
                        exact ⟨rfl, rfl, rfl⟩)
                   · try simp only [decide_eq_true_eq, decide_eq_false_iff_not, Bool.not_eq_true', Bool.not_eq_false', Bool.not_true, Bool.not_false, Bool.not_not, ne_eq, Decidable.not_not, Int.not_lt, Int.not_le, gt_iff_lt, ge_iff_le, bool_true_eq_, bool_false_eq_] at h11
                     first
                     | (exfalso; first | omega | (simp at h11; omega))
                     | (skip
                        refine GL.pureG (s := 47) rfl rfl rfl (p_move rfl) ?_
                        refine GL.pureG (s := 47) rfl rfl rfl (p_gtr rfl rfl) ?_
                        refine GL.pure rfl (p_pick_false rfl rfl) ?_
                        refine GL.nil (?_ : GC _ _ _ _)
                        refine GC.cond rfl (fun h12 => ?_) (fun h12 => ?_)
                        · try simp only [decide_eq_true_eq, decide_eq_false_iff_not, Bool.not_eq_true', Bool.not_eq_false', Bool.not_true, Bool.not_false, Bool.not_not, ne_eq, Decidable.not_not, Int.not_lt, Int.not_le, gt_iff_lt, ge_iff_le, bool_true_eq_, bool_false_eq_] at h12
                          first
                          | (exfalso; first | omega | (simp at h12; omega))
                          | (skip
                             refine GC.seq' ?_
                             refine GC.region ?_
                             refine GL.pure rfl (p_move rfl) ?_
                             refine GL.pure rfl (p_eql rfl rfl) ?_
                             refine GL.pure rfl (p_move rfl) ?_
                             refine GL.pass (s := 53) rfl rfl rfl ?_
                             refine GL.pass (s := 53) rfl rfl rfl ?_
                             refine GL.pure rfl (p_pick_false rfl rfl) ?_
                             refine GL.pure rfl (p_assign rfl) ?_
                             refine GL.nil (?_ : GC _ _ _ _)
                             refine GC.ret ?_
                             refine fun a w h => Fin.back (rs := [.tmp 4]) (vs := [_]) (is := []) (js := []) rfl ⟨rfl, trivial⟩ rfl rfl ?_ h
                             clear h
                             exact ⟨rfl, rfl, rfl⟩)
                        · try simp only [decide_eq_true_eq, decide_eq_false_iff_not, Bool.not_eq_true', Bool.not_eq_false', Bool.not_true, Bool.not_false, Bool.not_not, ne_eq, Decidable.not_not, Int.not_lt, Int.not_le, gt_iff_lt, ge_iff_le, bool_true_eq_, bool_false_eq_] at h12
                          first
                          | (exfalso; first | omega | (simp at h12; omega))
                          | (skip
                             refine GC.skip (?_ : GC _ _ _ _)
                             refine GC.seq' ?_
                             refine GC.seq' ?_
                             refine GC.region ?_
                             refine GL.pure rfl (p_move rfl) ?_
                             refine GL.pure rfl (p_rem rfl rfl (by omega) (Int.tmod_eq_emod_of_nonneg (by omega))) ?_
                             refine GL.pure rfl (p_eql rfl rfl) ?_
                             refine GL.pure rfl (p_move rfl) ?_
                             refine GL.split (i := 60) rfl (fun h13 => ?_) (fun h13 => ?_)
                             · try simp only [decide_eq_true_eq, decide_eq_false_iff_not, Bool.not_eq_true', Bool.not_eq_false', Bool.not_true, Bool.not_false, Bool.not_not, ne_eq, Decidable.not_not, Int.not_lt, Int.not_le, gt_iff_lt, ge_iff_le, bool_true_eq_, bool_false_eq_] at h13
                               first
                               | (exfalso; first | omega | (simp at h13; omega))
                               | (skip
                                  refine GL.pass (s := 60) rfl rfl rfl ?_
                                  refine GL.pass (s := 60) rfl rfl rfl ?_
                                  refine GL.pure rfl (p_pick_true rfl rfl) ?_
                                  refine GL.nil (?_ : GC _ _ _ _)
                                  refine GC.cond_true rfl ?_
                                  refine GC.seq' ?_
                                  refine GC.region ?_
                                  refine GL.pure rfl (p_move rfl) ?_
                                  refine GL.pure rfl (p_eql rfl rfl) ?_
                                  refine GL.pure rfl (p_move rfl) ?_
                                  refine GL.pureG (s := 66) rfl rfl rfl (p_move rfl) ?_
                                  refine GL.pureG (s := 66) rfl rfl rfl (p_eql rfl rfl) ?_
                                  refine GL.pure rfl (p_pick_true rfl rfl) ?_
                                  refine GL.pure rfl (p_move rfl) ?_
                                  refine GL.pureG (s := 70) rfl rfl rfl (p_move rfl) ?_
                                  refine GL.stepG rfl (s := 70) rfl rfl (t_call rfl fn_13 rfl (is := [0, 0]) (js := [0]) rfl rfl (by exact len_eq _ _ _ _ _ 64 (fullT_len64))) (GL.ret ?_)
                                  rintro _ _ _ ⟨rfl, rfl, rfl⟩
                                  refine GL.pureG (s := 70) rfl rfl rfl (p_eql rfl rfl) ?_
                                  refine GL.pure rfl (p_pick_true rfl rfl) ?_
                                  refine GL.pure rfl (p_assign rfl) ?_
                                  refine GL.nil (?_ : GC _ _ _ _)
                                  refine GC.ret ?_
                                  refine fun a w h => Fin.back (rs := [.tmp 4]) (vs := [_]) (is := []) (js := []) rfl ⟨rfl, trivial⟩ rfl rfl ?_ h
                                  clear h
                                  exact ⟨rfl, rfl, rfl⟩)
                             · try simp only [decide_eq_true_eq, decide_eq_false_iff_not, Bool.not_eq_true', Bool.not_eq_false', Bool.not_true, Bool.not_false, Bool.not_not, ne_eq, Decidable.not_not, Int.not_lt, Int.not_le, gt_iff_lt, ge_iff_le, bool_true_eq_, bool_false_eq_] at h13
                               first
                               | (exfalso; first | omega | (simp at h13; omega))
                               | (skip
                                  refine GL.pureG (s := 60) rfl rfl rfl (p_move rfl) ?_
                                  refine GL.pureG (s := 60) rfl rfl rfl (p_gtr rfl rfl) ?_
                                  refine GL.pure rfl (p_pick_false rfl rfl) ?_
                                  refine GL.nil (?_ : GC _ _ _ _)
                                  refine GC.cond rfl (fun h14 => ?_) (fun h14 => ?_)
                                  · try simp only [decide_eq_true_eq, decide_eq_false_iff_not, Bool.not_eq_true', Bool.not_eq_false', Bool.not_true, Bool.not_false, Bool.not_not, ne_eq, Decidable.not_not, Int.not_lt, Int.not_le, gt_iff_lt, ge_iff_le, bool_true_eq_, bool_false_eq_] at h14
                                    first
                                    | (exfalso; first | omega | (simp at h14; omega))
                                    | (skip
                                       refine GC.seq' ?_
                                       refine GC.region ?_
                                       refine GL.pure rfl (p_move rfl) ?_
                                       refine GL.pure rfl (p_eql rfl rfl) ?_
                                       refine GL.pure rfl (p_move rfl) ?_
                                       refine GL.pureG (s := 66) rfl rfl rfl (p_move rfl) ?_
                                       refine GL.pureG (s := 66) rfl rfl rfl (p_eql rfl rfl) ?_
                                       refine GL.pure rfl (p_pick_true rfl rfl) ?_
                                       refine GL.pure rfl (p_move rfl) ?_
                                       refine GL.pureG (s := 70) rfl rfl rfl (p_move rfl) ?_
                                       refine GL.stepG rfl (s := 70) rfl rfl (t_call rfl fn_13 rfl (is := [0, 0]) (js := [0]) rfl rfl (by exact len_eq _ _ _ _ _ 64 (fullT_len64))) (GL.ret ?_)
                                       rintro _ _ _ ⟨rfl, rfl, rfl⟩
                                       refine GL.pureG (s := 70) rfl rfl rfl (p_eql rfl rfl) ?_
                                       refine GL.pure rfl (p_pick_true rfl rfl) ?_
                                       refine GL.pure rfl (p_assign rfl) ?_
                                       refine GL.nil (?_ : GC _ _ _ _)
                                       refine GC.ret ?_
                                       refine fun a w h => Fin.back (rs := [.tmp 4]) (vs := [_]) (is := []) (js := []) rfl ⟨rfl, trivial⟩ rfl rfl ?_ h
                                       clear h
                                       exact ⟨rfl, rfl, rfl⟩)
                                  · try simp only [decide_eq_true_eq, decide_eq_false_iff_not, Bool.not_eq_true', Bool.not_eq_false', Bool.not_true, Bool.not_false, Bool.not_not, ne_eq, Decidable.not_not, Int.not_lt, Int.not_le, gt_iff_lt, ge_iff_le, bool_true_eq_, bool_false_eq_] at h14
                                    first
                                    | (exfalso; first | omega | (simp at h14; omega))
                                    | (skip
                                       refine GC.skip (?_ : GC _ _ _ _)
                                       refine GC.seq' ?_
                                       refine GC.region ?_
                                       refine GL.pure rfl (p_move rfl) ?_
                                       refine GL.pure rfl (p_neq rfl rfl) ?_
                                       refine GL.pure rfl (p_move rfl) ?_
                                       refine GL.pass (s := 77) rfl rfl rfl ?_
                                       refine GL.pass (s := 77) rfl rfl rfl ?_
                                       refine GL.pass (s := 77) rfl rfl rfl ?_
                                       refine GL.pass (s := 77) rfl rfl rfl ?_
                                       refine GL.pass (s := 77) rfl rfl rfl ?_
                                       refine GL.pure rfl (p_pick_false rfl rfl) ?_
                                       refine GL.pure rfl (p_move rfl) ?_
                                       refine GL.pass (s := 84) rfl rfl rfl ?_
                                       refine GL.pass (s := 84) rfl rfl rfl ?_
                                       refine GL.pass (s := 84) rfl rfl rfl ?_
                                       refine GL.pure rfl (p_pick_false rfl rfl) ?_
                                       refine GL.pure rfl (p_assign rfl) ?_
                                       refine GL.nil (?_ : GC _ _ _ _)
                                       refine GC.ret ?_
                                       refine fun a w h => Fin.back (rs := [.tmp 4]) (vs := [_]) (is := []) (js := []) rfl ⟨rfl, trivial⟩ rfl rfl ?_ h
                                       clear h
                                       exact ⟨rfl, rfl, rfl⟩))))))
       · skip
         refine GL.step rfl (t_call rfl fn_11 rfl (is := [0, 0]) (js := [1]) rfl rfl (by exact ask_eq _ _ _ _ (fullT 64) _ _ (fullT_ok 64) 1 rz 0 (full_more hk hd he))) (GL.ret ?_)
         rintro _ _ _ ⟨A28, cp28, l28, m28, rfl, rfl, rfl⟩
         refine GL.pure rfl (p_move rfl) ?_
         refine GL.pure rfl (p_extract rfl rfl) ?_
         refine GL.pure rfl (p_extract rfl rfl) ?_
         refine GL.pure rfl (p_extract rfl rfl) ?_
         refine GL.step rfl (t_alloc rfl ze_29) (GL.ex fun b_t8 => ?_)
         refine GL.pure rfl (p_assign rfl) ?_
         refine GL.step rfl (t_storeN (i := 0) rfl rfl rfl sz_29 rfl rfl rfl) ?_
         refine GL.pure rfl (p_assign rfl) ?_
         refine GL.nil (?_ : GC _ _ _ _)
         refine GC.seq' ?_
         refine GC.region ?_
         refine GL.pure rfl (p_move rfl) ?_
         refine GL.pure rfl (p_move rfl) ?_
         refine GL.pure rfl (p_move rfl) ?_
         refine GL.pure rfl (p_build ze_29 of_29 rfl rfl) ?_
         refine GL.step rfl (t_call rfl fn_10 rfl (is := [1, 1]) (js := [2, 1]) rfl rfl (by exact put_eq _ _ _ _ (fullT 64) _ _ (⟨2, []⟩ : Res) none 0 (fullT_ok 64) 0 (mput (fullT 64) cl ⟨se, ⟨2, []⟩⟩) (full_put_more hk hd he))) (GL.ret ?_)
         rintro _ _ _ ⟨es36, ck36, rfl, rfl, rfl⟩
         refine GL.pure rfl (p_assign rfl) ?_
         refine GL.nil (?_ : GC _ _ _ _)
         refine GC.seq' ?_
         refine GC.seq' ?_
         refine GC.region ?_
         refine GL.pure rfl (p_move rfl) ?_
         refine GL.pure rfl (p_lss rfl rfl) ?_
         refine GL.pure rfl (p_move rfl) ?_
         refine GL.split (i := 39) rfl (fun h15 => ?_) (fun h15 => ?_)
         · try simp only [decide_eq_true_eq, decide_eq_false_iff_not, Bool.not_eq_true', Bool.not_eq_false', Bool.not_true, Bool.not_false, Bool.not_not, ne_eq, Decidable.not_not, Int.not_lt, Int.not_le, gt_iff_lt, ge_iff_le, bool_true_eq_, bool_false_eq_] at h15
           first
           | (exfalso; first | omega | (simp at h15; omega))
           | (skip
              refine GL.pass (s := 39) rfl rfl rfl ?_
              refine GL.pass (s := 39) rfl rfl rfl ?_
              refine GL.pure rfl (p_pick_true rfl rfl) ?_
              refine GL.pure rfl (p_move rfl) ?_
              refine GL.pass (s := 43) rfl rfl rfl ?_
              refine GL.pass (s := 43) rfl rfl rfl ?_
              refine GL.pure rfl (p_pick_true rfl rfl) ?_
              refine GL.pure rfl (p_move rfl) ?_
              refine GL.pass (s := 47) rfl rfl rfl ?_
              refine GL.pass (s := 47) rfl rfl rfl ?_
              refine GL.pure rfl (p_pick_true rfl rfl) ?_
              refine GL.nil (?_ : GC _ _ _ _)
              refine GC.cond_true rfl ?_
              refine GC.seq' ?_
              refine GC.region ?_
              refine GL.pure rfl (p_move rfl) ?_
              refine GL.pure rfl (p_eql rfl rfl) ?_
              refine GL.pure rfl (p_move rfl) ?_
              refine GL.pass (s := 53) rfl rfl rfl ?_
              refine GL.pass (s := 53) rfl rfl rfl ?_
              refine GL.pure rfl (p_pick_false rfl rfl) ?_
              refine GL.pure rfl (p_assign rfl) ?_
              refine GL.nil (?_ : GC _ _ _ _)
              refine GC.ret ?_
              refine fun a w h => Fin.back (rs := [.tmp 4]) (vs := [_]) (is := []) (js := []) rfl ⟨rfl, trivial⟩ rfl rfl ?_ h
              clear h
              exact ⟨rfl, rfl, rfl⟩)
         · try simp only [decide_eq_true_eq, decide_eq_false_iff_not, Bool.not_eq_true', Bool.not_eq_false', Bool.not_true, Bool.not_false, Bool.not_not, ne_eq, Decidable.not_not, Int.not_lt, Int.not_le, gt_iff_lt, ge_iff_le, bool_true_eq_, bool_false_eq_] at h15
           first
           | (exfalso; first | omega | (simp at h15; omega))
           | (skip
              refine GL.pureG (s := 39) rfl rfl rfl (p_move rfl) ?_
              refine GL.pureG (s := 39) rfl rfl rfl (p_lss rfl rfl) ?_
              refine GL.pure rfl (p_pick_false rfl rfl) ?_
              refine GL.pure rfl (p_move rfl) ?_
              refine GL.split (i := 43) rfl (fun h16 => ?_) (fun h16 => ?_)
              · try simp only [decide_eq_true_eq, decide_eq_false_iff_not, Bool.not_eq_true', Bool.not_eq_false', Bool.not_true, Bool.not_false, Bool.not_not, ne_eq, Decidable.not_not, Int.not_lt, Int.not_le, gt_iff_lt, ge_iff_le, bool_true_eq_, bool_false_eq_] at h16
                first
                | (exfalso; first | omega | (simp at h16; omega))
                | (skip
                   refine GL.pass (s := 43) rfl rfl rfl ?_
                   refine GL.pass (s := 43) rfl rfl rfl ?_
                   refine GL.pure rfl (p_pick_true rfl rfl) ?_
                   refine GL.pure rfl (p_move rfl) ?_
                   refine GL.pass (s := 47) rfl rfl rfl ?_
                   refine GL.pass (s := 47) rfl rfl rfl ?_
                   refine GL.pure rfl (p_pick_true rfl rfl) ?_
                   refine GL.nil (?_ : GC _ _ _ _)
                   refine GC.cond_true rfl ?_
                   refine GC.seq' ?_
                   refine GC.region ?_
                   refine GL.pure rfl (p_move rfl) ?_
                   refine GL.pure rfl (p_eql rfl rfl) ?_
                   refine GL.pure rfl (p_move rfl) ?_
                   refine GL.pass (s := 53) rfl rfl rfl ?_
                   refine GL.pass (s := 53) rfl rfl rfl ?_
                   refine GL.pure rfl (p_pick_false rfl rfl) ?_
                   refine GL.pure rfl (p_assign rfl) ?_
                   refine GL.nil (?_ : GC _ _ _ _)
                   refine GC.ret ?_
                   refine fun a w h => Fin.back (rs := [.tmp 4]) (vs := [_]) (is := []) (js := []) rfl ⟨rfl, trivial⟩ rfl rfl ?_ h
                   clear h
                   exact ⟨rfl, rfl, rfl⟩)
              · try simp only [decide_eq_true_eq, decide_eq_false_iff_not, Bool.not_eq_true', Bool.not_eq_false', Bool.not_true, Bool.not_false, Bool.not_not, ne_eq, Decidable.not_not, Int.not_lt, Int.not_le, gt_iff_lt, ge_iff_le, bool_true_eq_, bool_false_eq_] at h16
                first
                | (exfalso; first | omega | (simp at h16; omega))
                | (skip
                   refine GL.pureG (s := 43) rfl rfl rfl (p_move rfl) ?_
                   refine GL.pureG (s := 43) rfl rfl rfl (p_gtr rfl rfl) ?_
                   refine GL.pure rfl (p_pick_false rfl rfl) ?_
                   refine GL.pure rfl (p_move rfl) ?_
                   refine GL.split (i := 47) rfl (fun h17 => ?_) (fun h17 => ?_)
                   · try simp only [decide_eq_true_eq, decide_eq_false_iff_not, Bool.not_eq_true', Bool.not_eq_false', Bool.not_true, Bool.not_false, Bool.not_not, ne_eq, Decidable.not_not, Int.not_lt, Int.not_le, gt_iff_lt, ge_iff_le, bool_true_eq_, bool_false_eq_] at h17
                     first
                     | (exfalso; first | omega | (simp at h17; omega))
                     | (skip
                        refine GL.pass (s := 47) rfl rfl rfl ?_
                        refine GL.pass (s := 47) rfl rfl rfl ?_
                        refine GL.pure rfl (p_pick_true rfl rfl) ?_
                        refine GL.nil (?_ : GC _ _ _ _)
                        refine GC.cond_true rfl ?_
                        refine GC.seq' ?_
                        refine GC.region ?_
                        refine GL.pure rfl (p_move rfl) ?_
                        refine GL.pure rfl (p_eql rfl rfl) ?_
                        refine GL.pure rfl (p_move rfl) ?_
                        refine GL.pass (s := 53) rfl rfl rfl ?_
                        refine GL.pass (s := 53) rfl rfl rfl ?_
                        refine GL.pure rfl (p_pick_false rfl rfl) ?_
                        refine GL.pure rfl (p_assign rfl) ?_
                        refine GL.nil (?_ : GC _ _ _ _)
                        refine GC.ret ?_
                        refine fun a w h => Fin.back (rs := [.tmp 4]) (vs := [_]) (is := []) (js := []) rfl ⟨rfl, trivial⟩ rfl rfl ?_ h
                        clear h
                        exact ⟨rfl, rfl, rfl⟩)
                   · try simp only [decide_eq_true_eq, decide_eq_false_iff_not, Bool.not_eq_true', Bool.not_eq_false', Bool.not_true, Bool.not_false, Bool.not_not, ne_eq, Decidable.not_not, Int.not_lt, Int.not_le, gt_iff_lt, ge_iff_le, bool_true_eq_, bool_false_eq_] at h17
                     first
                     | (exfalso; first | omega | (simp at h17; omega))
                     | (skip
                        refine GL.pureG (s := 47) rfl rfl rfl (p_move rfl) ?_
                        refine GL.pureG (s := 47) rfl rfl rfl (p_gtr rfl rfl) ?_
                        refine GL.pure rfl (p_pick_false rfl rfl) ?_
                        refine GL.nil (?_ : GC _ _ _ _)
                        refine GC.cond rfl (fun h18 => ?_) (fun h18 => ?_)
                        · try simp only [decide_eq_true_eq, decide_eq_false_iff_not, Bool.not_eq_true', Bool.not_eq_false', Bool.not_true, Bool.not_false, Bool.not_not, ne_eq, Decidable.not_not, Int.not_lt, Int.not_le, gt_iff_lt, ge_iff_le, bool_true_eq_, bool_false_eq_] at h18
                          first
                          | (exfalso; first | omega | (simp at h18; omega))
                          | (skip
                             refine GC.seq' ?_
                             refine GC.region ?_
                             refine GL.pure rfl (p_move rfl) ?_
                             refine GL.pure rfl (p_eql rfl rfl) ?_
                             refine GL.pure rfl (p_move rfl) ?_
                             refine GL.pass (s := 53) rfl rfl rfl ?_
                             refine GL.pass (s := 53) rfl rfl rfl ?_
                             refine GL.pure rfl (p_pick_false rfl rfl) ?_
                             refine GL.pure rfl (p_assign rfl) ?_
                             refine GL.nil (?_ : GC _ _ _ _)
                             refine GC.ret ?_
                             refine fun a w h => Fin.back (rs := [.tmp 4]) (vs := [_]) (is := []) (js := []) rfl ⟨rfl, trivial⟩ rfl rfl ?_ h
                             clear h
                             exact ⟨rfl, rfl, rfl⟩)
                        · try simp only [decide_eq_true_eq, decide_eq_false_iff_not, Bool.not_eq_true', Bool.not_eq_false', Bool.not_true, Bool.not_false, Bool.not_not, ne_eq, Decidable.not_not, Int.not_lt, Int.not_le, gt_iff_lt, ge_iff_le, bool_true_eq_, bool_false_eq_] at h18
                          first
                          | (exfalso; first | omega | (simp at h18; omega))
                          | (skip
                             refine GC.skip (?_ : GC _ _ _ _)
                             refine GC.seq' ?_
                             refine GC.seq' ?_
                             refine GC.region ?_
                             refine GL.pure rfl (p_move rfl) ?_
                             refine GL.pure rfl (p_rem rfl rfl (by omega) (Int.tmod_eq_emod_of_nonneg (by omega))) ?_
                             refine GL.pure rfl (p_eql rfl rfl) ?_
                             refine GL.pure rfl (p_move rfl) ?_
                             refine GL.split (i := 60) rfl (fun h19 => ?_) (fun h19 => ?_)
                             · try simp only [decide_eq_true_eq, decide_eq_false_iff_not, Bool.not_eq_true', Bool.not_eq_false', Bool.not_true, Bool.not_false, Bool.not_not, ne_eq, Decidable.not_not, Int.not_lt, Int.not_le, gt_iff_lt, ge_iff_le, bool_true_eq_, bool_false_eq_] at h19
                               first
                               | (exfalso; first | omega | (simp at h19; omega))
                               | (skip
                                  refine GL.pass (s := 60) rfl rfl rfl ?_
                                  refine GL.pass (s := 60) rfl rfl rfl ?_
                                  refine GL.pure rfl (p_pick_true rfl rfl) ?_
                                  refine GL.nil (?_ : GC _ _ _ _)
                                  refine GC.cond_true rfl ?_
                                  refine GC.seq' ?_
                                  refine GC.region ?_
                                  refine GL.pure rfl (p_move rfl) ?_
                                  refine GL.pure rfl (p_eql rfl rfl) ?_
                                  refine GL.pure rfl (p_move rfl) ?_
                                  refine GL.pass (s := 66) rfl rfl rfl ?_
                                  refine GL.pass (s := 66) rfl rfl rfl ?_
                                  refine GL.pure rfl (p_pick_false rfl rfl) ?_
                                  refine GL.pure rfl (p_move rfl) ?_
                                  refine GL.pass (s := 70) rfl rfl rfl ?_
                                  refine GL.pass (s := 70) rfl rfl rfl ?_
                                  refine GL.pass (s := 70) rfl rfl rfl ?_
                                  refine GL.pure rfl (p_pick_false rfl rfl) ?_
                                  refine GL.pure rfl (p_assign rfl) ?_
                                  refine GL.nil (?_ : GC _ _ _ _)
                                  refine GC.ret ?_
                                  refine fun a w h => Fin.back (rs := [.tmp 4]) (vs := [_]) (is := []) (js := []) rfl ⟨rfl, trivial⟩ rfl rfl ?_ h
                                  clear h
                                  exact ⟨rfl, rfl, rfl⟩)
                             · try simp only [decide_eq_true_eq, decide_eq_false_iff_not, Bool.not_eq_true', Bool.not_eq_false', Bool.not_true, Bool.not_false, Bool.not_not, ne_eq, Decidable.not_not, Int.not_lt, Int.not_le, gt_iff_lt, ge_iff_le, bool_true_eq_, bool_false_eq_] at h19
                               first
                               | (exfalso; first | omega | (simp at h19; omega))
                               | (skip
                                  refine GL.pureG (s := 60) rfl rfl rfl (p_move rfl) ?_
                                  refine GL.pureG (s := 60) rfl rfl rfl (p_gtr rfl rfl) ?_
                                  refine GL.pure rfl (p_pick_false rfl rfl) ?_
                                  refine GL.nil (?_ : GC _ _ _ _)
                                  refine GC.cond rfl (fun h20 => ?_) (fun h20 => ?_)
                                  · try simp only [decide_eq_true_eq, decide_eq_false_iff_not, Bool.not_eq_true', Bool.not_eq_false', Bool.not_true, Bool.not_false, Bool.not_not, ne_eq, Decidable.not_not, Int.not_lt, Int.not_le, gt_iff_lt, ge_iff_le, bool_true_eq_, bool_false_eq_] at h20
                                    first
                                    | (exfalso; first | omega | (simp at h20; omega))
                                    | (skip
                                       refine GC.seq' ?_
                                       refine GC.region ?_
                                       refine GL.pure rfl (p_move rfl) ?_
                                       refine GL.pure rfl (p_eql rfl rfl) ?_
                                       refine GL.pure rfl (p_move rfl) ?_
                                       refine GL.pass (s := 66) rfl rfl rfl ?_
                                       refine GL.pass (s := 66) rfl rfl rfl ?_
                                       refine GL.pure rfl (p_pick_false rfl rfl) ?_
                                       refine GL.pure rfl (p_move rfl) ?_
                                       refine GL.pass (s := 70) rfl rfl rfl ?_
                                       refine GL.pass (s := 70) rfl rfl rfl ?_
                                       refine GL.pass (s := 70) rfl rfl rfl ?_
                                       refine GL.pure rfl (p_pick_false rfl rfl) ?_
                                       refine GL.pure rfl (p_assign rfl) ?_
                                       refine GL.nil (?_ : GC _ _ _ _)
                                       refine GC.ret ?_
                                       refine fun a w h => Fin.back (rs := [.tmp 4]) (vs := [_]) (is := []) (js := []) rfl ⟨rfl, trivial⟩ rfl rfl ?_ h
                                       clear h
                                       exact ⟨rfl, rfl, rfl⟩)
                                  · try simp only [decide_eq_true_eq, decide_eq_false_iff_not, Bool.not_eq_true', Bool.not_eq_false', Bool.not_true, Bool.not_false, Bool.not_not, ne_eq, Decidable.not_not, Int.not_lt, Int.not_le, gt_iff_lt, ge_iff_le, bool_true_eq_, bool_false_eq_] at h20
                                    first
                                    | (exfalso; first | omega | (simp at h20; omega))
                                    | (skip
                                       refine GC.skip (?_ : GC _ _ _ _)
                                       refine GC.seq' ?_
                                       refine GC.region ?_
                                       refine GL.pure rfl (p_move rfl) ?_
                                       refine GL.pure rfl (p_neq rfl rfl) ?_
                                       refine GL.pure rfl (p_move rfl) ?_
                                       refine GL.pureG (s := 77) rfl rfl rfl (p_move rfl) ?_
                                       refine GL.pureG (s := 77) rfl rfl rfl (p_eql rfl rfl) ?_
                                       refine GL.pureG (s := 77) rfl rfl rfl (p_move rfl) ?_
                                       refine GL.pureG (s := 77) rfl rfl rfl (p_gtr rfl rfl) ?_
                                       refine GL.pureG (s := 77) rfl rfl rfl (p_beql Try.underlying4 rfl rfl) ?_
                                       refine GL.pure rfl (p_pick_true rfl rfl) ?_
                                       refine GL.pure rfl (p_move rfl) ?_
                                       refine GL.split (i := 84) rfl (fun h21 => ?_) (fun h21 => ?_)
                                       · try simp only [decide_eq_true_eq, decide_eq_false_iff_not, Bool.not_eq_true', Bool.not_eq_false', Bool.not_true, Bool.not_false, Bool.not_not, ne_eq, Decidable.not_not, Int.not_lt, Int.not_le, gt_iff_lt, ge_iff_le, bool_true_eq_, bool_false_eq_] at h21
                                         first
                                         | (exfalso; first | omega | (simp at h21; omega))
                                         | (skip
                                            refine GL.pureG (s := 84) rfl rfl rfl (p_move rfl) ?_
                                            refine GL.stepG rfl (s := 84) rfl rfl (t_call rfl fn_13 rfl (is := [0, 0]) (js := [0]) rfl rfl (by exact len_eq _ _ _ _ _ 64 (congrArg (fun n : Nat => (n : Int)) (full_more_len hk hd _)))) (GL.ret ?_)
                                            rintro _ _ _ ⟨rfl, rfl, rfl⟩
                                            refine GL.pureG (s := 84) rfl rfl rfl (p_eql rfl rfl) ?_
                                            refine GL.pure rfl (p_pick_true rfl rfl) ?_
                                            refine GL.pure rfl (p_assign rfl) ?_
                                            refine GL.nil (?_ : GC _ _ _ _)
                                            refine GC.ret ?_
                                            refine fun a w h => Fin.back (rs := [.tmp 4]) (vs := [_]) (is := []) (js := []) rfl ⟨rfl, trivial⟩ rfl rfl ?_ h
                                            clear h
                                            exact ⟨rfl, rfl, rfl⟩)
                                       · try simp only [decide_eq_true_eq, decide_eq_false_iff_not, Bool.not_eq_true', Bool.not_eq_false', Bool.not_true, Bool.not_false, Bool.not_not, ne_eq, Decidable.not_not, Int.not_lt, Int.not_le, gt_iff_lt, ge_iff_le, bool_true_eq_, bool_false_eq_] at h21
                                         first
                                         | (exfalso; first | omega | (simp at h21; omega))
                                         | (skip
                                            refine GL.pass (s := 84) rfl rfl rfl ?_
                                            refine GL.pass (s := 84) rfl rfl rfl ?_
                                            refine GL.pass (s := 84) rfl rfl rfl ?_
                                            refine GL.pure rfl (p_pick_false rfl rfl) ?_
                                            refine GL.pure rfl (p_assign rfl) ?_
                                            refine GL.nil (?_ : GC _ _ _ _)
                                            refine GC.ret ?_
                                            refine fun a w h => Fin.back (rs := [.tmp 4]) (vs := [_]) (is := []) (js := []) rfl ⟨rfl, trivial⟩ rfl rfl ?_ h
                                            clear h
                                            exact ⟨rfl, rfl, rfl⟩)))))))
       · skip
         refine GL.step rfl (t_call rfl fn_11 rfl (is := [0, 0]) (js := [1]) rfl rfl (by exact ask_eq _ _ _ _ (fullT 64) _ _ (fullT_ok 64) 2 ⟨1, []⟩ 0 (full_same hk hd he))) (GL.ret ?_)
         rintro _ _ _ ⟨A28, cp28, l28, m28, rfl, rfl, rfl⟩
         refine GL.pure rfl (p_move rfl) ?_
         refine GL.pure rfl (p_extract rfl rfl) ?_
         refine GL.pure rfl (p_extract rfl rfl) ?_
         refine GL.pure rfl (p_extract rfl rfl) ?_
         refine GL.step rfl (t_alloc rfl ze_29) (GL.ex fun b_t8 => ?_)
         refine GL.pure rfl (p_assign rfl) ?_
         refine GL.step rfl (t_storeN (i := 0) rfl rfl rfl sz_29 rfl rfl rfl) ?_
         refine GL.pure rfl (p_assign rfl) ?_
         refine GL.nil (?_ : GC _ _ _ _)
         refine GC.seq' ?_
         refine GC.region ?_
         refine GL.pure rfl (p_move rfl) ?_
         refine GL.pure rfl (p_move rfl) ?_
         refine GL.pure rfl (p_move rfl) ?_
         refine GL.pure rfl (p_build ze_29 of_29 rfl rfl) ?_
         refine GL.step rfl (t_call rfl fn_10 rfl (is := [1, 1]) (js := [2, 1]) rfl rfl (by exact put_eq _ _ _ _ (fullT 64) _ _ (⟨2, []⟩ : Res) none 0 (fullT_ok 64) 1 (fullT 64) (full_put_old hk hd (by omega)))) (GL.ret ?_)
         rintro _ _ _ ⟨es36, ck36, rfl, rfl, rfl⟩
         refine GL.pure rfl (p_assign rfl) ?_
         refine GL.nil (?_ : GC _ _ _ _)
         refine GC.seq' ?_
         refine GC.seq' ?_
         refine GC.region ?_
         refine GL.pure rfl (p_move rfl) ?_
         refine GL.pure rfl (p_lss rfl rfl) ?_
         refine GL.pure rfl (p_move rfl) ?_
         refine GL.split (i := 39) rfl (fun h22 => ?_) (fun h22 => ?_)
         · try simp only [decide_eq_true_eq, decide_eq_false_iff_not, Bool.not_eq_true', Bool.not_eq_false', Bool.not_true, Bool.not_false, Bool.not_not, ne_eq, Decidable.not_not, Int.not_lt, Int.not_le, gt_iff_lt, ge_iff_le, bool_true_eq_, bool_false_eq_] at h22
           first
           | (exfalso; first | omega | (simp at h22; omega))
           | (skip
              refine GL.pass (s := 39) rfl rfl rfl ?_
              refine GL.pass (s := 39) rfl rfl rfl ?_
              refine GL.pure rfl (p_pick_true rfl rfl) ?_
              refine GL.pure rfl (p_move rfl) ?_
              refine GL.pass (s := 43) rfl rfl rfl ?_
              refine GL.pass (s := 43) rfl rfl rfl ?_
              refine GL.pure rfl (p_pick_true rfl rfl) ?_
              refine GL.pure rfl (p_move rfl) ?_
              refine GL.pass (s := 47) rfl rfl rfl ?_
              refine GL.pass (s := 47) rfl rfl rfl ?_
              refine GL.pure rfl (p_pick_true rfl rfl) ?_
              refine GL.nil (?_ : GC _ _ _ _)
              refine GC.cond_true rfl ?_
              refine GC.seq' ?_
              refine GC.region ?_
              refine GL.pure rfl (p_move rfl) ?_
              refine GL.pure rfl (p_eql rfl rfl) ?_
              refine GL.pure rfl (p_move rfl) ?_
              refine GL.pass (s := 53) rfl rfl rfl ?_
              refine GL.pass (s := 53) rfl rfl rfl ?_
              refine GL.pure rfl (p_pick_false rfl rfl) ?_
              refine GL.pure rfl (p_assign rfl) ?_
              refine GL.nil (?_ : GC _ _ _ _)
              refine GC.ret ?_
              refine fun a w h => Fin.back (rs := [.tmp 4]) (vs := [_]) (is := []) (js := []) rfl ⟨rfl, trivial⟩ rfl rfl ?_ h
              clear h
              exact ⟨rfl, rfl, rfl⟩)
         · try simp only [decide_eq_true_eq, decide_eq_false_iff_not, Bool.not_eq_true', Bool.not_eq_false', Bool.not_true, Bool.not_false, Bool.not_not, ne_eq, Decidable.not_not, Int.not_lt, Int.not_le, gt_iff_lt, ge_iff_le, bool_true_eq_, bool_false_eq_] at h22
           first
           | (exfalso; first | omega | (simp at h22; omega))
           | (skip
              refine GL.pureG (s := 39) rfl rfl rfl (p_move rfl) ?_
              refine GL.pureG (s := 39) rfl rfl rfl (p_lss rfl rfl) ?_
              refine GL.pure rfl (p_pick_false rfl rfl) ?_
              refine GL.pure rfl (p_move rfl) ?_
              refine GL.split (i := 43) rfl (fun h23 => ?_) (fun h23 => ?_)
              · try simp only [decide_eq_true_eq, decide_eq_false_iff_not, Bool.not_eq_true', Bool.not_eq_false', Bool.not_true, Bool.not_false, Bool.not_not, ne_eq, Decidable.not_not, Int.not_lt, Int.not_le, gt_iff_lt, ge_iff_le, bool_true_eq_, bool_false_eq_] at h23
                first
                | (exfalso; first | omega | (simp at h23; omega))
                | (skip
                   refine GL.pass (s := 43) rfl rfl rfl ?_
                   refine GL.pass (s := 43) rfl rfl rfl ?_
                   refine GL.pure rfl (p_pick_true rfl rfl) ?_
                   refine GL.pure rfl (p_move rfl) ?_
                   refine GL.pass (s := 47) rfl rfl rfl ?_
                   refine GL.pass (s := 47) rfl rfl rfl ?_
                   refine GL.pure rfl (p_pick_true rfl rfl) ?_
                   refine GL.nil (?_ : GC _ _ _ _)
                   refine GC.cond_true rfl ?_
                   refine GC.seq' ?_
                   refine GC.region ?_
                   refine GL.pure rfl (p_move rfl) ?_
                   refine GL.pure rfl (p_eql rfl rfl) ?_
                   refine GL.pure rfl (p_move rfl) ?_
                   refine GL.pass (s := 53) rfl rfl rfl ?_
                   refine GL.pass (s := 53) rfl rfl rfl ?_
                   refine GL.pure rfl (p_pick_false rfl rfl) ?_
                   refine GL.pure rfl (p_assign rfl) ?_
                   refine GL.nil (?_ : GC _ _ _ _)
                   refine GC.ret ?_
                   refine fun a w h => Fin.back (rs := [.tmp 4]) (vs := [_]) (is := []) (js := []) rfl ⟨rfl, trivial⟩ rfl rfl ?_ h
                   clear h
                   exact ⟨rfl, rfl, rfl⟩)
              · try simp only [decide_eq_true_eq, decide_eq_false_iff_not, Bool.not_eq_true', Bool.not_eq_false', Bool.not_true, Bool.not_false, Bool.not_not, ne_eq, Decidable.not_not, Int.not_lt, Int.not_le, gt_iff_lt, ge_iff_le, bool_true_eq_, bool_false_eq_] at h23
                first
                | (exfalso; first | omega | (simp at h23; omega))
                | (skip
                   refine GL.pureG (s := 43) rfl rfl rfl (p_move rfl) ?_
                   refine GL.pureG (s := 43) rfl rfl rfl (p_gtr rfl rfl) ?_
                   refine GL.pure rfl (p_pick_false rfl rfl) ?_
                   refine GL.pure rfl (p_move rfl) ?_
                   refine GL.split (i := 47) rfl (fun h24 => ?_) (fun h24 => ?_)
                   · try simp only [decide_eq_true_eq, decide_eq_false_iff_not, Bool.not_eq_true', Bool.not_eq_false', Bool.not_true, Bool.not_false, Bool.not_not, ne_eq, Decidable.not_not, Int.not_lt, Int.not_le, gt_iff_lt, ge_iff_le, bool_true_eq_, bool_false_eq_] at h24
                     first
                     | (exfalso; first | omega | (simp at h24; omega))
                     | (skip
                        refine GL.pass (s := 47) rfl rfl rfl ?_
                        refine GL.pass (s := 47) rfl rfl rfl ?_
                        refine GL.pure rfl (p_pick_true rfl rfl) ?_
                        refine GL.nil (?_ : GC _ _ _ _)
                        refine GC.cond_true rfl ?_
                        refine GC.seq' ?_
                        refine GC.region ?_
                        refine GL.pure rfl (p_move rfl) ?_
                        refine GL.pure rfl (p_eql rfl rfl) ?_
                        refine GL.pure rfl (p_move rfl) ?_
                        refine GL.pass (s := 53) rfl rfl rfl ?_
                        refine GL.pass (s := 53) rfl rfl rfl ?_
                        refine GL.pure rfl (p_pick_false rfl rfl) ?_
                        refine GL.pure rfl (p_assign rfl) ?_
                        refine GL.nil (?_ : GC _ _ _ _)
                        refine GC.ret ?_
                        refine fun a w h => Fin.back (rs := [.tmp 4]) (vs := [_]) (is := []) (js := []) rfl ⟨rfl, trivial⟩ rfl rfl ?_ h
                        clear h
                        exact ⟨rfl, rfl, rfl⟩)
                   · try simp only [decide_eq_true_eq, decide_eq_false_iff_not, Bool.not_eq_true', Bool.not_eq_false', Bool.not_true, Bool.not_false, Bool.not_not, ne_eq, Decidable.not_not, Int.not_lt, Int.not_le, gt_iff_lt, ge_iff_le, bool_true_eq_, bool_false_eq_] at h24
                     first
                     | (exfalso; first | omega | (simp at h24; omega))
                     | (skip
                        refine GL.pureG (s := 47) rfl rfl rfl (p_move rfl) ?_
                        refine GL.pureG (s := 47) rfl rfl rfl (p_gtr rfl rfl) ?_
                        refine GL.pure rfl (p_pick_false rfl rfl) ?_
                        refine GL.nil (?_ : GC _ _ _ _)
                        refine GC.cond rfl (fun h25 => ?_) (fun h25 => ?_)
                        · try simp only [decide_eq_true_eq, decide_eq_false_iff_not, Bool.not_eq_true', Bool.not_eq_false', Bool.not_true, Bool.not_false, Bool.not_not, ne_eq, Decidable.not_not, Int.not_lt, Int.not_le, gt_iff_lt, ge_iff_le, bool_true_eq_, bool_false_eq_] at h25
                          first
                          | (exfalso; first | omega | (simp at h25; omega))
                          | (skip
                             refine GC.seq' ?_
                             refine GC.region ?_
                             refine GL.pure rfl (p_move rfl) ?_
                             refine GL.pure rfl (p_eql rfl rfl) ?_
                             refine GL.pure rfl (p_move rfl) ?_
                             refine GL.pass (s := 53) rfl rfl rfl ?_
                             refine GL.pass (s := 53) rfl rfl rfl ?_
                             refine GL.pure rfl (p_pick_false rfl rfl) ?_
                             refine GL.pure rfl (p_assign rfl) ?_
                             refine GL.nil (?_ : GC _ _ _ _)
                             refine GC.ret ?_
                             refine fun a w h => Fin.back (rs := [.tmp 4]) (vs := [_]) (is := []) (js := []) rfl ⟨rfl, trivial⟩ rfl rfl ?_ h
                             clear h
                             exact ⟨rfl, rfl, rfl⟩)
                        · try simp only [decide_eq_true_eq, decide_eq_false_iff_not, Bool.not_eq_true', Bool.not_eq_false', Bool.not_true, Bool.not_false, Bool.not_not, ne_eq, Decidable.not_not, Int.not_lt, Int.not_le, gt_iff_lt, ge_iff_le, bool_true_eq_, bool_false_eq_] at h25
                          first
                          | (exfalso; first | omega | (simp at h25; omega))
                          | (skip
                             refine GC.skip (?_ : GC _ _ _ _)
                             refine GC.seq' ?_
                             refine GC.seq' ?_
                             refine GC.region ?_
                             refine GL.pure rfl (p_move rfl) ?_
                             refine GL.pure rfl (p_rem rfl rfl (by omega) (Int.tmod_eq_emod_of_nonneg (by omega))) ?_
                             refine GL.pure rfl (p_eql rfl rfl) ?_
                             refine GL.pure rfl (p_move rfl) ?_
                             refine GL.split (i := 60) rfl (fun h26 => ?_) (fun h26 => ?_)
                             · try simp only [decide_eq_true_eq, decide_eq_false_iff_not, Bool.not_eq_true', Bool.not_eq_false', Bool.not_true, Bool.not_false, Bool.not_not, ne_eq, Decidable.not_not, Int.not_lt, Int.not_le, gt_iff_lt, ge_iff_le, bool_true_eq_, bool_false_eq_] at h26
                               first
                               | (exfalso; first | omega | (simp at h26; omega))
                               | (skip
                                  refine GL.pass (s := 60) rfl rfl rfl ?_
                                  refine GL.pass (s := 60) rfl rfl rfl ?_
                                  refine GL.pure rfl (p_pick_true rfl rfl) ?_
                                  refine GL.nil (?_ : GC _ _ _ _)
                                  refine GC.cond_true rfl ?_
                                  refine GC.seq' ?_
                                  refine GC.region ?_
                                  refine GL.pure rfl (p_move rfl) ?_
                                  refine GL.pure rfl (p_eql rfl rfl) ?_
                                  refine GL.pure rfl (p_move rfl) ?_
                                  refine GL.pass (s := 66) rfl rfl rfl ?_
                                  refine GL.pass (s := 66) rfl rfl rfl ?_
                                  refine GL.pure rfl (p_pick_false rfl rfl) ?_
                                  refine GL.pure rfl (p_move rfl) ?_
                                  refine GL.pass (s := 70) rfl rfl rfl ?_
                                  refine GL.pass (s := 70) rfl rfl rfl ?_
                                  refine GL.pass (s := 70) rfl rfl rfl ?_
                                  refine GL.pure rfl (p_pick_false rfl rfl) ?_
                                  refine GL.pure rfl (p_assign rfl) ?_
                                  refine GL.nil (?_ : GC _ _ _ _)
                                  refine GC.ret ?_
                                  refine fun a w h => Fin.back (rs := [.tmp 4]) (vs := [_]) (is := []) (js := []) rfl ⟨rfl, trivial⟩ rfl rfl ?_ h
                                  clear h
                                  exact ⟨rfl, rfl, rfl⟩)
                             · try simp only [decide_eq_true_eq, decide_eq_false_iff_not, Bool.not_eq_true', Bool.not_eq_false', Bool.not_true, Bool.not_false, Bool.not_not, ne_eq, Decidable.not_not, Int.not_lt, Int.not_le, gt_iff_lt, ge_iff_le, bool_true_eq_, bool_false_eq_] at h26
                               first
                               | (exfalso; first | omega | (simp at h26; omega))
                               | (skip
                                  refine GL.pureG (s := 60) rfl rfl rfl (p_move rfl) ?_
                                  refine GL.pureG (s := 60) rfl rfl rfl (p_gtr rfl rfl) ?_
                                  refine GL.pure rfl (p_pick_false rfl rfl) ?_
                                  refine GL.nil (?_ : GC _ _ _ _)
                                  refine GC.cond rfl (fun h27 => ?_) (fun h27 => ?_)
                                  · try simp only [decide_eq_true_eq, decide_eq_false_iff_not, Bool.not_eq_true', Bool.not_eq_false', Bool.not_true, Bool.not_false, Bool.not_not, ne_eq, Decidable.not_not, Int.not_lt, Int.not_le, gt_iff_lt, ge_iff_le, bool_true_eq_, bool_false_eq_] at h27
                                    first
                                    | (exfalso; first | omega | (simp at h27; omega))
                                    | (skip
                                       refine GC.seq' ?_
                                       refine GC.region ?_
                                       refine GL.pure rfl (p_move rfl) ?_
                                       refine GL.pure rfl (p_eql rfl rfl) ?_
                                       refine GL.pure rfl (p_move rfl) ?_
                                       refine GL.pass (s := 66) rfl rfl rfl ?_
                                       refine GL.pass (s := 66) rfl rfl rfl ?_
                                       refine GL.pure rfl (p_pick_false rfl rfl) ?_
                                       refine GL.pure rfl (p_move rfl) ?_
                                       refine GL.pass (s := 70) rfl rfl rfl ?_
                                       refine GL.pass (s := 70) rfl rfl rfl ?_
                                       refine GL.pass (s := 70) rfl rfl rfl ?_
                                       refine GL.pure rfl (p_pick_false rfl rfl) ?_
                                       refine GL.pure rfl (p_assign rfl) ?_
                                       refine GL.nil (?_ : GC _ _ _ _)
                                       refine GC.ret ?_
                                       refine fun a w h => Fin.back (rs := [.tmp 4]) (vs := [_]) (is := []) (js := []) rfl ⟨rfl, trivial⟩ rfl rfl ?_ h
                                       clear h
                                       exact ⟨rfl, rfl, rfl⟩)
                                  · try simp only [decide_eq_true_eq, decide_eq_false_iff_not, Bool.not_eq_true', Bool.not_eq_false', Bool.not_true, Bool.not_false, Bool.not_not, ne_eq, Decidable.not_not, Int.not_lt, Int.not_le, gt_iff_lt, ge_iff_le, bool_true_eq_, bool_false_eq_] at h27
                                    first
                                    | (exfalso; first | omega | (simp at h27; omega))
                                    | (skip
                                       refine GC.skip (?_ : GC _ _ _ _)
                                       refine GC.seq' ?_
                                       refine GC.region ?_
                                       refine GL.pure rfl (p_move rfl) ?_
                                       refine GL.pure rfl (p_neq rfl rfl) ?_
                                       refine GL.pure rfl (p_move rfl) ?_
                                       refine GL.pureG (s := 77) rfl rfl rfl (p_move rfl) ?_
                                       refine GL.pureG (s := 77) rfl rfl rfl (p_eql rfl rfl) ?_
                                       refine GL.pureG (s := 77) rfl rfl rfl (p_move rfl) ?_
                                       refine GL.pureG (s := 77) rfl rfl rfl (p_gtr rfl rfl) ?_
                                       refine GL.pureG (s := 77) rfl rfl rfl (p_beql Try.underlying4 rfl rfl) ?_
                                       refine GL.pure rfl (p_pick_true rfl rfl) ?_
                                       refine GL.pure rfl (p_move rfl) ?_
                                       refine GL.split (i := 84) rfl (fun h28 => ?_) (fun h28 => ?_)
                                       · try simp only [decide_eq_true_eq, decide_eq_false_iff_not, Bool.not_eq_true', Bool.not_eq_false', Bool.not_true, Bool.not_false, Bool.not_not, ne_eq, Decidable.not_not, Int.not_lt, Int.not_le, gt_iff_lt, ge_iff_le, bool_true_eq_, bool_false_eq_] at h28
                                         first
                                         | (exfalso; first | omega | (simp at h28; omega))
                                         | (skip
                                            refine GL.pureG (s := 84) rfl rfl rfl (p_move rfl) ?_
                                            refine GL.stepG rfl (s := 84) rfl rfl (t_call rfl fn_13 rfl (is := [0, 0]) (js := [0]) rfl rfl (by exact len_eq _ _ _ _ _ 64 (fullT_len64))) (GL.ret ?_)
                                            rintro _ _ _ ⟨rfl, rfl, rfl⟩
                                            refine GL.pureG (s := 84) rfl rfl rfl (p_eql rfl rfl) ?_
                                            refine GL.pure rfl (p_pick_true rfl rfl) ?_
                                            refine GL.pure rfl (p_assign rfl) ?_
                                            refine GL.nil (?_ : GC _ _ _ _)
                                            refine GC.ret ?_
                                            refine fun a w h => Fin.back (rs := [.tmp 4]) (vs := [_]) (is := []) (js := []) rfl ⟨rfl, trivial⟩ rfl rfl ?_ h
                                            clear h
                                            exact ⟨rfl, rfl, rfl⟩)
                                       · try simp only [decide_eq_true_eq, decide_eq_false_iff_not, Bool.not_eq_true', Bool.not_eq_false', Bool.not_true, Bool.not_false, Bool.not_not, ne_eq, Decidable.not_not, Int.not_lt, Int.not_le, gt_iff_lt, ge_iff_le, bool_true_eq_, bool_false_eq_] at h28
                                         first
                                         | (exfalso; first | omega | (simp at h28; omega))
                                         | (skip
                                            refine GL.pass (s := 84) rfl rfl rfl ?_
                                            refine GL.pass (s := 84) rfl rfl rfl ?_
                                            refine GL.pass (s := 84) rfl rfl rfl ?_
                                            refine GL.pure rfl (p_pick_false rfl rfl) ?_
                                            refine GL.pure rfl (p_assign rfl) ?_
                                            refine GL.nil (?_ : GC _ _ _ _)
                                            refine GC.ret ?_
                                            refine fun a w h => Fin.back (rs := [.tmp 4]) (vs := [_]) (is := []) (js := []) rfl ⟨rfl, trivial⟩ rfl rfl ?_ h
                                            clear h
                                            exact ⟨rfl, rfl, rfl⟩)))))))
       · skip
         refine GL.step rfl (t_call rfl fn_11 rfl (is := [0, 0]) (js := [1]) rfl rfl (by exact ask_eq _ _ _ _ (fullT 64) _ _ (fullT_ok 64) 3 rz 0 (full_less hk hd he))) (GL.ret ?_)
         rintro _ _ _ ⟨A28, cp28, l28, m28, rfl, rfl, rfl⟩
         refine GL.pure rfl (p_move rfl) ?_
         refine GL.pure rfl (p_extract rfl rfl) ?_
         refine GL.pure rfl (p_extract rfl rfl) ?_
         refine GL.pure rfl (p_extract rfl rfl) ?_
         refine GL.step rfl (t_alloc rfl ze_29) (GL.ex fun b_t8 => ?_)
         refine GL.pure rfl (p_assign rfl) ?_
         refine GL.step rfl (t_storeN (i := 0) rfl rfl rfl sz_29 rfl rfl rfl) ?_
         refine GL.pure rfl (p_assign rfl) ?_
         refine GL.nil (?_ : GC _ _ _ _)
         refine GC.seq' ?_
         refine GC.region ?_
         refine GL.pure rfl (p_move rfl) ?_
         refine GL.pure rfl (p_move rfl) ?_
         refine GL.pure rfl (p_move rfl) ?_
         refine GL.pure rfl (p_build ze_29 of_29 rfl rfl) ?_
         refine GL.step rfl (t_call rfl fn_10 rfl (is := [1, 1]) (js := [2, 1]) rfl rfl (by exact put_eq _ _ _ _ (fullT 64) _ _ (⟨2, []⟩ : Res) none 0 (fullT_ok 64) 1 (fullT 64) (full_put_old hk hd (by omega)))) (GL.ret ?_)
         rintro _ _ _ ⟨es36, ck36, rfl, rfl, rfl⟩
         refine GL.pure rfl (p_assign rfl) ?_
         refine GL.nil (?_ : GC _ _ _ _)
         refine GC.seq' ?_
         refine GC.seq' ?_
         refine GC.region ?_
         refine GL.pure rfl (p_move rfl) ?_
         refine GL.pure rfl (p_lss rfl rfl) ?_
         refine GL.pure rfl (p_move rfl) ?_
         refine GL.split (i := 39) rfl (fun h29 => ?_) (fun h29 => ?_)
         · try simp only [decide_eq_true_eq, decide_eq_false_iff_not, Bool.not_eq_true', Bool.not_eq_false', Bool.not_true, Bool.not_false, Bool.not_not, ne_eq, Decidable.not_not, Int.not_lt, Int.not_le, gt_iff_lt, ge_iff_le, bool_true_eq_, bool_false_eq_] at h29
           first
           | (exfalso; first | omega | (simp at h29; omega))
           | (skip
              refine GL.pass (s := 39) rfl rfl rfl ?_
              refine GL.pass (s := 39) rfl rfl rfl ?_
              refine GL.pure rfl (p_pick_true rfl rfl) ?_
              refine GL.pure rfl (p_move rfl) ?_
              refine GL.pass (s := 43) rfl rfl rfl ?_
              refine GL.pass (s := 43) rfl rfl rfl ?_
              refine GL.pure rfl (p_pick_true rfl rfl) ?_
              refine GL.pure rfl (p_move rfl) ?_
              refine GL.pass (s := 47) rfl rfl rfl ?_
              refine GL.pass (s := 47) rfl rfl rfl ?_
              refine GL.pure rfl (p_pick_true rfl rfl) ?_
              refine GL.nil (?_ : GC _ _ _ _)
              refine GC.cond_true rfl ?_
              refine GC.seq' ?_
              refine GC.region ?_
              refine GL.pure rfl (p_move rfl) ?_
              refine GL.pure rfl (p_eql rfl rfl) ?_
              refine GL.pure rfl (p_move rfl) ?_
              refine GL.pass (s := 53) rfl rfl rfl ?_
              refine GL.pass (s := 53) rfl rfl rfl ?_
              refine GL.pure rfl (p_pick_false rfl rfl) ?_
              refine GL.pure rfl (p_assign rfl) ?_
              refine GL.nil (?_ : GC _ _ _ _)
              refine GC.ret ?_
              refine fun a w h => Fin.back (rs := [.tmp 4]) (vs := [_]) (is := []) (js := []) rfl ⟨rfl, trivial⟩ rfl rfl ?_ h
              clear h
              exact ⟨rfl, rfl, rfl⟩)
         · try simp only [decide_eq_true_eq, decide_eq_false_iff_not, Bool.not_eq_true', Bool.not_eq_false', Bool.not_true, Bool.not_false, Bool.not_not, ne_eq, Decidable.not_not, Int.not_lt, Int.not_le, gt_iff_lt, ge_iff_le, bool_true_eq_, bool_false_eq_] at h29
           first
           | (exfalso; first | omega | (simp at h29; omega))
           | (skip
              refine GL.pureG (s := 39) rfl rfl rfl (p_move rfl) ?_
              refine GL.pureG (s := 39) rfl rfl rfl (p_lss rfl rfl) ?_
              refine GL.pure rfl (p_pick_false rfl rfl) ?_
              refine GL.pure rfl (p_move rfl) ?_
              refine GL.split (i := 43) rfl (fun h30 => ?_) (fun h30 => ?_)
              · try simp only [decide_eq_true_eq, decide_eq_false_iff_not, Bool.not_eq_true', Bool.not_eq_false', Bool.not_true, Bool.not_false, Bool.not_not, ne_eq, Decidable.not_not, Int.not_lt, Int.not_le, gt_iff_lt, ge_iff_le, bool_true_eq_, bool_false_eq_] at h30
                first
                | (exfalso; first | omega | (simp at h30; omega))
                | (skip
                   refine GL.pass (s := 43) rfl rfl rfl ?_
                   refine GL.pass (s := 43) rfl rfl rfl ?_
                   refine GL.pure rfl (p_pick_true rfl rfl) ?_
                   refine GL.pure rfl (p_move rfl) ?_
                   refine GL.pass (s := 47) rfl rfl rfl ?_
                   refine GL.pass (s := 47) rfl rfl rfl ?_
                   refine GL.pure rfl (p_pick_true rfl rfl) ?_
                   refine GL.nil (?_ : GC _ _ _ _)
                   refine GC.cond_true rfl ?_
                   refine GC.seq' ?_
                   refine GC.region ?_
                   refine GL.pure rfl (p_move rfl) ?_
                   refine GL.pure rfl (p_eql rfl rfl) ?_
                   refine GL.pure rfl (p_move rfl) ?_
                   refine GL.pass (s := 53) rfl rfl rfl ?_
                   refine GL.pass (s := 53) rfl rfl rfl ?_
                   refine GL.pure rfl (p_pick_false rfl rfl) ?_
                   refine GL.pure rfl (p_assign rfl) ?_
                   refine GL.nil (?_ : GC _ _ _ _)
                   refine GC.ret ?_
                   refine fun a w h => Fin.back (rs := [.tmp 4]) (vs := [_]) (is := []) (js := []) rfl ⟨rfl, trivial⟩ rfl rfl ?_ h
                   clear h
                   exact ⟨rfl, rfl, rfl⟩)
              · try simp only [decide_eq_true_eq, decide_eq_false_iff_not, Bool.not_eq_true', Bool.not_eq_false', Bool.not_true, Bool.not_false, Bool.not_not, ne_eq, Decidable.not_not, Int.not_lt, Int.not_le, gt_iff_lt, ge_iff_le, bool_true_eq_, bool_false_eq_] at h30
                first
                | (exfalso; first | omega | (simp at h30; omega))
                | (skip
                   refine GL.pureG (s := 43) rfl rfl rfl (p_move rfl) ?_
                   refine GL.pureG (s := 43) rfl rfl rfl (p_gtr rfl rfl) ?_
                   refine GL.pure rfl (p_pick_false rfl rfl) ?_
                   refine GL.pure rfl (p_move rfl) ?_
                   refine GL.split (i := 47) rfl (fun h31 => ?_) (fun h31 => ?_)
                   · try simp only [decide_eq_true_eq, decide_eq_false_iff_not, Bool.not_eq_true', Bool.not_eq_false', Bool.not_true, Bool.not_false, Bool.not_not, ne_eq, Decidable.not_not, Int.not_lt, Int.not_le, gt_iff_lt, ge_iff_le, bool_true_eq_, bool_false_eq_] at h31
                     first
                     | (exfalso; first | omega | (simp at h31; omega))
                     | (skip
                        refine GL.pass (s := 47) rfl rfl rfl ?_
                        refine GL.pass (s := 47) rfl rfl rfl ?_
                        refine GL.pure rfl (p_pick_true rfl rfl) ?_
                        refine GL.nil (?_ : GC _ _ _ _)
                        refine GC.cond_true rfl ?_
                        refine GC.seq' ?_
                        refine GC.region ?_
                        refine GL.pure rfl (p_move rfl) ?_
                        refine GL.pure rfl (p_eql rfl rfl) ?_
                        refine GL.pure rfl (p_move rfl) ?_
                        refine GL.pass (s := 53) rfl rfl rfl ?_
                        refine GL.pass (s := 53) rfl rfl rfl ?_
                        refine GL.pure rfl (p_pick_false rfl rfl) ?_
                        refine GL.pure rfl (p_assign rfl) ?_
                        refine GL.nil (?_ : GC _ _ _ _)
                        refine GC.ret ?_
                        refine fun a w h => Fin.back (rs := [.tmp 4]) (vs := [_]) (is := []) (js := []) rfl ⟨rfl, trivial⟩ rfl rfl ?_ h
                        clear h
                        exact ⟨rfl, rfl, rfl⟩)
                   · try simp only [decide_eq_true_eq, decide_eq_false_iff_not, Bool.not_eq_true', Bool.not_eq_false', Bool.not_true, Bool.not_false, Bool.not_not, ne_eq, Decidable.not_not, Int.not_lt, Int.not_le, gt_iff_lt, ge_iff_le, bool_true_eq_, bool_false_eq_] at h31
                     first
                     | (exfalso; first | omega | (simp at h31; omega))
                     | (skip
                        refine GL.pureG (s := 47) rfl rfl rfl (p_move rfl) ?_
                        refine GL.pureG (s := 47) rfl rfl rfl (p_gtr rfl rfl) ?_
                        refine GL.pure rfl (p_pick_false rfl rfl) ?_
                        refine GL.nil (?_ : GC _ _ _ _)
                        refine GC.cond rfl (fun h32 => ?_) (fun h32 => ?_)
                        · try simp only [decide_eq_true_eq, decide_eq_false_iff_not, Bool.not_eq_true', Bool.not_eq_false', Bool.not_true, Bool.not_false, Bool.not_not, ne_eq, Decidable.not_not, Int.not_lt, Int.not_le, gt_iff_lt, ge_iff_le, bool_true_eq_, bool_false_eq_] at h32
                          first
                          | (exfalso; first | omega | (simp at h32; omega))
                          | (skip
                             refine GC.seq' ?_
                             refine GC.region ?_
                             refine GL.pure rfl (p_move rfl) ?_
                             refine GL.pure rfl (p_eql rfl rfl) ?_
                             refine GL.pure rfl (p_move rfl) ?_
                             refine GL.pass (s := 53) rfl rfl rfl ?_
                             refine GL.pass (s := 53) rfl rfl rfl ?_
                             refine GL.pure rfl (p_pick_false rfl rfl) ?_
                             refine GL.pure rfl (p_assign rfl) ?_
                             refine GL.nil (?_ : GC _ _ _ _)
                             refine GC.ret ?_
                             refine fun a w h => Fin.back (rs := [.tmp 4]) (vs := [_]) (is := []) (js := []) rfl ⟨rfl, trivial⟩ rfl rfl ?_ h
                             clear h
                             exact ⟨rfl, rfl, rfl⟩)
                        · try simp only [decide_eq_true_eq, decide_eq_false_iff_not, Bool.not_eq_true', Bool.not_eq_false', Bool.not_true, Bool.not_false, Bool.not_not, ne_eq, Decidable.not_not, Int.not_lt, Int.not_le, gt_iff_lt, ge_iff_le, bool_true_eq_, bool_false_eq_] at h32
                          first
                          | (exfalso; first | omega | (simp at h32; omega))
                          | (skip
                             refine GC.skip (?_ : GC _ _ _ _)
                             refine GC.seq' ?_
                             refine GC.seq' ?_
                             refine GC.region ?_
                             refine GL.pure rfl (p_move rfl) ?_
                             refine GL.pure rfl (p_rem rfl rfl (by omega) (Int.tmod_eq_emod_of_nonneg (by omega))) ?_
                             refine GL.pure rfl (p_eql rfl rfl) ?_
                             refine GL.pure rfl (p_move rfl) ?_
                             refine GL.split (i := 60) rfl (fun h33 => ?_) (fun h33 => ?_)
                             · try simp only [decide_eq_true_eq, decide_eq_false_iff_not, Bool.not_eq_true', Bool.not_eq_false', Bool.not_true, Bool.not_false, Bool.not_not, ne_eq, Decidable.not_not, Int.not_lt, Int.not_le, gt_iff_lt, ge_iff_le, bool_true_eq_, bool_false_eq_] at h33
                               first
                               | (exfalso; first | omega | (simp at h33; omega))
                               | (skip
                                  refine GL.pass (s := 60) rfl rfl rfl ?_
                                  refine GL.pass (s := 60) rfl rfl rfl ?_
                                  refine GL.pure rfl (p_pick_true rfl rfl) ?_
                                  refine GL.nil (?_ : GC _ _ _ _)
                                  refine GC.cond_true rfl ?_
                                  refine GC.seq' ?_
                                  refine GC.region ?_
                                  refine GL.pure rfl (p_move rfl) ?_
                                  refine GL.pure rfl (p_eql rfl rfl) ?_
                                  refine GL.pure rfl (p_move rfl) ?_
                                  refine GL.pass (s := 66) rfl rfl rfl ?_
                                  refine GL.pass (s := 66) rfl rfl rfl ?_
                                  refine GL.pure rfl (p_pick_false rfl rfl) ?_
                                  refine GL.pure rfl (p_move rfl) ?_
                                  refine GL.pass (s := 70) rfl rfl rfl ?_
                                  refine GL.pass (s := 70) rfl rfl rfl ?_
                                  refine GL.pass (s := 70) rfl rfl rfl ?_
                                  refine GL.pure rfl (p_pick_false rfl rfl) ?_
                                  refine GL.pure rfl (p_assign rfl) ?_
                                  refine GL.nil (?_ : GC _ _ _ _)
                                  refine GC.ret ?_
                                  refine fun a w h => Fin.back (rs := [.tmp 4]) (vs := [_]) (is := []) (js := []) rfl ⟨rfl, trivial⟩ rfl rfl ?_ h
                                  clear h
                                  exact ⟨rfl, rfl, rfl⟩)
                             · try simp only [decide_eq_true_eq, decide_eq_false_iff_not, Bool.not_eq_true', Bool.not_eq_false', Bool.not_true, Bool.not_false, Bool.not_not, ne_eq, Decidable.not_not, Int.not_lt, Int.not_le, gt_iff_lt, ge_iff_le, bool_true_eq_, bool_false_eq_] at h33
                               first
                               | (exfalso; first | omega | (simp at h33; omega))
                               | (skip
                                  refine GL.pureG (s := 60) rfl rfl rfl (p_move rfl) ?_
                                  refine GL.pureG (s := 60) rfl rfl rfl (p_gtr rfl rfl) ?_
                                  refine GL.pure rfl (p_pick_false rfl rfl) ?_
                                  refine GL.nil (?_ : GC _ _ _ _)
                                  refine GC.cond rfl (fun h34 => ?_) (fun h34 => ?_)
                                  · try simp only [decide_eq_true_eq, decide_eq_false_iff_not, Bool.not_eq_true', Bool.not_eq_false', Bool.not_true, Bool.not_false, Bool.not_not, ne_eq, Decidable.not_not, Int.not_lt, Int.not_le, gt_iff_lt, ge_iff_le, bool_true_eq_, bool_false_eq_] at h34
                                    first
                                    | (exfalso; first | omega | (simp at h34; omega))
                                    | (skip
                                       refine GC.seq' ?_
                                       refine GC.region ?_
                                       refine GL.pure rfl (p_move rfl) ?_
                                       refine GL.pure rfl (p_eql rfl rfl) ?_
                                       refine GL.pure rfl (p_move rfl) ?_
                                       refine GL.pass (s := 66) rfl rfl rfl ?_
                                       refine GL.pass (s := 66) rfl rfl rfl ?_
                                       refine GL.pure rfl (p_pick_false rfl rfl) ?_
                                       refine GL.pure rfl (p_move rfl) ?_
                                       refine GL.pass (s := 70) rfl rfl rfl ?_
                                       refine GL.pass (s := 70) rfl rfl rfl ?_
                                       refine GL.pass (s := 70) rfl rfl rfl ?_
                                       refine GL.pure rfl (p_pick_false rfl rfl) ?_
                                       refine GL.pure rfl (p_assign rfl) ?_
                                       refine GL.nil (?_ : GC _ _ _ _)
                                       refine GC.ret ?_
                                       refine fun a w h => Fin.back (rs := [.tmp 4]) (vs := [_]) (is := []) (js := []) rfl ⟨rfl, trivial⟩ rfl rfl ?_ h
                                       clear h
                                       exact ⟨rfl, rfl, rfl⟩)
                                  · try simp only [decide_eq_true_eq, decide_eq_false_iff_not, Bool.not_eq_true', Bool.not_eq_false', Bool.not_true, Bool.not_false, Bool.not_not, ne_eq, Decidable.not_not, Int.not_lt, Int.not_le, gt_iff_lt, ge_iff_le, bool_true_eq_, bool_false_eq_] at h34
                                    first
                                    | (exfalso; first | omega | (simp at h34; omega))
                                    | (skip
                                       refine GC.skip (?_ : GC _ _ _ _)
                                       refine GC.seq' ?_
                                       refine GC.region ?_
                                       refine GL.pure rfl (p_move rfl) ?_
                                       refine GL.pure rfl (p_neq rfl rfl) ?_
                                       refine GL.pure rfl (p_move rfl) ?_
                                       refine GL.pureG (s := 77) rfl rfl rfl (p_move rfl) ?_
                                       refine GL.pureG (s := 77) rfl rfl rfl (p_eql rfl rfl) ?_
                                       refine GL.pureG (s := 77) rfl rfl rfl (p_move rfl) ?_
                                       refine GL.pureG (s := 77) rfl rfl rfl (p_gtr rfl rfl) ?_
                                       refine GL.pureG (s := 77) rfl rfl rfl (p_beql Try.underlying4 rfl rfl) ?_
                                       refine GL.pure rfl (p_pick_true rfl rfl) ?_
                                       refine GL.pure rfl (p_move rfl) ?_
                                       refine GL.split (i := 84) rfl (fun h35 => ?_) (fun h35 => ?_)
                                       · try simp only [decide_eq_true_eq, decide_eq_false_iff_not, Bool.not_eq_true', Bool.not_eq_false', Bool.not_true, Bool.not_false, Bool.not_not, ne_eq, Decidable.not_not, Int.not_lt, Int.not_le, gt_iff_lt, ge_iff_le, bool_true_eq_, bool_false_eq_] at h35
                                         first
                                         | (exfalso; first | omega | (simp at h35; omega))
                                         | (skip
                                            refine GL.pureG (s := 84) rfl rfl rfl (p_move rfl) ?_
                                            refine GL.stepG rfl (s := 84) rfl rfl (t_call rfl fn_13 rfl (is := [0, 0]) (js := [0]) rfl rfl (by exact len_eq _ _ _ _ _ 64 (fullT_len64))) (GL.ret ?_)
                                            rintro _ _ _ ⟨rfl, rfl, rfl⟩
                                            refine GL.pureG (s := 84) rfl rfl rfl (p_eql rfl rfl) ?_
                                            refine GL.pure rfl (p_pick_true rfl rfl) ?_
                                            refine GL.pure rfl (p_assign rfl) ?_
                                            refine GL.nil (?_ : GC _ _ _ _)
                                            refine GC.ret ?_
                                            refine fun a w h => Fin.back (rs := [.tmp 4]) (vs := [_]) (is := []) (js := []) rfl ⟨rfl, trivial⟩ rfl rfl ?_ h
                                            clear h
                                            exact ⟨rfl, rfl, rfl⟩)
                                       · try simp only [decide_eq_true_eq, decide_eq_false_iff_not, Bool.not_eq_true', Bool.not_eq_false', Bool.not_true, Bool.not_false, Bool.not_not, ne_eq, Decidable.not_not, Int.not_lt, Int.not_le, gt_iff_lt, ge_iff_le, bool_true_eq_, bool_false_eq_] at h35
                                         first
                                         | (exfalso; first | omega | (simp at h35; omega))
                                         | (skip
                                            refine GL.pass (s := 84) rfl rfl rfl ?_
                                            refine GL.pass (s := 84) rfl rfl rfl ?_
                                            refine GL.pass (s := 84) rfl rfl rfl ?_
                                            refine GL.pure rfl (p_pick_false rfl rfl) ?_
                                            refine GL.pure rfl (p_assign rfl) ?_
                                            refine GL.nil (?_ : GC _ _ _ _)
                                            refine GC.ret ?_
                                            refine fun a w h => Fin.back (rs := [.tmp 4]) (vs := [_]) (is := []) (js := []) rfl ⟨rfl, trivial⟩ rfl rfl ?_ h
                                            clear h
                                            exact ⟨rfl, rfl, rfl⟩))))))))
end Go.Proofs.Ytipjpgjahmadiaa
