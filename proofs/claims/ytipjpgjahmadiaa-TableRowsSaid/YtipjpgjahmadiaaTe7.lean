/- THE TABLE: what any calls make of any table: the walk of the law. -/
import Derived.Test.YtipjpgjahmadiaaTe6
set_option linter.unusedVariables false
set_option linter.unusedSimpArgs false
set_option maxRecDepth 100000
namespace Go.Proofs.Ytipjpgjahmadiaa
open Go Go.Sx Go.Proofs
theorem begin_bad (A : Option Addr) (l : List Row) (cp : Nat) (hl : l.length ≤ 140737488355328) (hr : rightF l = false) : Ct Try.prog 16 [.slice A l.length cp] [] [Pers.row kRow A l] (fun u G Q => u = .tuple #[.pointer none, .pointer none, .bool true] ∧ G = [] ∧ Q = []) := by
  refine Ct.intro Try.func16 rfl rfl rfl (fun c hc => ?_)
  refine GC.seq' ?_
  refine GC.region ?_
  refine GL.pure rfl (p_assign rfl) ?_
  refine GL.pure rfl (p_assign rfl) ?_
  refine GL.pure rfl (p_assign rfl) ?_
  refine GL.nil (?_ : GC _ _ _ _)
  refine GC.seq' ?_
  refine GC.region ?_
  refine GL.pure rfl (p_move rfl) ?_
  refine GL.step rfl (t_call rfl fn_21 rfl (is := []) (js := [0]) rfl rfl (by exact load_bad _ _ _ (by first | assumption | omega) (by assumption))) (GL.ret ?_)
  rintro _ _ _ ⟨rfl, rfl, rfl⟩
  refine GL.pure rfl (p_move rfl) ?_
  refine GL.pure rfl (p_extract rfl rfl) ?_
  refine GL.pure rfl (p_extract rfl rfl) ?_
  refine GL.pure rfl (p_assign rfl) ?_
  refine GL.pure rfl (p_assign rfl) ?_
  refine GL.nil (?_ : GC _ _ _ _)
  refine GC.seq' ?_
  refine GC.region ?_
  refine GL.pure rfl (p_move rfl) ?_
  refine GL.step rfl (t_call rfl fn_30 rfl (is := []) (js := [0]) rfl rfl (by exact rload_bad _ _ _ (by first | assumption | omega) (by assumption))) (GL.ret ?_)
  rintro _ _ _ ⟨rfl, rfl, rfl⟩
  refine GL.pure rfl (p_move rfl) ?_
  refine GL.pure rfl (p_extract rfl rfl) ?_
  refine GL.pure rfl (p_extract rfl rfl) ?_
  refine GL.pure rfl (p_assign rfl) ?_
  refine GL.pure rfl (p_assign rfl) ?_
  refine GL.nil (?_ : GC _ _ _ _)
  refine GC.seq' ?_
  refine GC.region ?_
  refine GL.pure rfl (p_move rfl) ?_
  refine GL.pure rfl (p_move rfl) ?_
  refine GL.pure rfl (p_move rfl) ?_
  refine GL.pure rfl (p_move rfl) ?_
  refine GL.pure rfl (p_eql rfl rfl) ?_
  refine GL.pure rfl (p_move rfl) ?_
  refine GL.pureG (s := 24) rfl rfl rfl (p_move rfl) ?_
  refine GL.pureG (s := 24) rfl rfl rfl (p_pnil_eql Try.underlying24 rfl rfl) ?_
  refine GL.pureG (s := 24) rfl rfl rfl (p_move rfl) ?_
  refine GL.pureG (s := 24) rfl rfl rfl (p_pnil_eql Try.underlying50 rfl rfl) ?_
  refine GL.pureG (s := 24) rfl rfl rfl (p_beql Try.underlying4 rfl rfl) ?_
  refine GL.pure rfl (p_pick_true rfl rfl) ?_
  refine GL.pure rfl (p_assign rfl) ?_
  refine GL.pure rfl (p_assign rfl) ?_
  refine GL.pure rfl (p_assign rfl) ?_
  refine GL.nil (?_ : GC _ _ _ _)
  refine GC.ret ?_
  refine fun a w h => Fin.back (rs := [.tmp 2, .tmp 3, .tmp 4]) (vs := [_, _, _]) (is := []) (js := []) rfl ⟨rfl, rfl, rfl, trivial⟩ rfl rfl ?_ h
  clear h
  exact ⟨rfl, rfl, rfl⟩
theorem begin_ok (A : Option Addr) (l : List Row) (cp : Nat) (hl : l.length ≤ 140737488355328) (hr : rightF l = true) : Ct Try.prog 16 [.slice A l.length cp] [] [Pers.row kRow A l]
    (fun u G Q => ∃ p m es ck rp B cq, l.length ≤ cq ∧ cq ≤ 9223372036854775807 ∧ u = .tuple #[.pointer (some ⟨p, 0, none⟩), .pointer (some ⟨rp, 0, none⟩), .bool true] ∧ G = tabG p m es ck ++ rtG rp B l.length cq ∧ Q = [Pers.map kLast true (tabOf l) es ck, Pers.row kRow B l]) := by
  refine Ct.intro Try.func16 rfl rfl rfl (fun c hc => ?_)
  refine GC.seq' ?_
  refine GC.region ?_
  refine GL.pure rfl (p_assign rfl) ?_
  refine GL.pure rfl (p_assign rfl) ?_
  refine GL.pure rfl (p_assign rfl) ?_
  refine GL.nil (?_ : GC _ _ _ _)
  refine GC.seq' ?_
  refine GC.region ?_
  refine GL.pure rfl (p_move rfl) ?_
  refine GL.step rfl (t_call rfl fn_21 rfl (is := []) (js := [0]) rfl rfl (by exact load_ok _ _ _ (by first | assumption | omega) (by assumption))) (GL.ret ?_)
  rintro _ _ _ ⟨p11, m11, es11, ck11, rfl, rfl, rfl⟩
  refine GL.pure rfl (p_move rfl) ?_
  refine GL.pure rfl (p_extract rfl rfl) ?_
  refine GL.pure rfl (p_extract rfl rfl) ?_
  refine GL.pure rfl (p_assign rfl) ?_
  refine GL.pure rfl (p_assign rfl) ?_
  refine GL.nil (?_ : GC _ _ _ _)
  refine GC.seq' ?_
  refine GC.region ?_
  refine GL.pure rfl (p_move rfl) ?_
  refine GL.step rfl (t_call rfl fn_30 rfl (is := []) (js := [1]) rfl rfl (by exact rload_ok _ _ _ (by first | assumption | omega) (by assumption))) (GL.ret ?_)
  rintro _ _ _ ⟨p16, A16, cp16, lc16, kc16, rfl, rfl, rfl⟩
  refine GL.pure rfl (p_move rfl) ?_
  refine GL.pure rfl (p_extract rfl rfl) ?_
  refine GL.pure rfl (p_extract rfl rfl) ?_
  refine GL.pure rfl (p_assign rfl) ?_
  refine GL.pure rfl (p_assign rfl) ?_
  refine GL.nil (?_ : GC _ _ _ _)
  refine GC.seq' ?_
  refine GC.region ?_
  refine GL.pure rfl (p_move rfl) ?_
  refine GL.pure rfl (p_move rfl) ?_
  refine GL.pure rfl (p_move rfl) ?_
  refine GL.pure rfl (p_move rfl) ?_
  refine GL.pure rfl (p_eql rfl rfl) ?_
  refine GL.pure rfl (p_move rfl) ?_
  refine GL.pureG (s := 24) rfl rfl rfl (p_move rfl) ?_
  refine GL.pureG (s := 24) rfl rfl rfl (p_pnil_eql Try.underlying24 rfl rfl) ?_
  refine GL.pureG (s := 24) rfl rfl rfl (p_move rfl) ?_
  refine GL.pureG (s := 24) rfl rfl rfl (p_pnil_eql Try.underlying50 rfl rfl) ?_
  refine GL.pureG (s := 24) rfl rfl rfl (p_beql Try.underlying4 rfl rfl) ?_
  refine GL.pure rfl (p_pick_true rfl rfl) ?_
  refine GL.pure rfl (p_assign rfl) ?_
  refine GL.pure rfl (p_assign rfl) ?_
  refine GL.pure rfl (p_assign rfl) ?_
  refine GL.nil (?_ : GC _ _ _ _)
  refine GC.ret ?_
  refine fun a w h => Fin.back (rs := [.tmp 2, .tmp 3, .tmp 4]) (vs := [_, _, _]) (is := [1, 1, 0]) (js := [1, 0]) rfl ⟨rfl, rfl, rfl, trivial⟩ rfl rfl ?_ h
  clear h
  exact ⟨_, _, _, _, _, _, _, lc16, kc16, rfl, rfl, rfl⟩
theorem tableRuns_ct (A : Option Addr) (l : List Row) (cp : Nat) (B : Option Addr) (calls : List TCall) (cq : Nat) (hl : l.length ≤ 140737488351232) (hl2 : calls.length ≤ 140737488351232) :
    Ct Try.prog 6 [.slice A l.length cp, .slice B calls.length cq] [] [Pers.row kRow A l, Pers.row kTCall B calls] (fun u G Q => u = .bool true ∧ G = [] ∧ Q = []) := by
  by_cases hr : rightF l = true
  · have hb0 := Both.of hr
    refine Ct.intro Try.func6 rfl rfl rfl (fun c hc => ?_)
    refine GC.seq' ?_
    refine GC.region ?_
    refine GL.pure rfl (p_assign rfl) ?_
    refine GL.nil (?_ : GC _ _ _ _)
    refine GC.seq' ?_
    refine GC.seq' ?_
    refine GC.region ?_
    refine GL.step rfl (t_call rfl fn_8 rfl (is := []) (js := []) rfl rfl (by exact awake_ct)) (GL.ret ?_)
    rintro _ _ _ ⟨rfl, rfl, rfl⟩
    refine GL.pure rfl (p_not rfl) ?_
    refine GL.nil (?_ : GC _ _ _ _)
    refine GC.cond_false rfl ?_
    refine GC.skip (?_ : GC _ _ _ _)
    refine GC.seq' ?_
    refine GC.region ?_
    refine GL.pure rfl (p_move rfl) ?_
    refine GL.step rfl (t_call rfl fn_16 rfl (is := []) (js := [0]) rfl rfl (by exact begin_ok _ _ _ (by first | assumption | omega) (by assumption))) (GL.ret ?_)
    rintro _ _ _ ⟨p17, m17, es17, ck17, rp17, B17, cq17, lc17, kc17, rfl, rfl, rfl⟩
    refine GL.pure rfl (p_move rfl) ?_
    refine GL.pure rfl (p_extract rfl rfl) ?_
    refine GL.pure rfl (p_extract rfl rfl) ?_
    refine GL.pure rfl (p_extract rfl rfl) ?_
    refine GL.pure rfl (p_assign rfl) ?_
    refine GL.pure rfl (p_assign rfl) ?_
    refine GL.pure rfl (p_assign rfl) ?_
    refine GL.nil (?_ : GC _ _ _ _)
    refine GC.seq' ?_
    refine GC.seq' ?_
    refine GC.region ?_
    refine GL.pure rfl (p_move rfl) ?_
    refine GL.pure rfl (p_not rfl) ?_
    refine GL.pure rfl (p_move rfl) ?_
    refine GL.pureG (s := 23) rfl rfl rfl (p_move rfl) ?_
    refine GL.pureG (s := 23) rfl rfl rfl (p_pnil_eql Try.underlying50 rfl rfl) ?_
    refine GL.pure rfl (p_pick_false rfl rfl) ?_
    refine GL.nil (?_ : GC _ _ _ _)
    refine GC.cond_false rfl ?_
    refine GC.skip (?_ : GC _ _ _ _)
    refine GC.seq' ?_
    refine GC.seq' ?_
    refine GC.region ?_
    refine GL.pure rfl (p_assign rfl) ?_
    refine GL.nil (?_ : GC _ _ _ _)
    refine GC.block ?_
    refine GC.loopK7 (ks := [1, 5, 6]) (is := []) (js := [0, 1, 2, 3]) (fun (k : Nat) (T : List (Int × Last)) (L : List Row) (es : Array MapEntry) (ck : Nat) (A1 : Option Addr) (cp1 : Nat) => k ≤ 200 ∧ Both T L ∧ L.length ≤ cp1 ∧ cp1 ≤ 9223372036854775807) (fun (k : Nat) (T : List (Int × Last)) (L : List Row) (es : Array MapEntry) (ck : Nat) (A1 : Option Addr) (cp1 : Nat) => [(8, .int .i64 (k : Int))]) (fun (k : Nat) (T : List (Int × Last)) (L : List Row) (es : Array MapEntry) (ck : Nat) (A1 : Option Addr) (cp1 : Nat) => [.cells p17 [.map (some m17)] 43, .blk m17 (.map es ck), .cells rp17 [.slice A1 L.length cp1] 55]) (fun (k : Nat) (T : List (Int × Last)) (L : List Row) (es : Array MapEntry) (ck : Nat) (A1 : Option Addr) (cp1 : Nat) => [Pers.map kLast true T es ck, Pers.row kRow A1 L]) (fun (k : Nat) (T : List (Int × Last)) (L : List Row) (es : Array MapEntry) (ck : Nat) (A1 : Option Addr) (cp1 : Nat) => 200 - k) (0) (_) (_) (_) (_) (_) (_) rfl rfl rfl (fun a w h => ⟨⟨by omega, hb0, lc17, kc17⟩, h.cutK (is := [0, 0, 0]) (js := [0, 1, 0, 1, 2, 3]) (ks := [1, 5, 6]) (by exact ⟨rfl, trivial⟩) rfl rfl rfl⟩) ?_
    intro k T L es ck A1 cp1 hk
    try dsimp only [List.cons_append, List.nil_append] at hk ⊢
    obtain ⟨hk, hb, hc1, hc2⟩ := hk
    refine GC.seq' ?_
    refine GC.seq' ?_
    refine GC.region ?_
    refine GL.pure rfl (p_move rfl) ?_
    refine GL.pure rfl (p_move rfl) ?_
    refine GL.pure rfl (p_len Try.underlying22 rfl) ?_
    refine GL.pure rfl (p_lss rfl rfl) ?_
    refine GL.pure rfl (p_move rfl) ?_
    refine GL.split (i := 32) rfl (fun h1 => ?_) (fun h1 => ?_)
    · try simp only [decide_eq_true_eq, decide_eq_false_iff_not, Bool.not_eq_true', Bool.not_eq_false', Bool.not_true, Bool.not_false, Bool.not_not, ne_eq, Decidable.not_not, Int.not_lt, Int.not_le, gt_iff_lt, ge_iff_le, bool_true_eq_, bool_false_eq_] at h1
      first
      | (exfalso; first | omega | (simp at h1; done) | exact h1 (by rw [hb2.last]) | (rw [hb2.last] at h1; simp at h1; done))
      | (skip
         refine GL.pureG (s := 32) rfl rfl rfl (p_move rfl) ?_
         refine GL.pureG (s := 32) rfl rfl rfl (p_lss rfl rfl) ?_
         refine GL.pure rfl (p_pick_true rfl rfl) ?_
         refine GL.nil (?_ : GC _ _ _ _)
         refine GC.cond rfl (fun h2 => ?_) (fun h2 => ?_)
         · try simp only [decide_eq_true_eq, decide_eq_false_iff_not, Bool.not_eq_true', Bool.not_eq_false', Bool.not_true, Bool.not_false, Bool.not_not, ne_eq, Decidable.not_not, Int.not_lt, Int.not_le, gt_iff_lt, ge_iff_le, bool_true_eq_, bool_false_eq_] at h2
           first
           | (exfalso; first | omega | (simp at h2; done) | exact h2 (by rw [hb2.last]) | (rw [hb2.last] at h2; simp at h2; done))
           | (skip
              refine GC.skip (?_ : GC _ _ _ _)
              refine GC.seq' ?_
              refine GC.block ?_
              refine GC.seq' ?_
              refine GC.seq' ?_
              have hb2 := hb.step (gt calls (k : Int))
              refine GC.lay (x := .tmp 1) (y := .tmp 8) (j := 5) rfl rfl rfl (by omega) (gt_ok (by omega) (by omega)) (fun p_x42 r_x42 hA_x42 ok_x42 => ?_)
              rcases r_x42 with ⟨_, ⟨_, ⟨_, ⟨_, ⟨Ax42_0, cpx42_0⟩⟩⟩⟩⟩
              refine GC.regionC (m := 18) (is := []) (js := [0, 1, 2, 3, 4, 5, 6, 7]) wide_ rfl rfl rfl ?_
              refine GA.take 0 rfl (by kernel_rfl) (by kernel_rfl) (by kernel_rfl) rfl (fun a w h => h.mem (is := []) (js := [0, 1, 2, 3, 4, 5, 6, 7]) rfl rfl) (i_pure (p_move rfl)) ?_
              refine GA.take 1 rfl (by kernel_rfl) (by kernel_rfl) (by kernel_rfl) rfl (fun a w h => h.mem (is := []) (js := [0, 1, 2, 3, 4, 5, 6, 7]) rfl rfl) (i_pure (p_move rfl)) ?_
              refine GA.take 2 rfl (by kernel_rfl) (by kernel_rfl) (by kernel_rfl) rfl (fun a w h => h.mem (is := []) (js := [0, 1, 2, 3, 4, 5, 6, 7]) rfl rfl) (i_pure (p_move rfl)) ?_
              refine GA.take 3 rfl (by kernel_rfl) (by kernel_rfl) (by kernel_rfl) rfl (fun a w h => h.mem (is := []) (js := [0, 1, 2, 3, 4, 5, 6, 7]) rfl rfl) (i_pure (p_move rfl)) ?_
              refine GA.take 4 rfl (by kernel_rfl) (by kernel_rfl) (by kernel_rfl) rfl (fun a w h => h.mem (is := []) (js := [0, 1, 2, 3, 4, 5, 6, 7]) rfl rfl) (i_pure (p_indexL hA_x42 rfl rfl Try.underlying22 sz_31 (by omega) (by omega))) ?_
              refine GA.take 5 rfl (by kernel_rfl) (by kernel_rfl) (by kernel_rfl) rfl (fun a w h => h.mem (is := []) (js := [0, 1, 2, 3, 4, 5, 6, 7]) rfl rfl) (i_mem (m_loadPN (i := 0) rfl rfl ag_31 (vs := [_, _, _, _, _]) sz_31 ⟨rfl, rfl, rfl, rfl, rfl, trivial⟩)) ?_
              refine GA.all (rs := [6]) (by kernel_rfl) (by simp) ?_
              refine GAs.cons (i := 6) rfl rfl (t_call rfl fn_17 rfl (is := [0, 0, 0]) (js := [2, 3, 1]) rfl rfl (by exact step_ct _ _ _ _ _ _ _ T L (gt calls (k : Int)) _ _ hb hc1 hc2 ok_x42.2.2.2.2.1 ok_x42.2.2.2.2.2)) (by rintro a w ⟨_, _, _, ⟨es44, ck44, B44, cq44, lc44, kc44, rfl, rfl, rfl⟩, h⟩; exact h.mem (is := []) (js := [2, 3, 4, 5, 6, 7, 8, 9]) rfl rfl) (GA.ret ?_) ?_
              · rintro _ _ _ ⟨es44, ck44, B44, cq44, lc44, kc44, rfl, rfl, rfl⟩
                refine GA.take 7 rfl (by kernel_rfl) (by kernel_rfl) (by kernel_rfl) rfl (fun a w h => h.mem (is := []) (js := [2, 3, 4, 5, 6, 7, 8, 9]) rfl rfl) (i_pure (p_not rfl)) ?_
                refine GA.take 8 rfl (by kernel_rfl) (by kernel_rfl) (by kernel_rfl) rfl (fun a w h => h.mem (is := []) (js := [2, 3, 4, 5, 6, 7, 8, 9]) rfl rfl) (i_pure (p_move rfl)) ?_
                refine GA.takeG (s := 46) 9 rfl rfl rfl (by kernel_rfl) (by kernel_rfl) (by kernel_rfl) rfl (fun a w h => h.mem (is := []) (js := [2, 3, 4, 5, 6, 7, 8, 9]) rfl rfl) (i_pure (p_move rfl)) ?_
                refine GA.takeG (s := 46) 11 rfl rfl rfl (by kernel_rfl) (by kernel_rfl) (by kernel_rfl) rfl (fun a w h => h.mem (is := []) (js := [2, 3, 4, 5, 6, 7, 8, 9]) rfl rfl) (i_pure (p_move rfl)) ?_
                refine GA.takeG (s := 46) 12 rfl rfl rfl (by kernel_rfl) (by kernel_rfl) (by kernel_rfl) rfl (fun a w h => h.mem (is := []) (js := [2, 3, 4, 5, 6, 7, 8, 9]) rfl rfl) (i_pure (p_nilCheck rfl)) ?_
                refine GA.takeG (s := 46) 13 rfl rfl rfl (by kernel_rfl) (by kernel_rfl) (by kernel_rfl) rfl (fun a w h => h.mem (is := []) (js := [2, 3, 4, 5, 6, 7, 8, 9]) rfl rfl) (i_pure (p_fieldAddr fo_55_0 rfl)) ?_
                refine GA.all (rs := [10, 14]) (by kernel_rfl) (by simp) ?_
                refine GAs.consG (i := 10) (s := 46) rfl rfl rfl rfl (t_call rfl fn_13 rfl (is := [0, 0]) (js := [0]) rfl rfl (by exact len_eq _ _ _ _ (tStep T (gt calls (k : Int))) ((lStep L (gt calls (k : Int))).length : Int) (by rw [hb2.len]))) (by rintro a w ⟨_, _, _, ⟨rfl, rfl, rfl⟩, h⟩; exact h.mem (is := []) (js := [2, 3, 4, 5, 6, 7, 8, 9]) rfl rfl) (GA.ret ?_) ?_
                · rintro _ _ _ ⟨rfl, rfl, rfl⟩
                  refine GA.all (rs := [14]) (by kernel_rfl) (by simp) ?_
                  refine GAs.consG (i := 14) (s := 46) rfl rfl rfl rfl (t_mem rfl (m_load (i := 2) rfl rfl ag_47 rfl)) (by rintro a w h; exact h.mem (is := []) (js := [2, 3, 4, 5, 6, 7, 8, 9]) rfl rfl) ?_ ?_
                  · refine GA.takeG (s := 46) 15 rfl rfl rfl (by kernel_rfl) (by kernel_rfl) (by kernel_rfl) rfl (fun a w h => h.mem (is := []) (js := [2, 3, 4, 5, 6, 7, 8, 9]) rfl rfl) (i_pure (p_len Try.underlying47 rfl)) ?_
                    refine GA.takeG (s := 46) 16 rfl rfl rfl (by kernel_rfl) (by kernel_rfl) (by kernel_rfl) rfl (fun a w h => h.mem (is := []) (js := [2, 3, 4, 5, 6, 7, 8, 9]) rfl rfl) (i_pure (p_neq rfl rfl)) ?_
                    refine GA.take 17 rfl (by kernel_rfl) (by kernel_rfl) (by kernel_rfl) rfl (fun a w h => h.mem (is := []) (js := [2, 3, 4, 5, 6, 7, 8, 9]) rfl rfl) (i_pure (p_pick_false rfl rfl)) ?_
                    refine GA.done (by kernel_rfl) (?_ : GC _ _ _ _)
                    refine GC.cond rfl (fun h3 => ?_) (fun h3 => ?_)
                    · try simp only [decide_eq_true_eq, decide_eq_false_iff_not, Bool.not_eq_true', Bool.not_eq_false', Bool.not_true, Bool.not_false, Bool.not_not, ne_eq, Decidable.not_not, Int.not_lt, Int.not_le, gt_iff_lt, ge_iff_le, bool_true_eq_, bool_false_eq_] at h3
                      first
                      | (exfalso; first | omega | (simp at h3; done) | exact h3 (by rw [hb2.last]) | (rw [hb2.last] at h3; simp at h3; done))
                      | (skip
                         refine GC.seq' ?_
                         refine GC.region ?_
                         refine GL.pure rfl (p_assign rfl) ?_
                         refine GL.nil (?_ : GC _ _ _ _)
                         refine GC.ret ?_
                         refine fun a w h => Fin.back (rs := [.tmp 4]) (vs := [_]) (is := []) (js := []) rfl ⟨rfl, trivial⟩ rfl rfl ?_ h
                         clear h
                         refine ⟨?_, rfl, rfl⟩
                         first | rfl | (show Value.bool _ = _; simp))
                    · try simp only [decide_eq_true_eq, decide_eq_false_iff_not, Bool.not_eq_true', Bool.not_eq_false', Bool.not_true, Bool.not_false, Bool.not_not, ne_eq, Decidable.not_not, Int.not_lt, Int.not_le, gt_iff_lt, ge_iff_le, bool_true_eq_, bool_false_eq_] at h3
                      first
                      | (exfalso; first | omega | (simp at h3; done) | exact h3 (by rw [hb2.last]) | (rw [hb2.last] at h3; simp at h3; done))
                      | (skip
                         refine GC.skip (?_ : GC _ _ _ _)
                         refine GC.seq' ?_
                         refine GC.region ?_
                         refine GL.pure rfl (p_move rfl) ?_
                         refine GL.pure rfl (p_move rfl) ?_
                         refine GL.pure rfl (p_move rfl) ?_
                         refine GL.step rfl (t_index (i := 9) rfl rfl rfl rfl Try.underlying22 sz_31 (by omega) (gt_ok (by omega) (by omega))) (GL.ex fun p_x60 => GL.ex fun r_x60 => GL.and fun ok_x60 => ?_)
                         rcases r_x60 with ⟨_, ⟨_, ⟨_, ⟨_, ⟨Ax60_0, cpx60_0⟩⟩⟩⟩⟩
                         refine GL.pure rfl (p_fieldAddr' fo_31_1 rfl) ?_
                         refine GL.step rfl (t_mem rfl (m_loadP (i := 0) rfl rfl ag_3 rfl)) ?_
                         refine GL.step rfl (t_call rfl fn_14 rfl (is := [0, 0]) (js := [2]) rfl rfl (by exact last_ct _ _ _ _ (tStep T (gt calls (k : Int))) _)) (GL.ret ?_)
                         rintro _ _ _ ⟨rfl, rfl, rfl⟩
                         refine GL.pure rfl (p_move rfl) ?_
                         refine GL.pure rfl (p_extract rfl rfl) ?_
                         refine GL.pure rfl (p_extract rfl rfl) ?_
                         refine GL.pure rfl (p_assign rfl) ?_
                         refine GL.pure rfl (p_assign rfl) ?_
                         refine GL.nil (?_ : GC _ _ _ _)
                         refine GC.seq' ?_
                         refine GC.region ?_
                         refine GL.pure rfl (p_move rfl) ?_
                         refine GL.pure rfl (p_move rfl) ?_
                         refine GL.pure rfl (p_move rfl) ?_
                         refine GL.step rfl (t_index (i := 11) rfl rfl rfl rfl Try.underlying22 sz_31 (by omega) (gt_ok (by omega) (by omega))) (GL.ex fun p_x70 => GL.ex fun r_x70 => GL.and fun ok_x70 => ?_)
                         rcases r_x70 with ⟨_, ⟨_, ⟨_, ⟨_, ⟨Ax70_0, cpx70_0⟩⟩⟩⟩⟩
                         refine GL.pure rfl (p_fieldAddr' fo_31_1 rfl) ?_
                         refine GL.step rfl (t_mem rfl (m_loadP (i := 0) rfl rfl ag_3 rfl)) ?_
                         refine GL.step rfl (t_call rfl fn_18 rfl (is := [2]) (js := [5]) rfl rfl (by exact rlast_ct _ _ (lStep L (gt calls (k : Int))) _ _ (by have := hb2.le; omega))) (GL.ret ?_)
                         rintro _ _ _ ⟨rfl, rfl, rfl⟩
                         refine GL.pure rfl (p_move rfl) ?_
                         refine GL.pure rfl (p_extract rfl rfl) ?_
                         refine GL.pure rfl (p_extract rfl rfl) ?_
                         refine GL.pure rfl (p_assign rfl) ?_
                         refine GL.pure rfl (p_assign rfl) ?_
                         refine GL.nil (?_ : GC _ _ _ _)
                         refine GC.seq' ?_
                         refine GC.region ?_
                         refine GL.pure rfl (p_move rfl) ?_
                         refine GL.pure rfl (p_move rfl) ?_
                         refine GL.pure rfl (p_neq rfl rfl) ?_
                         refine GL.pure rfl (p_move rfl) ?_
                         refine GL.split (i := 79) rfl (fun h4 => ?_) (fun h4 => ?_)
                         · try simp only [decide_eq_true_eq, decide_eq_false_iff_not, Bool.not_eq_true', Bool.not_eq_false', Bool.not_true, Bool.not_false, Bool.not_not, ne_eq, Decidable.not_not, Int.not_lt, Int.not_le, gt_iff_lt, ge_iff_le, bool_true_eq_, bool_false_eq_] at h4
                           first
                           | (exfalso; first | omega | (simp at h4; done) | exact h4 (by rw [hb2.last]) | (rw [hb2.last] at h4; simp at h4; done))
                           | (skip
                              refine GL.pass (s := 79) rfl rfl rfl ?_
                              refine GL.pass (s := 79) rfl rfl rfl ?_
                              refine GL.pass (s := 79) rfl rfl rfl ?_
                              refine GL.pure rfl (p_pick_true rfl rfl) ?_
                              refine GL.nil (?_ : GC _ _ _ _)
                              refine GC.cond_true rfl ?_
                              refine GC.seq' ?_
                              refine GC.region ?_
                              refine GL.pure rfl (p_assign rfl) ?_
                              refine GL.nil (?_ : GC _ _ _ _)
                              refine GC.ret ?_
                              refine fun a w h => Fin.back (rs := [.tmp 4]) (vs := [_]) (is := []) (js := []) rfl ⟨rfl, trivial⟩ rfl rfl ?_ h
                              clear h
                              refine ⟨?_, rfl, rfl⟩
                              first | rfl | (show Value.bool _ = _; simp))
                         · try simp only [decide_eq_true_eq, decide_eq_false_iff_not, Bool.not_eq_true', Bool.not_eq_false', Bool.not_true, Bool.not_false, Bool.not_not, ne_eq, Decidable.not_not, Int.not_lt, Int.not_le, gt_iff_lt, ge_iff_le, bool_true_eq_, bool_false_eq_] at h4
                           first
                           | (exfalso; first | omega | (simp at h4; done) | exact h4 (by rw [hb2.last]) | (rw [hb2.last] at h4; simp at h4; done))
                           | (skip
                              refine GL.pureG (s := 79) rfl rfl rfl (p_move rfl) ?_
                              refine GL.pureG (s := 79) rfl rfl rfl (p_move rfl) ?_
                              refine GL.pureG (s := 79) rfl rfl rfl (p_bneq Try.underlying4 rfl rfl) ?_
                              refine GL.pure rfl (p_pick_false rfl rfl) ?_
                              refine GL.nil (?_ : GC _ _ _ _)
                              refine GC.cond rfl (fun h5 => ?_) (fun h5 => ?_)
                              · try simp only [decide_eq_true_eq, decide_eq_false_iff_not, Bool.not_eq_true', Bool.not_eq_false', Bool.not_true, Bool.not_false, Bool.not_not, ne_eq, Decidable.not_not, Int.not_lt, Int.not_le, gt_iff_lt, ge_iff_le, bool_true_eq_, bool_false_eq_] at h5
                                first
                                | (exfalso; first | omega | (simp at h5; done) | exact h5 (by rw [hb2.last]) | (rw [hb2.last] at h5; simp at h5; done))
                                | (skip
                                   refine GC.seq' ?_
                                   refine GC.region ?_
                                   refine GL.pure rfl (p_assign rfl) ?_
                                   refine GL.nil (?_ : GC _ _ _ _)
                                   refine GC.ret ?_
                                   refine fun a w h => Fin.back (rs := [.tmp 4]) (vs := [_]) (is := []) (js := []) rfl ⟨rfl, trivial⟩ rfl rfl ?_ h
                                   clear h
                                   refine ⟨?_, rfl, rfl⟩
                                   first | rfl | (show Value.bool _ = _; simp))
                              · try simp only [decide_eq_true_eq, decide_eq_false_iff_not, Bool.not_eq_true', Bool.not_eq_false', Bool.not_true, Bool.not_false, Bool.not_not, ne_eq, Decidable.not_not, Int.not_lt, Int.not_le, gt_iff_lt, ge_iff_le, bool_true_eq_, bool_false_eq_] at h5
                                first
                                | (exfalso; first | omega | (simp at h5; done) | exact h5 (by rw [hb2.last]) | (rw [hb2.last] at h5; simp at h5; done))
                                | (skip
                                   refine GC.skip (?_ : GC _ _ _ _)
                                   refine GC.region ?_
                                   refine GL.pure rfl (p_move rfl) ?_
                                   refine GL.pure rfl (p_add rfl rfl (w64 (by omega) (by omega))) ?_
                                   refine GL.pure rfl (p_assign rfl) ?_
                                   refine GL.nil ?_
                                   exact fun a w h => ⟨(k + 1), (_), (_), (_), (_), (_), (_), (by omega), ⟨by omega, hb2, lc44, kc44⟩, h.cut (is := [1, 1, 0]) (js := [4, 5, 10, 11, 12, 13]) ⟨rfl, rfl, rfl, rfl, trivial⟩ rfl rfl⟩)))
                  exact GAs.nil
                refine GAs.consG (i := 14) (s := 46) rfl rfl rfl rfl (t_mem rfl (m_load (i := 2) rfl rfl ag_47 rfl)) (by rintro a w h; exact h.mem (is := []) (js := [2, 3, 4, 5, 6, 7, 8, 9]) rfl rfl) ?_ ?_
                · refine GA.takeG (s := 46) 15 rfl rfl rfl (by kernel_rfl) (by kernel_rfl) (by kernel_rfl) rfl (fun a w h => h.mem (is := []) (js := [2, 3, 4, 5, 6, 7, 8, 9]) rfl rfl) (i_pure (p_len Try.underlying47 rfl)) ?_
                  refine GA.all (rs := [10]) (by kernel_rfl) (by simp) ?_
                  refine GAs.consG (i := 10) (s := 46) rfl rfl rfl rfl (t_call rfl fn_13 rfl (is := [0, 0]) (js := [0]) rfl rfl (by exact len_eq _ _ _ _ (tStep T (gt calls (k : Int))) ((lStep L (gt calls (k : Int))).length : Int) (by rw [hb2.len]))) (by rintro a w ⟨_, _, _, ⟨rfl, rfl, rfl⟩, h⟩; exact h.mem (is := []) (js := [2, 3, 4, 5, 6, 7, 8, 9]) rfl rfl) (GA.ret ?_) ?_
                  · rintro _ _ _ ⟨rfl, rfl, rfl⟩
                    refine GA.takeG (s := 46) 16 rfl rfl rfl (by kernel_rfl) (by kernel_rfl) (by kernel_rfl) rfl (fun a w h => h.mem (is := []) (js := [2, 3, 4, 5, 6, 7, 8, 9]) rfl rfl) (i_pure (p_neq rfl rfl)) ?_
                    refine GA.take 17 rfl (by kernel_rfl) (by kernel_rfl) (by kernel_rfl) rfl (fun a w h => h.mem (is := []) (js := [2, 3, 4, 5, 6, 7, 8, 9]) rfl rfl) (i_pure (p_pick_false rfl rfl)) ?_
                    refine GA.done (by kernel_rfl) (?_ : GC _ _ _ _)
                    refine GC.cond rfl (fun h3 => ?_) (fun h3 => ?_)
                    · try simp only [decide_eq_true_eq, decide_eq_false_iff_not, Bool.not_eq_true', Bool.not_eq_false', Bool.not_true, Bool.not_false, Bool.not_not, ne_eq, Decidable.not_not, Int.not_lt, Int.not_le, gt_iff_lt, ge_iff_le, bool_true_eq_, bool_false_eq_] at h3
                      first
                      | (exfalso; first | omega | (simp at h3; done) | exact h3 (by rw [hb2.last]) | (rw [hb2.last] at h3; simp at h3; done))
                      | (skip
                         refine GC.seq' ?_
                         refine GC.region ?_
                         refine GL.pure rfl (p_assign rfl) ?_
                         refine GL.nil (?_ : GC _ _ _ _)
                         refine GC.ret ?_
                         refine fun a w h => Fin.back (rs := [.tmp 4]) (vs := [_]) (is := []) (js := []) rfl ⟨rfl, trivial⟩ rfl rfl ?_ h
                         clear h
                         refine ⟨?_, rfl, rfl⟩
                         first | rfl | (show Value.bool _ = _; simp))
                    · try simp only [decide_eq_true_eq, decide_eq_false_iff_not, Bool.not_eq_true', Bool.not_eq_false', Bool.not_true, Bool.not_false, Bool.not_not, ne_eq, Decidable.not_not, Int.not_lt, Int.not_le, gt_iff_lt, ge_iff_le, bool_true_eq_, bool_false_eq_] at h3
                      first
                      | (exfalso; first | omega | (simp at h3; done) | exact h3 (by rw [hb2.last]) | (rw [hb2.last] at h3; simp at h3; done))
                      | (skip
                         refine GC.skip (?_ : GC _ _ _ _)
                         refine GC.seq' ?_
                         refine GC.region ?_
                         refine GL.pure rfl (p_move rfl) ?_
                         refine GL.pure rfl (p_move rfl) ?_
                         refine GL.pure rfl (p_move rfl) ?_
                         refine GL.step rfl (t_index (i := 9) rfl rfl rfl rfl Try.underlying22 sz_31 (by omega) (gt_ok (by omega) (by omega))) (GL.ex fun p_x60 => GL.ex fun r_x60 => GL.and fun ok_x60 => ?_)
                         rcases r_x60 with ⟨_, ⟨_, ⟨_, ⟨_, ⟨Ax60_0, cpx60_0⟩⟩⟩⟩⟩
                         refine GL.pure rfl (p_fieldAddr' fo_31_1 rfl) ?_
                         refine GL.step rfl (t_mem rfl (m_loadP (i := 0) rfl rfl ag_3 rfl)) ?_
                         refine GL.step rfl (t_call rfl fn_14 rfl (is := [0, 0]) (js := [2]) rfl rfl (by exact last_ct _ _ _ _ (tStep T (gt calls (k : Int))) _)) (GL.ret ?_)
                         rintro _ _ _ ⟨rfl, rfl, rfl⟩
                         refine GL.pure rfl (p_move rfl) ?_
                         refine GL.pure rfl (p_extract rfl rfl) ?_
                         refine GL.pure rfl (p_extract rfl rfl) ?_
                         refine GL.pure rfl (p_assign rfl) ?_
                         refine GL.pure rfl (p_assign rfl) ?_
                         refine GL.nil (?_ : GC _ _ _ _)
                         refine GC.seq' ?_
                         refine GC.region ?_
                         refine GL.pure rfl (p_move rfl) ?_
                         refine GL.pure rfl (p_move rfl) ?_
                         refine GL.pure rfl (p_move rfl) ?_
                         refine GL.step rfl (t_index (i := 11) rfl rfl rfl rfl Try.underlying22 sz_31 (by omega) (gt_ok (by omega) (by omega))) (GL.ex fun p_x70 => GL.ex fun r_x70 => GL.and fun ok_x70 => ?_)
                         rcases r_x70 with ⟨_, ⟨_, ⟨_, ⟨_, ⟨Ax70_0, cpx70_0⟩⟩⟩⟩⟩
                         refine GL.pure rfl (p_fieldAddr' fo_31_1 rfl) ?_
                         refine GL.step rfl (t_mem rfl (m_loadP (i := 0) rfl rfl ag_3 rfl)) ?_
                         refine GL.step rfl (t_call rfl fn_18 rfl (is := [2]) (js := [5]) rfl rfl (by exact rlast_ct _ _ (lStep L (gt calls (k : Int))) _ _ (by have := hb2.le; omega))) (GL.ret ?_)
                         rintro _ _ _ ⟨rfl, rfl, rfl⟩
                         refine GL.pure rfl (p_move rfl) ?_
                         refine GL.pure rfl (p_extract rfl rfl) ?_
                         refine GL.pure rfl (p_extract rfl rfl) ?_
                         refine GL.pure rfl (p_assign rfl) ?_
                         refine GL.pure rfl (p_assign rfl) ?_
                         refine GL.nil (?_ : GC _ _ _ _)
                         refine GC.seq' ?_
                         refine GC.region ?_
                         refine GL.pure rfl (p_move rfl) ?_
                         refine GL.pure rfl (p_move rfl) ?_
                         refine GL.pure rfl (p_neq rfl rfl) ?_
                         refine GL.pure rfl (p_move rfl) ?_
                         refine GL.split (i := 79) rfl (fun h4 => ?_) (fun h4 => ?_)
                         · try simp only [decide_eq_true_eq, decide_eq_false_iff_not, Bool.not_eq_true', Bool.not_eq_false', Bool.not_true, Bool.not_false, Bool.not_not, ne_eq, Decidable.not_not, Int.not_lt, Int.not_le, gt_iff_lt, ge_iff_le, bool_true_eq_, bool_false_eq_] at h4
                           first
                           | (exfalso; first | omega | (simp at h4; done) | exact h4 (by rw [hb2.last]) | (rw [hb2.last] at h4; simp at h4; done))
                           | (skip
                              refine GL.pass (s := 79) rfl rfl rfl ?_
                              refine GL.pass (s := 79) rfl rfl rfl ?_
                              refine GL.pass (s := 79) rfl rfl rfl ?_
                              refine GL.pure rfl (p_pick_true rfl rfl) ?_
                              refine GL.nil (?_ : GC _ _ _ _)
                              refine GC.cond_true rfl ?_
                              refine GC.seq' ?_
                              refine GC.region ?_
                              refine GL.pure rfl (p_assign rfl) ?_
                              refine GL.nil (?_ : GC _ _ _ _)
                              refine GC.ret ?_
                              refine fun a w h => Fin.back (rs := [.tmp 4]) (vs := [_]) (is := []) (js := []) rfl ⟨rfl, trivial⟩ rfl rfl ?_ h
                              clear h
                              refine ⟨?_, rfl, rfl⟩
                              first | rfl | (show Value.bool _ = _; simp))
                         · try simp only [decide_eq_true_eq, decide_eq_false_iff_not, Bool.not_eq_true', Bool.not_eq_false', Bool.not_true, Bool.not_false, Bool.not_not, ne_eq, Decidable.not_not, Int.not_lt, Int.not_le, gt_iff_lt, ge_iff_le, bool_true_eq_, bool_false_eq_] at h4
                           first
                           | (exfalso; first | omega | (simp at h4; done) | exact h4 (by rw [hb2.last]) | (rw [hb2.last] at h4; simp at h4; done))
                           | (skip
                              refine GL.pureG (s := 79) rfl rfl rfl (p_move rfl) ?_
                              refine GL.pureG (s := 79) rfl rfl rfl (p_move rfl) ?_
                              refine GL.pureG (s := 79) rfl rfl rfl (p_bneq Try.underlying4 rfl rfl) ?_
                              refine GL.pure rfl (p_pick_false rfl rfl) ?_
                              refine GL.nil (?_ : GC _ _ _ _)
                              refine GC.cond rfl (fun h5 => ?_) (fun h5 => ?_)
                              · try simp only [decide_eq_true_eq, decide_eq_false_iff_not, Bool.not_eq_true', Bool.not_eq_false', Bool.not_true, Bool.not_false, Bool.not_not, ne_eq, Decidable.not_not, Int.not_lt, Int.not_le, gt_iff_lt, ge_iff_le, bool_true_eq_, bool_false_eq_] at h5
                                first
                                | (exfalso; first | omega | (simp at h5; done) | exact h5 (by rw [hb2.last]) | (rw [hb2.last] at h5; simp at h5; done))
                                | (skip
                                   refine GC.seq' ?_
                                   refine GC.region ?_
                                   refine GL.pure rfl (p_assign rfl) ?_
                                   refine GL.nil (?_ : GC _ _ _ _)
                                   refine GC.ret ?_
                                   refine fun a w h => Fin.back (rs := [.tmp 4]) (vs := [_]) (is := []) (js := []) rfl ⟨rfl, trivial⟩ rfl rfl ?_ h
                                   clear h
                                   refine ⟨?_, rfl, rfl⟩
                                   first | rfl | (show Value.bool _ = _; simp))
                              · try simp only [decide_eq_true_eq, decide_eq_false_iff_not, Bool.not_eq_true', Bool.not_eq_false', Bool.not_true, Bool.not_false, Bool.not_not, ne_eq, Decidable.not_not, Int.not_lt, Int.not_le, gt_iff_lt, ge_iff_le, bool_true_eq_, bool_false_eq_] at h5
                                first
                                | (exfalso; first | omega | (simp at h5; done) | exact h5 (by rw [hb2.last]) | (rw [hb2.last] at h5; simp at h5; done))
                                | (skip
                                   refine GC.skip (?_ : GC _ _ _ _)
                                   refine GC.region ?_
                                   refine GL.pure rfl (p_move rfl) ?_
                                   refine GL.pure rfl (p_add rfl rfl (w64 (by omega) (by omega))) ?_
                                   refine GL.pure rfl (p_assign rfl) ?_
                                   refine GL.nil ?_
                                   exact fun a w h => ⟨(k + 1), (_), (_), (_), (_), (_), (_), (by omega), ⟨by omega, hb2, lc44, kc44⟩, h.cut (is := [1, 1, 0]) (js := [4, 5, 10, 11, 12, 13]) ⟨rfl, rfl, rfl, rfl, trivial⟩ rfl rfl⟩)))
                  exact GAs.nil
                exact GAs.nil
              exact GAs.nil)
         · try simp only [decide_eq_true_eq, decide_eq_false_iff_not, Bool.not_eq_true', Bool.not_eq_false', Bool.not_true, Bool.not_false, Bool.not_not, ne_eq, Decidable.not_not, Int.not_lt, Int.not_le, gt_iff_lt, ge_iff_le, bool_true_eq_, bool_false_eq_] at h2
           first
           | (exfalso; first | omega | (simp at h2; done) | exact h2 (by rw [hb2.last]) | (rw [hb2.last] at h2; simp at h2; done))
           | (skip
              refine GC.exit (?_ : GC _ _ _ _)
              refine GC.seq' ?_
              refine GC.regionC (m := 8) (is := [2]) (js := [0, 1, 2, 3, 4, 5]) wide_ rfl rfl rfl ?_
              refine GA.take 0 rfl (by kernel_rfl) (by kernel_rfl) (by kernel_rfl) rfl (fun a w h => h.mem (is := [2]) (js := [0, 1, 2, 3, 4, 5]) rfl rfl) (i_pure (p_move rfl)) ?_
              refine GA.take 2 rfl (by kernel_rfl) (by kernel_rfl) (by kernel_rfl) rfl (fun a w h => h.mem (is := [2]) (js := [0, 1, 2, 3, 4, 5]) rfl rfl) (i_pure (p_move rfl)) ?_
              refine GA.take 3 rfl (by kernel_rfl) (by kernel_rfl) (by kernel_rfl) rfl (fun a w h => h.mem (is := [2]) (js := [0, 1, 2, 3, 4, 5]) rfl rfl) (i_pure (p_nilCheck rfl)) ?_
              refine GA.take 4 rfl (by kernel_rfl) (by kernel_rfl) (by kernel_rfl) rfl (fun a w h => h.mem (is := [2]) (js := [0, 1, 2, 3, 4, 5]) rfl rfl) (i_pure (p_fieldAddr fo_55_0 rfl)) ?_
              refine GA.take 5 rfl (by kernel_rfl) (by kernel_rfl) (by kernel_rfl) rfl (fun a w h => h.mem (is := [2]) (js := [0, 1, 2, 3, 4, 5]) rfl rfl) (i_mem (m_load (i := 0) rfl rfl ag_47 rfl)) ?_
              refine GA.all (rs := [1]) (by kernel_rfl) (by simp) ?_
              refine GAs.cons (i := 1) rfl rfl (t_call rfl fn_15 rfl (is := [0, 0]) (js := [0]) rfl rfl (by exact rows_ct _ _ _ _ T hb.lens (by have := hb.len; have := hb.le; omega))) (by rintro a w ⟨_, _, _, ⟨A85, cp85, ys85, cs85, hy85, l85, k85, rfl, rfl, rfl⟩, h⟩; exact h.mem (is := [3]) (js := [1, 2, 3, 4, 5, 6]) rfl rfl) (GA.ret ?_) ?_
              · rintro _ _ _ ⟨A85, cp85, ys85, cs85, hy85, l85, k85, rfl, rfl, rfl⟩
                obtain rfl := hb.rows hy85.1 hy85.2
                refine GA.freezeR (i := 0) (j := 0) rfl rfl (by decide) ?_
                refine GA.all (rs := [6]) (by kernel_rfl) (by simp) ?_
                refine GAs.cons (i := 6) rfl rfl (t_call rfl fn_19 rfl (is := []) (js := [0, 3]) rfl rfl (by exact rsame_ct _ ys85 _ _ ys85 _ (by have := hb.le; omega))) (by rintro a w ⟨_, _, _, ⟨rfl, rfl, rfl⟩, h⟩; exact h.mem (is := [2]) (js := [2, 3, 4, 5, 6, 7]) rfl rfl) (GA.ret ?_) ?_
                · rintro _ _ _ ⟨rfl, rfl, rfl⟩
                  refine GA.take 7 rfl (by kernel_rfl) (by kernel_rfl) (by kernel_rfl) rfl (fun a w h => h.mem (is := [2]) (js := [2, 3, 4, 5, 6, 7]) rfl rfl) (i_pure (p_assign rfl)) ?_
                  refine GA.done (by kernel_rfl) (?_ : GC _ _ _ _)
                  refine GC.ret ?_
                  refine fun a w h => Fin.back (rs := [.tmp 4]) (vs := [_]) (is := []) (js := []) rfl ⟨rfl, trivial⟩ rfl rfl ?_ h
                  clear h
                  refine ⟨?_, rfl, rfl⟩
                  first | rfl | (show Value.bool _ = _; simp)
                exact GAs.nil
              exact GAs.nil))
    · try simp only [decide_eq_true_eq, decide_eq_false_iff_not, Bool.not_eq_true', Bool.not_eq_false', Bool.not_true, Bool.not_false, Bool.not_not, ne_eq, Decidable.not_not, Int.not_lt, Int.not_le, gt_iff_lt, ge_iff_le, bool_true_eq_, bool_false_eq_] at h1
      first
      | (exfalso; first | omega | (simp at h1; done) | exact h1 (by rw [hb2.last]) | (rw [hb2.last] at h1; simp at h1; done))
      | (skip
         refine GL.pass (s := 32) rfl rfl rfl ?_
         refine GL.pass (s := 32) rfl rfl rfl ?_
         refine GL.pure rfl (p_pick_false rfl rfl) ?_
         refine GL.nil (?_ : GC _ _ _ _)
         refine GC.cond_false rfl ?_
         refine GC.exit (?_ : GC _ _ _ _)
         refine GC.seq' ?_
         refine GC.regionC (m := 8) (is := [2]) (js := [0, 1, 2, 3, 4, 5]) wide_ rfl rfl rfl ?_
         refine GA.take 0 rfl (by kernel_rfl) (by kernel_rfl) (by kernel_rfl) rfl (fun a w h => h.mem (is := [2]) (js := [0, 1, 2, 3, 4, 5]) rfl rfl) (i_pure (p_move rfl)) ?_
         refine GA.take 2 rfl (by kernel_rfl) (by kernel_rfl) (by kernel_rfl) rfl (fun a w h => h.mem (is := [2]) (js := [0, 1, 2, 3, 4, 5]) rfl rfl) (i_pure (p_move rfl)) ?_
         refine GA.take 3 rfl (by kernel_rfl) (by kernel_rfl) (by kernel_rfl) rfl (fun a w h => h.mem (is := [2]) (js := [0, 1, 2, 3, 4, 5]) rfl rfl) (i_pure (p_nilCheck rfl)) ?_
         refine GA.take 4 rfl (by kernel_rfl) (by kernel_rfl) (by kernel_rfl) rfl (fun a w h => h.mem (is := [2]) (js := [0, 1, 2, 3, 4, 5]) rfl rfl) (i_pure (p_fieldAddr fo_55_0 rfl)) ?_
         refine GA.take 5 rfl (by kernel_rfl) (by kernel_rfl) (by kernel_rfl) rfl (fun a w h => h.mem (is := [2]) (js := [0, 1, 2, 3, 4, 5]) rfl rfl) (i_mem (m_load (i := 0) rfl rfl ag_47 rfl)) ?_
         refine GA.all (rs := [1]) (by kernel_rfl) (by simp) ?_
         refine GAs.cons (i := 1) rfl rfl (t_call rfl fn_15 rfl (is := [0, 0]) (js := [0]) rfl rfl (by exact rows_ct _ _ _ _ T hb.lens (by have := hb.len; have := hb.le; omega))) (by rintro a w ⟨_, _, _, ⟨A85, cp85, ys85, cs85, hy85, l85, k85, rfl, rfl, rfl⟩, h⟩; exact h.mem (is := [3]) (js := [1, 2, 3, 4, 5, 6]) rfl rfl) (GA.ret ?_) ?_
         · rintro _ _ _ ⟨A85, cp85, ys85, cs85, hy85, l85, k85, rfl, rfl, rfl⟩
           obtain rfl := hb.rows hy85.1 hy85.2
           refine GA.freezeR (i := 0) (j := 0) rfl rfl (by decide) ?_
           refine GA.all (rs := [6]) (by kernel_rfl) (by simp) ?_
           refine GAs.cons (i := 6) rfl rfl (t_call rfl fn_19 rfl (is := []) (js := [0, 3]) rfl rfl (by exact rsame_ct _ ys85 _ _ ys85 _ (by have := hb.le; omega))) (by rintro a w ⟨_, _, _, ⟨rfl, rfl, rfl⟩, h⟩; exact h.mem (is := [2]) (js := [2, 3, 4, 5, 6, 7]) rfl rfl) (GA.ret ?_) ?_
           · rintro _ _ _ ⟨rfl, rfl, rfl⟩
             refine GA.take 7 rfl (by kernel_rfl) (by kernel_rfl) (by kernel_rfl) rfl (fun a w h => h.mem (is := [2]) (js := [2, 3, 4, 5, 6, 7]) rfl rfl) (i_pure (p_assign rfl)) ?_
             refine GA.done (by kernel_rfl) (?_ : GC _ _ _ _)
             refine GC.ret ?_
             refine fun a w h => Fin.back (rs := [.tmp 4]) (vs := [_]) (is := []) (js := []) rfl ⟨rfl, trivial⟩ rfl rfl ?_ h
             clear h
             refine ⟨?_, rfl, rfl⟩
             first | rfl | (show Value.bool _ = _; simp)
           exact GAs.nil
         exact GAs.nil)
  · have hr : rightF l = false := by simpa using hr
    refine Ct.intro Try.func6 rfl rfl rfl (fun c hc => ?_)
    refine GC.seq' ?_
    refine GC.region ?_
    refine GL.pure rfl (p_assign rfl) ?_
    refine GL.nil (?_ : GC _ _ _ _)
    refine GC.seq' ?_
    refine GC.seq' ?_
    refine GC.region ?_
    refine GL.step rfl (t_call rfl fn_8 rfl (is := []) (js := []) rfl rfl (by exact awake_ct)) (GL.ret ?_)
    rintro _ _ _ ⟨rfl, rfl, rfl⟩
    refine GL.pure rfl (p_not rfl) ?_
    refine GL.nil (?_ : GC _ _ _ _)
    refine GC.cond_false rfl ?_
    refine GC.skip (?_ : GC _ _ _ _)
    refine GC.seq' ?_
    refine GC.region ?_
    refine GL.pure rfl (p_move rfl) ?_
    refine GL.step rfl (t_call rfl fn_16 rfl (is := []) (js := [0]) rfl rfl (by exact begin_bad _ _ _ (by first | assumption | omega) (by assumption))) (GL.ret ?_)
    rintro _ _ _ ⟨rfl, rfl, rfl⟩
    refine GL.pure rfl (p_move rfl) ?_
    refine GL.pure rfl (p_extract rfl rfl) ?_
    refine GL.pure rfl (p_extract rfl rfl) ?_
    refine GL.pure rfl (p_extract rfl rfl) ?_
    refine GL.pure rfl (p_assign rfl) ?_
    refine GL.pure rfl (p_assign rfl) ?_
    refine GL.pure rfl (p_assign rfl) ?_
    refine GL.nil (?_ : GC _ _ _ _)
    refine GC.seq' ?_
    refine GC.seq' ?_
    refine GC.region ?_
    refine GL.pure rfl (p_move rfl) ?_
    refine GL.pure rfl (p_not rfl) ?_
    refine GL.pure rfl (p_move rfl) ?_
    refine GL.pureG (s := 23) rfl rfl rfl (p_move rfl) ?_
    refine GL.pureG (s := 23) rfl rfl rfl (p_pnil_eql Try.underlying50 rfl rfl) ?_
    refine GL.pure rfl (p_pick_false rfl rfl) ?_
    refine GL.nil (?_ : GC _ _ _ _)
    refine GC.cond_true rfl ?_
    refine GC.seq' ?_
    refine GC.region ?_
    refine GL.pure rfl (p_move rfl) ?_
    refine GL.pure rfl (p_assign rfl) ?_
    refine GL.nil (?_ : GC _ _ _ _)
    refine GC.ret ?_
    refine fun a w h => Fin.back (rs := [.tmp 4]) (vs := [_]) (is := []) (js := []) rfl ⟨rfl, trivial⟩ rfl rfl ?_ h
    clear h
    exact ⟨rfl, rfl, rfl⟩
theorem rows_same {T : List (Int × Last)} {l ys : List Row} (hb : Both T l) (h : ys.Perm (rowsOf T) ∧ ys.Pairwise fun x y => x.client ≤ y.client) : ys = l := hb.rows h.1 h.2
theorem tableRows_ct (A : Option Addr) (l : List Row) (cp : Nat) (B : Option Addr) (o : List Row) (cq : Nat) (hl : l.length ≤ 140737488351232) (hl2 : o.length ≤ 140737488351232) :
    Ct Try.prog 7 [.slice A l.length cp, .slice B o.length cq] [] [Pers.row kRow A l, Pers.row kRow B o] (fun u G Q => u = .bool true ∧ G = [] ∧ Q = []) := by
  by_cases hr : rightF l = true
  · have hb := Both.of hr
    have h64 := hb.le
    have hlen := hb.len
    refine Ct.intro Try.func7 rfl rfl rfl (fun c hc => ?_)
    refine GC.seq' ?_
    refine GC.region ?_
    refine GL.pure rfl (p_assign rfl) ?_
    refine GL.nil (?_ : GC _ _ _ _)
    refine GC.seq' ?_
    refine GC.seq' ?_
    refine GC.region ?_
    refine GL.step rfl (t_call rfl fn_8 rfl (is := []) (js := []) rfl rfl (by exact awake_ct)) (GL.ret ?_)
    rintro _ _ _ ⟨rfl, rfl, rfl⟩
    refine GL.pure rfl (p_not rfl) ?_
    refine GL.pure rfl (p_move rfl) ?_
    refine GL.pureG (s := 11) rfl rfl rfl (p_move rfl) ?_
    refine GL.pureG (s := 11) rfl rfl rfl (p_move rfl) ?_
    refine GL.stepG rfl (s := 11) rfl rfl (t_call rfl fn_20 rfl (is := []) (js := [0, 1]) rfl rfl (by exact tsame_ct _ _ _ _ _ _ (by first | assumption | omega))) (GL.ret ?_)
    rintro _ _ _ ⟨rfl, rfl, rfl⟩
    refine GL.pureG (s := 11) rfl rfl rfl (p_move rfl) ?_
    refine GL.pureG (s := 11) rfl rfl rfl (p_move rfl) ?_
    refine GL.stepG rfl (s := 11) rfl rfl (t_call rfl fn_19 rfl (is := []) (js := [0, 1]) rfl rfl (by exact rsame_ct _ _ _ _ _ _ (by first | assumption | omega))) (GL.ret ?_)
    rintro _ _ _ ⟨rfl, rfl, rfl⟩
    refine GL.pureG (s := 11) rfl rfl rfl (p_bneq Try.underlying4 rfl rfl) ?_
    refine GL.pure rfl (p_pick_false rfl rfl) ?_
    refine GL.pure rfl (p_move rfl) ?_
    refine GL.split (i := 20) rfl (fun h1 => ?_) (fun h1 => ?_)
    · try simp only [decide_eq_true_eq, decide_eq_false_iff_not, Bool.not_eq_true', Bool.not_eq_false', Bool.not_true, Bool.not_false, Bool.not_not, ne_eq, Decidable.not_not, Int.not_lt, Int.not_le, gt_iff_lt, ge_iff_le, bool_true_eq_, bool_false_eq_] at h1
      first
      | (exfalso; first | omega | (simp at h1; done))
      | (skip
         refine GL.pass (s := 20) rfl rfl rfl ?_
         refine GL.pass (s := 20) rfl rfl rfl ?_
         refine GL.pass (s := 20) rfl rfl rfl ?_
         refine GL.pass (s := 20) rfl rfl rfl ?_
         refine GL.pure rfl (p_pick_true rfl rfl) ?_
         refine GL.nil (?_ : GC _ _ _ _)
         refine GC.cond_true rfl ?_
         refine GC.seq' ?_
         refine GC.region ?_
         refine GL.pure rfl (p_assign rfl) ?_
         refine GL.nil (?_ : GC _ _ _ _)
         refine GC.ret ?_
         refine fun a w h => Fin.back (rs := [.tmp 4]) (vs := [_]) (is := []) (js := []) rfl ⟨rfl, trivial⟩ rfl rfl ?_ h
         clear h
         refine ⟨?_, rfl, rfl⟩
         first | rfl | (show Value.bool _ = _; simp))
    · try simp only [decide_eq_true_eq, decide_eq_false_iff_not, Bool.not_eq_true', Bool.not_eq_false', Bool.not_true, Bool.not_false, Bool.not_not, ne_eq, Decidable.not_not, Int.not_lt, Int.not_le, gt_iff_lt, ge_iff_le, bool_true_eq_, bool_false_eq_] at h1
      first
      | (exfalso; first | omega | (simp at h1; done))
      | (skip
         refine GL.pureG (s := 20) rfl rfl rfl (p_move rfl) ?_
         refine GL.pureG (s := 20) rfl rfl rfl (p_move rfl) ?_
         refine GL.stepG rfl (s := 20) rfl rfl (t_call rfl fn_20 rfl (is := []) (js := [0, 0]) rfl rfl (by exact tsame_ct _ _ _ _ _ _ (by first | assumption | omega))) (GL.ret ?_)
         rintro _ _ _ ⟨rfl, rfl, rfl⟩
         refine GL.pureG (s := 20) rfl rfl rfl (p_not rfl) ?_
         refine GL.pure rfl (p_pick_false rfl rfl) ?_
         refine GL.nil (?_ : GC _ _ _ _)
         refine GC.cond rfl (fun h2 => ?_) (fun h2 => ?_)
         · try simp only [decide_eq_true_eq, decide_eq_false_iff_not, Bool.not_eq_true', Bool.not_eq_false', Bool.not_true, Bool.not_false, Bool.not_not, ne_eq, Decidable.not_not, Int.not_lt, Int.not_le, gt_iff_lt, ge_iff_le, bool_true_eq_, bool_false_eq_] at h2
           first
           | (exfalso; first | omega | (simp at h2; done))
           | (skip
              refine GC.seq' ?_
              refine GC.region ?_
              refine GL.pure rfl (p_assign rfl) ?_
              refine GL.nil (?_ : GC _ _ _ _)
              refine GC.ret ?_
              refine fun a w h => Fin.back (rs := [.tmp 4]) (vs := [_]) (is := []) (js := []) rfl ⟨rfl, trivial⟩ rfl rfl ?_ h
              clear h
              refine ⟨?_, rfl, rfl⟩
              first | rfl | (show Value.bool _ = _; simp))
         · try simp only [decide_eq_true_eq, decide_eq_false_iff_not, Bool.not_eq_true', Bool.not_eq_false', Bool.not_true, Bool.not_false, Bool.not_not, ne_eq, Decidable.not_not, Int.not_lt, Int.not_le, gt_iff_lt, ge_iff_le, bool_true_eq_, bool_false_eq_] at h2
           first
           | (exfalso; first | omega | (simp at h2; done))
           | (skip
              refine GC.skip (?_ : GC _ _ _ _)
              refine GC.seq' ?_
              refine GC.region ?_
              refine GL.pure rfl (p_move rfl) ?_
              refine GL.step rfl (t_call rfl fn_21 rfl (is := []) (js := [0]) rfl rfl (by exact load_ok _ _ _ (by first | assumption | omega) (by assumption))) (GL.ret ?_)
              rintro _ _ _ ⟨p28, m28, es28, ck28, rfl, rfl, rfl⟩
              refine GL.pure rfl (p_move rfl) ?_
              refine GL.pure rfl (p_extract rfl rfl) ?_
              refine GL.pure rfl (p_extract rfl rfl) ?_
              refine GL.pure rfl (p_assign rfl) ?_
              refine GL.pure rfl (p_assign rfl) ?_
              refine GL.nil (?_ : GC _ _ _ _)
              refine GC.seq' ?_
              refine GC.seq' ?_
              refine GC.region ?_
              refine GL.pure rfl (p_move rfl) ?_
              refine GL.pure rfl (p_neq rfl rfl) ?_
              refine GL.nil (?_ : GC _ _ _ _)
              refine GC.cond_false rfl ?_
              refine GC.skip (?_ : GC _ _ _ _)
              refine GC.seq' ?_
              refine GC.region ?_
              refine GL.pure rfl (p_move rfl) ?_
              refine GL.step rfl (t_call rfl fn_15 rfl (is := [0, 0]) (js := [0]) rfl rfl (by exact rows_ct _ _ _ _ _ hb.lens (by omega))) (GL.ret ?_)
              rintro _ _ _ ⟨A46, cp46, ys46, cs46, hy46, l46, k46, rfl, rfl, rfl⟩
              obtain rfl := rows_same hb hy46
              refine GL.freezeR (i := 0) (j := 0) rfl rfl (by decide) ?_
              refine GL.step rfl (t_call rfl fn_21 rfl (is := []) (js := [0]) rfl rfl (by exact load_ok _ _ _ (by omega) hr)) (GL.ret ?_)
              rintro _ _ _ ⟨p47, m47, es47, ck47, rfl, rfl, rfl⟩
              refine GL.pure rfl (p_move rfl) ?_
              refine GL.pure rfl (p_extract rfl rfl) ?_
              refine GL.pure rfl (p_extract rfl rfl) ?_
              refine GL.pure rfl (p_assign rfl) ?_
              refine GL.pure rfl (p_assign rfl) ?_
              refine GL.nil (?_ : GC _ _ _ _)
              refine GC.seq' ?_
              refine GC.region ?_
              refine GL.pure rfl (p_move rfl) ?_
              refine GL.pure rfl (p_eql rfl rfl) ?_
              refine GL.pure rfl (p_move rfl) ?_
              refine GL.pureG (s := 52) rfl rfl rfl (p_move rfl) ?_
              refine GL.stepG rfl (s := 52) rfl rfl (t_call rfl fn_15 rfl (is := [2, 2]) (js := [3]) rfl rfl (by exact rows_ct _ _ _ _ _ hb.lens (by omega))) (GL.ret ?_)
              rintro _ _ _ ⟨A54, cp54, ys54, cs54, hy54, l54, k54, rfl, rfl, rfl⟩
              refine GL.pureG (s := 52) rfl rfl rfl (p_move rfl) ?_
              obtain rfl := rows_same hb hy54
              refine GL.freezeR (i := 0) (j := 0) rfl rfl (by decide) ?_
              refine GL.stepG rfl (s := 52) rfl rfl (t_call rfl fn_19 rfl (is := []) (js := [0, 6]) rfl rfl (by exact rsame_ct _ _ _ _ _ _ (by first | assumption | omega))) (GL.ret ?_)
              rintro _ _ _ ⟨rfl, rfl, rfl⟩
              refine GL.pure rfl (p_pick_true rfl rfl) ?_
              refine GL.pure rfl (p_move rfl) ?_
              refine GL.split (i := 58) rfl (fun h3 => ?_) (fun h3 => ?_)
              · try simp only [decide_eq_true_eq, decide_eq_false_iff_not, Bool.not_eq_true', Bool.not_eq_false', Bool.not_true, Bool.not_false, Bool.not_not, ne_eq, Decidable.not_not, Int.not_lt, Int.not_le, gt_iff_lt, ge_iff_le, bool_true_eq_, bool_false_eq_] at h3
                first
                | (exfalso; first | omega | (simp at h3; done))
                | (skip
                   refine GL.pureG (s := 58) rfl rfl rfl (p_move rfl) ?_
                   refine GL.stepG rfl (s := 58) rfl rfl (t_call rfl fn_15 rfl (is := [2, 2]) (js := [2]) rfl rfl (by exact rows_ct _ _ _ _ _ hb.lens (by omega))) (GL.ret ?_)
                   rintro _ _ _ ⟨A60, cp60, ys60, cs60, hy60, l60, k60, rfl, rfl, rfl⟩
                   refine GL.pureG (s := 58) rfl rfl rfl (p_move rfl) ?_
                   obtain rfl := rows_same hb hy60
                   refine GL.freezeR (i := 0) (j := 0) rfl rfl (by decide) ?_
                   refine GL.stepG rfl (s := 58) rfl rfl (t_call rfl fn_19 rfl (is := []) (js := [0, 8]) rfl rfl (by exact rsame_ct _ _ _ _ _ _ (by first | assumption | omega))) (GL.ret ?_)
                   rintro _ _ _ ⟨rfl, rfl, rfl⟩
                   refine GL.pure rfl (p_pick_true rfl rfl) ?_
                   refine GL.pure rfl (p_move rfl) ?_
                   refine GL.split (i := 64) rfl (fun h4 => ?_) (fun h4 => ?_)
                   · try simp only [decide_eq_true_eq, decide_eq_false_iff_not, Bool.not_eq_true', Bool.not_eq_false', Bool.not_true, Bool.not_false, Bool.not_not, ne_eq, Decidable.not_not, Int.not_lt, Int.not_le, gt_iff_lt, ge_iff_le, bool_true_eq_, bool_false_eq_] at h4
                     first
                     | (exfalso; first | omega | (simp at h4; done))
                     | (skip
                        refine GL.pureG (s := 64) rfl rfl rfl (p_move rfl) ?_
                        refine GL.stepG rfl (s := 64) rfl rfl (t_call rfl fn_22 rfl (is := []) (js := [8]) rfl rfl (by exact right_yes _ _ _ (by omega) hr)) (GL.ret ?_)
                        rintro _ _ _ ⟨rfl, rfl, rfl⟩
                        refine GL.pure rfl (p_pick_true rfl rfl) ?_
                        refine GL.pure rfl (p_assign rfl) ?_
                        refine GL.nil (?_ : GC _ _ _ _)
                        refine GC.ret ?_
                        refine fun a w h => Fin.back (rs := [.tmp 4]) (vs := [_]) (is := []) (js := []) rfl ⟨rfl, trivial⟩ rfl rfl ?_ h
                        clear h
                        refine ⟨?_, rfl, rfl⟩
                        first | rfl | (show Value.bool _ = _; simp))
                   · try simp only [decide_eq_true_eq, decide_eq_false_iff_not, Bool.not_eq_true', Bool.not_eq_false', Bool.not_true, Bool.not_false, Bool.not_not, ne_eq, Decidable.not_not, Int.not_lt, Int.not_le, gt_iff_lt, ge_iff_le, bool_true_eq_, bool_false_eq_] at h4
                     first
                     | (exfalso; first | omega | (simp at h4; done))
                     | (skip
                        refine GL.pass (s := 64) rfl rfl rfl ?_
                        refine GL.pass (s := 64) rfl rfl rfl ?_
                        refine GL.pure rfl (p_pick_false rfl rfl) ?_
                        refine GL.pure rfl (p_assign rfl) ?_
                        refine GL.nil (?_ : GC _ _ _ _)
                        refine GC.ret ?_
                        refine fun a w h => Fin.back (rs := [.tmp 4]) (vs := [_]) (is := []) (js := []) rfl ⟨rfl, trivial⟩ rfl rfl ?_ h
                        clear h
                        refine ⟨?_, rfl, rfl⟩
                        first | rfl | (show Value.bool _ = _; simp)))
              · try simp only [decide_eq_true_eq, decide_eq_false_iff_not, Bool.not_eq_true', Bool.not_eq_false', Bool.not_true, Bool.not_false, Bool.not_not, ne_eq, Decidable.not_not, Int.not_lt, Int.not_le, gt_iff_lt, ge_iff_le, bool_true_eq_, bool_false_eq_] at h3
                first
                | (exfalso; first | omega | (simp at h3; done))
                | (skip
                   refine GL.pass (s := 58) rfl rfl rfl ?_
                   refine GL.pass (s := 58) rfl rfl rfl ?_
                   refine GL.pass (s := 58) rfl rfl rfl ?_
                   refine GL.pass (s := 58) rfl rfl rfl ?_
                   refine GL.pure rfl (p_pick_false rfl rfl) ?_
                   refine GL.pure rfl (p_move rfl) ?_
                   refine GL.pass (s := 64) rfl rfl rfl ?_
                   refine GL.pass (s := 64) rfl rfl rfl ?_
                   refine GL.pure rfl (p_pick_false rfl rfl) ?_
                   refine GL.pure rfl (p_assign rfl) ?_
                   refine GL.nil (?_ : GC _ _ _ _)
                   refine GC.ret ?_
                   refine fun a w h => Fin.back (rs := [.tmp 4]) (vs := [_]) (is := []) (js := []) rfl ⟨rfl, trivial⟩ rfl rfl ?_ h
                   clear h
                   refine ⟨?_, rfl, rfl⟩
                   first | rfl | (show Value.bool _ = _; simp))))
  · have hr : rightF l = false := by simpa using hr
    refine Ct.intro Try.func7 rfl rfl rfl (fun c hc => ?_)
    refine GC.seq' ?_
    refine GC.region ?_
    refine GL.pure rfl (p_assign rfl) ?_
    refine GL.nil (?_ : GC _ _ _ _)
    refine GC.seq' ?_
    refine GC.seq' ?_
    refine GC.region ?_
    refine GL.step rfl (t_call rfl fn_8 rfl (is := []) (js := []) rfl rfl (by exact awake_ct)) (GL.ret ?_)
    rintro _ _ _ ⟨rfl, rfl, rfl⟩
    refine GL.pure rfl (p_not rfl) ?_
    refine GL.pure rfl (p_move rfl) ?_
    refine GL.pureG (s := 11) rfl rfl rfl (p_move rfl) ?_
    refine GL.pureG (s := 11) rfl rfl rfl (p_move rfl) ?_
    refine GL.stepG rfl (s := 11) rfl rfl (t_call rfl fn_20 rfl (is := []) (js := [0, 1]) rfl rfl (by exact tsame_ct _ _ _ _ _ _ (by first | assumption | omega))) (GL.ret ?_)
    rintro _ _ _ ⟨rfl, rfl, rfl⟩
    refine GL.pureG (s := 11) rfl rfl rfl (p_move rfl) ?_
    refine GL.pureG (s := 11) rfl rfl rfl (p_move rfl) ?_
    refine GL.stepG rfl (s := 11) rfl rfl (t_call rfl fn_19 rfl (is := []) (js := [0, 1]) rfl rfl (by exact rsame_ct _ _ _ _ _ _ (by first | assumption | omega))) (GL.ret ?_)
    rintro _ _ _ ⟨rfl, rfl, rfl⟩
    refine GL.pureG (s := 11) rfl rfl rfl (p_bneq Try.underlying4 rfl rfl) ?_
    refine GL.pure rfl (p_pick_false rfl rfl) ?_
    refine GL.pure rfl (p_move rfl) ?_
    refine GL.split (i := 20) rfl (fun h1 => ?_) (fun h1 => ?_)
    · try simp only [decide_eq_true_eq, decide_eq_false_iff_not, Bool.not_eq_true', Bool.not_eq_false', Bool.not_true, Bool.not_false, Bool.not_not, ne_eq, Decidable.not_not, Int.not_lt, Int.not_le, gt_iff_lt, ge_iff_le, bool_true_eq_, bool_false_eq_] at h1
      first
      | (exfalso; first | omega | (simp at h1; done))
      | (skip
         refine GL.pass (s := 20) rfl rfl rfl ?_
         refine GL.pass (s := 20) rfl rfl rfl ?_
         refine GL.pass (s := 20) rfl rfl rfl ?_
         refine GL.pass (s := 20) rfl rfl rfl ?_
         refine GL.pure rfl (p_pick_true rfl rfl) ?_
         refine GL.nil (?_ : GC _ _ _ _)
         refine GC.cond_true rfl ?_
         refine GC.seq' ?_
         refine GC.region ?_
         refine GL.pure rfl (p_assign rfl) ?_
         refine GL.nil (?_ : GC _ _ _ _)
         refine GC.ret ?_
         refine fun a w h => Fin.back (rs := [.tmp 4]) (vs := [_]) (is := []) (js := []) rfl ⟨rfl, trivial⟩ rfl rfl ?_ h
         clear h
         refine ⟨?_, rfl, rfl⟩
         first | rfl | (show Value.bool _ = _; simp))
    · try simp only [decide_eq_true_eq, decide_eq_false_iff_not, Bool.not_eq_true', Bool.not_eq_false', Bool.not_true, Bool.not_false, Bool.not_not, ne_eq, Decidable.not_not, Int.not_lt, Int.not_le, gt_iff_lt, ge_iff_le, bool_true_eq_, bool_false_eq_] at h1
      first
      | (exfalso; first | omega | (simp at h1; done))
      | (skip
         refine GL.pureG (s := 20) rfl rfl rfl (p_move rfl) ?_
         refine GL.pureG (s := 20) rfl rfl rfl (p_move rfl) ?_
         refine GL.stepG rfl (s := 20) rfl rfl (t_call rfl fn_20 rfl (is := []) (js := [0, 0]) rfl rfl (by exact tsame_ct _ _ _ _ _ _ (by first | assumption | omega))) (GL.ret ?_)
         rintro _ _ _ ⟨rfl, rfl, rfl⟩
         refine GL.pureG (s := 20) rfl rfl rfl (p_not rfl) ?_
         refine GL.pure rfl (p_pick_false rfl rfl) ?_
         refine GL.nil (?_ : GC _ _ _ _)
         refine GC.cond rfl (fun h2 => ?_) (fun h2 => ?_)
         · try simp only [decide_eq_true_eq, decide_eq_false_iff_not, Bool.not_eq_true', Bool.not_eq_false', Bool.not_true, Bool.not_false, Bool.not_not, ne_eq, Decidable.not_not, Int.not_lt, Int.not_le, gt_iff_lt, ge_iff_le, bool_true_eq_, bool_false_eq_] at h2
           first
           | (exfalso; first | omega | (simp at h2; done))
           | (skip
              refine GC.seq' ?_
              refine GC.region ?_
              refine GL.pure rfl (p_assign rfl) ?_
              refine GL.nil (?_ : GC _ _ _ _)
              refine GC.ret ?_
              refine fun a w h => Fin.back (rs := [.tmp 4]) (vs := [_]) (is := []) (js := []) rfl ⟨rfl, trivial⟩ rfl rfl ?_ h
              clear h
              refine ⟨?_, rfl, rfl⟩
              first | rfl | (show Value.bool _ = _; simp))
         · try simp only [decide_eq_true_eq, decide_eq_false_iff_not, Bool.not_eq_true', Bool.not_eq_false', Bool.not_true, Bool.not_false, Bool.not_not, ne_eq, Decidable.not_not, Int.not_lt, Int.not_le, gt_iff_lt, ge_iff_le, bool_true_eq_, bool_false_eq_] at h2
           first
           | (exfalso; first | omega | (simp at h2; done))
           | (skip
              refine GC.skip (?_ : GC _ _ _ _)
              refine GC.seq' ?_
              refine GC.region ?_
              refine GL.pure rfl (p_move rfl) ?_
              refine GL.step rfl (t_call rfl fn_21 rfl (is := []) (js := [0]) rfl rfl (by exact load_bad _ _ _ (by first | assumption | omega) (by assumption))) (GL.ret ?_)
              rintro _ _ _ ⟨rfl, rfl, rfl⟩
              refine GL.pure rfl (p_move rfl) ?_
              refine GL.pure rfl (p_extract rfl rfl) ?_
              refine GL.pure rfl (p_extract rfl rfl) ?_
              refine GL.pure rfl (p_assign rfl) ?_
              refine GL.pure rfl (p_assign rfl) ?_
              refine GL.nil (?_ : GC _ _ _ _)
              refine GC.seq' ?_
              refine GC.seq' ?_
              refine GC.region ?_
              refine GL.pure rfl (p_move rfl) ?_
              refine GL.pure rfl (p_neq rfl rfl) ?_
              refine GL.nil (?_ : GC _ _ _ _)
              refine GC.cond_true rfl ?_
              refine GC.seq' ?_
              refine GC.region ?_
              refine GL.pure rfl (p_move rfl) ?_
              refine GL.pure rfl (p_pnil_eql Try.underlying24 rfl rfl) ?_
              refine GL.pure rfl (p_move rfl) ?_
              refine GL.pureG (s := 35) rfl rfl rfl (p_move rfl) ?_
              refine GL.pureG (s := 35) rfl rfl rfl (p_eql rfl rfl) ?_
              refine GL.pure rfl (p_pick_true rfl rfl) ?_
              refine GL.pure rfl (p_move rfl) ?_
              refine GL.pureG (s := 39) rfl rfl rfl (p_move rfl) ?_
              refine GL.stepG rfl (s := 39) rfl rfl (t_call rfl fn_22 rfl (is := []) (js := [0]) rfl rfl (by exact right_no _ _ _ (by omega) hr)) (GL.ret ?_)
              rintro _ _ _ ⟨rfl, rfl, rfl⟩
              refine GL.pureG (s := 39) rfl rfl rfl (p_not rfl) ?_
              refine GL.pure rfl (p_pick_true rfl rfl) ?_
              refine GL.pure rfl (p_assign rfl) ?_
              refine GL.nil (?_ : GC _ _ _ _)
              refine GC.ret ?_
              refine fun a w h => Fin.back (rs := [.tmp 4]) (vs := [_]) (is := []) (js := []) rfl ⟨rfl, trivial⟩ rfl rfl ?_ h
              clear h
              refine ⟨?_, rfl, rfl⟩
              first | rfl | (show Value.bool _ = _; simp)))
end Go.Proofs.Ytipjpgjahmadiaa
