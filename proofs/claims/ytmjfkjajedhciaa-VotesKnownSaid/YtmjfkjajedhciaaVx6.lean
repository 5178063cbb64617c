/- VOTES: among any quorum of nodes one has acknowledged what is committed. -/
import Derived.Test.YtmjfkjajedhciaaVx5
set_option linter.unusedVariables false
set_option linter.unusedSimpArgs false
set_option maxRecDepth 100000
namespace Go.Proofs.Ytmjfkjajedhciaa
open Go Go.Sx Go.Proofs
theorem cnt_take {ns ms : List Int} {k : Nat} (hk : k < ms.length) : cntI ns (ms.take (k + 1)) = cntI ns (ms.take k) + (if gt ms (k : Int) ∈ ns then 1 else 0) := by
  unfold cntI
  rw [take_gtI hk, List.filter_append, List.length_append]
  by_cases h : gt ms (k : Int) ∈ ns <;> simp [h]
theorem cnt_yes {ns ms : List Int} {k : Nat} (hk : k < ms.length) (h : gt ms (k : Int) ∈ ns) : ((cntI ns (ms.take (k + 1)) : Nat) : Int) = (cntI ns (ms.take k) : Int) + 1 := by rw [cnt_take hk, if_pos h]; omega
theorem cnt_no {ns ms : List Int} {k : Nat} (hk : k < ms.length) (h : ¬ gt ms (k : Int) ∈ ns) : cntI ns (ms.take (k + 1)) = cntI ns (ms.take k) := by rw [cnt_take hk, if_neg h]; omega
theorem cnt_le (ns ms : List Int) (k : Nat) : cntI ns (ms.take k) ≤ k := by
  refine Nat.le_trans (List.length_filter_le _ _) ?_
  simp; omega
theorem rreached_ct (e : Int) (A : Option Addr) (ms : List Int) (cp : Nat) (B : Option Addr) (ns : List Int) (cq : Nat) (hm : ms.length ≤ 1000000) (hn : ns.length ≤ 140737488355328) : Ct Try.prog 18 [grpV e A ms.length cp, .slice B ns.length cq] [] [Pers.row kI A ms, Pers.row kI B ns]
    (fun u G Q => u = .bool (decide (((ms.length / 2 : Nat) : Int) + 1 ≤ (cntI ns ms : Int))) ∧ G = [] ∧ Q = []) := by
  refine Ct.intro Try.func18 rfl rfl rfl (fun c hc => ?_)
  refine GC.seq' ?_
  refine GC.region ?_
  refine GL.step rfl (t_box rfl rfl rfl) (GL.ex fun b_t2 => ?_)
  refine GL.pure rfl (p_assign rfl) ?_
  refine GL.nil (?_ : GC _ _ _ _)
  refine GC.seq' ?_
  refine GC.region ?_
  refine GL.pure rfl (p_assign rfl) ?_
  refine GL.nil (?_ : GC _ _ _ _)
  refine GC.seq' ?_
  refine GC.seq' ?_
  refine GC.region ?_
  refine GL.pure rfl (p_assign rfl) ?_
  refine GL.nil (?_ : GC _ _ _ _)
  refine GC.block ?_
  refine GC.loopK1 (ks := [1, 2]) (is := [0]) (js := [0, 1]) (fun (k : Nat) => k ≤ ms.length) (fun (k : Nat) => [(5, .int .i64 (cntI ns (ms.take k) : Int)), (6, .int .i64 (k : Int))]) (fun (k : Nat) => []) (fun (k : Nat) => []) (fun (k : Nat) => ms.length - k) (0) rfl rfl rfl (fun a w h => ⟨by omega, h.cutK (is := [0]) (js := [0, 1]) (ks := [1, 2]) ⟨rfl, rfl, trivial⟩ rfl rfl rfl⟩) ?_
  intro k hk
  try dsimp only [List.cons_append, List.nil_append] at hk ⊢
  have hcl := cnt_le ns ms k
  refine GC.seq' ?_
  refine GC.seq' ?_
  refine GC.region ?_
  refine GL.pure rfl (p_move rfl) ?_
  refine GL.pure rfl (p_fieldAddr fo_34_1 rfl) ?_
  refine GL.step rfl (t_mem rfl (m_load (i := 0) rfl rfl ag_22 rfl)) ?_
  refine GL.pure rfl (p_len Try.underlying22 rfl) ?_
  refine GL.pure rfl (p_lss rfl rfl) ?_
  refine GL.nil (?_ : GC _ _ _ _)
  refine GC.cond rfl (fun h1 => ?_) (fun h1 => ?_)
  · try simp only [decide_eq_true_eq, decide_eq_false_iff_not, Bool.not_eq_true', Bool.not_eq_false', Bool.not_true, Bool.not_false, Bool.not_not, ne_eq, Decidable.not_not, Int.not_lt, Int.not_le, gt_iff_lt, ge_iff_le, bool_true_eq_, bool_false_eq_] at h1
    refine GC.skip (?_ : GC _ _ _ _)
    refine GC.seq' ?_
    refine GC.block ?_
    refine GC.seq' ?_
    refine GC.region ?_
    refine GL.pure rfl (p_move rfl) ?_
    refine GL.pure rfl (p_fieldAddr fo_34_1 rfl) ?_
    refine GL.step rfl (t_mem rfl (m_load (i := 0) rfl rfl ag_22 rfl)) ?_
    refine GL.pure rfl (p_move rfl) ?_
    refine GL.step rfl (t_index (i := 0) rfl rfl rfl rfl Try.underlying22 sz_3 (by omega) (gt_ok (by omega) (by omega))) (GL.ex fun p_x18 => GL.ex fun r_x18 => GL.and fun ok_x18 => ?_)
    rcases r_x18 with _
    refine GL.step rfl (t_mem rfl (m_loadP (i := 0) rfl rfl ag_3 rfl)) ?_
    refine GL.step rfl (t_call rfl fn_20 rfl (is := []) (js := [2]) rfl rfl (by exact in_ct _ ns _ _ hn)) (GL.ret ?_)
    rintro _ _ _ ⟨rfl, rfl, rfl⟩
    refine GL.nil (?_ : GC _ _ _ _)
    refine GC.cond rfl (fun h2 => ?_) (fun h2 => ?_)
    · try simp only [decide_eq_true_eq, decide_eq_false_iff_not, Bool.not_eq_true', Bool.not_eq_false', Bool.not_true, Bool.not_false, Bool.not_not, ne_eq, Decidable.not_not, Int.not_lt, Int.not_le, gt_iff_lt, ge_iff_le, bool_true_eq_, bool_false_eq_] at h2
      refine GC.region ?_
      refine GL.pure rfl (p_move rfl) ?_
      refine GL.pure rfl (p_add rfl rfl (w64 (by omega) (by omega))) ?_
      refine GL.pure rfl (p_assign rfl) ?_
      refine GL.nil (?_ : GC _ _ _ _)
      refine GC.region ?_
      refine GL.pure rfl (p_move rfl) ?_
      refine GL.pure rfl (p_add rfl rfl (w64 (by omega) (by omega))) ?_
      refine GL.pure rfl (p_assign rfl) ?_
      refine GL.nil ?_
      exact fun a w h => ⟨(k + 1), (by omega), by omega, by rw [cnt_yes (by omega) (by assumption)]; exact h.cut (is := [0]) (js := [1, 2]) ⟨rfl, rfl, rfl, rfl, trivial⟩ rfl rfl⟩
    · try simp only [decide_eq_true_eq, decide_eq_false_iff_not, Bool.not_eq_true', Bool.not_eq_false', Bool.not_true, Bool.not_false, Bool.not_not, ne_eq, Decidable.not_not, Int.not_lt, Int.not_le, gt_iff_lt, ge_iff_le, bool_true_eq_, bool_false_eq_] at h2
      refine GC.skip (?_ : GC _ _ _ _)
      refine GC.region ?_
      refine GL.pure rfl (p_move rfl) ?_
      refine GL.pure rfl (p_add rfl rfl (w64 (by omega) (by omega))) ?_
      refine GL.pure rfl (p_assign rfl) ?_
      refine GL.nil ?_
      exact fun a w h => ⟨(k + 1), (by omega), by omega, by rw [cnt_no (by omega) (by assumption)]; exact h.cut (is := [0]) (js := [1, 2]) ⟨rfl, rfl, rfl, rfl, trivial⟩ rfl rfl⟩
  · try simp only [decide_eq_true_eq, decide_eq_false_iff_not, Bool.not_eq_true', Bool.not_eq_false', Bool.not_true, Bool.not_false, Bool.not_not, ne_eq, Decidable.not_not, Int.not_lt, Int.not_le, gt_iff_lt, ge_iff_le, bool_true_eq_, bool_false_eq_] at h1
    refine GC.exit (?_ : GC _ _ _ _)
    refine GC.seq' ?_
    refine GC.region ?_
    refine GL.pure rfl (p_move rfl) ?_
    refine GL.step rfl (t_mem rfl (m_loadN (i := 0) rfl rfl ag_34 (vs := [_, _]) sz_34 ⟨rfl, rfl, trivial⟩)) ?_
    refine GL.step rfl (t_call rfl fn_33 rfl (is := []) (js := []) rfl rfl (by exact rquorum_ct _ _ ms.length _ (by omega))) (GL.ret ?_)
    rintro _ _ _ ⟨rfl, rfl, rfl⟩
    refine GL.pure rfl (p_geq rfl rfl) ?_
    refine GL.pure rfl (p_assign rfl) ?_
    refine GL.nil (?_ : GC _ _ _ _)
    refine GC.ret ?_
    refine fun a w h => Fin.back (rs := [.tmp 4]) (vs := [_]) (is := []) (js := []) rfl ⟨rfl, trivial⟩ rfl rfl ?_ h
    clear h
    obtain rfl : k = ms.length := by omega
    rw [List.take_length]
    refine ⟨congrArg Value.bool ?_, rfl, rfl⟩
    first | rfl | (rw [Bool.eq_iff_iff]; simp)
def knN (l : List Ack) (ms : List Int) (x : Int) : Prop := (numF l x).2 = true → commitF ms.length (hvF l ms) ≤ (numF l x).1 → x ∈ ms → False
theorem known_no {l : List Ack} {ms ns : List Int} (h0 : ¬ commitF ms.length (hvF l ms) = 0) (hr : ((ms.length / 2 : Nat) : Int) + 1 ≤ (cntI ns ms : Int)) (hno : ∀ j : Nat, j < ns.length → knN l ms (gt ns (j : Int))) : False := by
  have h1 := com_at h0
  rw [geC_hv] at h1
  have h2 := cnt_sum (a := ns) (b := ms.filter fun m => (numF l m).2 && decide (commitF ms.length (hvF l ms) ≤ (numF l m).1)) (l := ms) (fun x hx ha hb => by
    obtain ⟨j, hj, e⟩ := mem_gt ha
    rw [List.mem_filter] at hb
    simp only [Bool.and_eq_true, decide_eq_true_eq] at hb
    exact hno j hj (by rw [e]; exact hb.2.1) (by rw [e]; exact hb.2.2) (by rw [e]; exact hx))
  have h3 : cntI (ms.filter fun m => (numF l m).2 && decide (commitF ms.length (hvF l ms) ≤ (numF l m).1)) ms = (ms.filter fun m => (numF l m).2 && decide (commitF ms.length (hvF l ms) ≤ (numF l m).1)).length := by
    unfold cntI
    congr 1
    exact List.filter_congr fun m hm => by rw [Bool.eq_iff_iff]; simp [List.mem_filter, hm]
  omega
theorem votesKnown_ct (e : Int) (A : Option Addr) (ms : List Int) (cp : Nat) (B : Option Addr) (l : List Ack) (cq : Nat) (D : Option Addr) (ns : List Int) (cr : Nat) (hn : ms.length ≤ cp) (hl : l.length ≤ cq) (hns : ns.length ≤ cr) (hns2 : ns.length ≤ 140737488355328) :
    Ct Try.prog 5 [grpV e A ms.length cp, .slice B l.length cq, .slice D ns.length cr] [] [Pers.row kI A ms, Pers.row kAck B l, Pers.row kI D ns] (fun u G Q => u = .bool true ∧ G = [] ∧ Q = []) := by
  have q1 : (ms.take 60).length ≤ 60 := by simp; omega
  have q2 : (l.take 60).length ≤ 60 := by simp; omega
  by_cases hh : 60 < (ns.length : Int)
  · have q3 : (seg ns 0 (60 : Int).toNat).length ≤ 140737488355328 := by simp [seg]; omega
    refine Ct.intro Try.func5 rfl rfl rfl (fun c hc => ?_)
    refine GC.seq' ?_
    refine GC.region ?_
    refine GL.step rfl (t_box rfl rfl rfl) (GL.ex fun b_t3 => ?_)
    refine GL.pure rfl (p_assign rfl) ?_
    refine GL.nil (?_ : GC _ _ _ _)
    refine GC.seq' ?_
    refine GC.seq' ?_
    refine GC.region ?_
    refine GL.step rfl (t_call rfl fn_15 rfl (is := []) (js := []) rfl rfl (by exact awake_ct)) (GL.ret ?_)
    rintro _ _ _ ⟨rfl, rfl, rfl⟩
    refine GL.pure rfl (p_not rfl) ?_
    refine GL.nil (?_ : GC _ _ _ _)
    refine GC.cond_false rfl ?_
    refine GC.skip (?_ : GC _ _ _ _)
    refine GC.seq' ?_
    refine GC.region ?_
    refine GL.step rfl (t_mem rfl (m_loadN (i := 0) rfl rfl ag_34 (vs := [_, _]) sz_34 ⟨rfl, rfl, trivial⟩)) ?_
    refine GL.step rfl (t_call rfl fn_16 rfl (is := []) (js := [0]) rfl rfl (by exact cut_ct _ _ ms _ hn)) (GL.ret ?_)
    rintro _ _ _ ⟨A14, cp14, rfl, rfl, rfl⟩
    refine GL.pure rfl (p_move rfl) ?_
    refine GL.step rfl (t_call rfl fn_6 rfl (is := []) (js := [2]) rfl rfl (by exact few_ct _ l _ hl)) (GL.ret ?_)
    rintro _ _ _ ⟨A16, cp16, rfl, rfl, rfl⟩
    refine GL.step rfl (t_storeN (i := 0) rfl rfl rfl sz_34 rfl rfl rfl) ?_
    refine GL.pure rfl (p_assign rfl) ?_
    refine GL.nil (?_ : GC _ _ _ _)
    refine GC.seq' ?_
    refine GC.seq' ?_
    refine GC.region ?_
    refine GL.pure rfl (p_move rfl) ?_
    refine GL.pure rfl (p_len Try.underlying22 rfl) ?_
    refine GL.pure rfl (p_gtr rfl rfl) ?_
    refine GL.nil (?_ : GC _ _ _ _)
    refine GC.cond rfl (fun h1 => ?_) (fun h1 => ?_)
    · try simp only [decide_eq_true_eq, decide_eq_false_iff_not, Bool.not_eq_true', Bool.not_eq_false', Bool.not_true, Bool.not_false, Bool.not_not, ne_eq, Decidable.not_not, Int.not_lt, Int.not_le, gt_iff_lt, ge_iff_le, bool_true_eq_, bool_false_eq_, chkE_iff] at h1
      first
      | (exfalso; first | omega | (simp at h1; done))
      | (skip
         refine GC.region ?_
         refine GL.pure rfl (p_move rfl) ?_
         refine GL.step rfl (t_cut_h (j := 4) rfl rfl rfl rfl Try.underlying22 sz_3 (by omega) (by omega) (by omega)) ?_
         refine GL.pure rfl (p_assign rfl) ?_
         refine GL.nil (?_ : GC _ _ _ _)
         refine GC.seq' ?_
         refine GC.region ?_
         refine GL.step rfl (t_mem rfl (m_loadN (i := 0) rfl rfl ag_34 (vs := [_, _]) sz_34 ⟨rfl, rfl, trivial⟩)) ?_
         refine GL.pure rfl (p_move rfl) ?_
         refine GL.step rfl (t_call rfl fn_17 rfl (is := []) (js := [2, 1]) rfl rfl (by exact commit_ct _ _ (ms.take 60) _ _ (l.take 60) _ (by omega) (by omega))) (GL.ret ?_)
         rintro _ _ _ ⟨rfl, rfl, rfl⟩
         refine GL.pure rfl (p_assign rfl) ?_
         refine GL.nil (?_ : GC _ _ _ _)
         refine GC.seq' ?_
         refine GC.seq' ?_
         refine GC.region ?_
         refine GL.pure rfl (p_move rfl) ?_
         refine GL.pure rfl (p_eql rfl rfl) ?_
         refine GL.pure rfl (p_move rfl) ?_
         refine GL.split (i := 27) rfl (fun h2 => ?_) (fun h2 => ?_)
         · try simp only [decide_eq_true_eq, decide_eq_false_iff_not, Bool.not_eq_true', Bool.not_eq_false', Bool.not_true, Bool.not_false, Bool.not_not, ne_eq, Decidable.not_not, Int.not_lt, Int.not_le, gt_iff_lt, ge_iff_le, bool_true_eq_, bool_false_eq_, chkE_iff] at h2
           first
           | (exfalso; first | omega | (simp at h2; done))
           | (skip
              refine GL.pass (s := 27) rfl rfl rfl ?_
              refine GL.pass (s := 27) rfl rfl rfl ?_
              refine GL.pass (s := 27) rfl rfl rfl ?_
              refine GL.pass (s := 27) rfl rfl rfl ?_
              refine GL.pure rfl (p_pick_true rfl rfl) ?_
              refine GL.pure rfl (p_move rfl) ?_
              refine GL.pass (s := 33) rfl rfl rfl ?_
              refine GL.pass (s := 33) rfl rfl rfl ?_
              refine GL.pass (s := 33) rfl rfl rfl ?_
              refine GL.pure rfl (p_pick_true rfl rfl) ?_
              refine GL.nil (?_ : GC _ _ _ _)
              refine GC.cond_true rfl ?_
              refine GC.seq' ?_
              refine GC.region ?_
              refine GL.pure rfl (p_assign rfl) ?_
              refine GL.nil (?_ : GC _ _ _ _)
              refine GC.ret ?_
              refine fun a w h => Fin.back (rs := [.tmp 6]) (vs := [_]) (is := []) (js := []) rfl ⟨rfl, trivial⟩ rfl rfl ?_ h
              clear h
              exact ⟨rfl, rfl, rfl⟩)
         · try simp only [decide_eq_true_eq, decide_eq_false_iff_not, Bool.not_eq_true', Bool.not_eq_false', Bool.not_true, Bool.not_false, Bool.not_not, ne_eq, Decidable.not_not, Int.not_lt, Int.not_le, gt_iff_lt, ge_iff_le, bool_true_eq_, bool_false_eq_, chkE_iff] at h2
           first
           | (exfalso; first | omega | (simp at h2; done))
           | (skip
              refine GL.stepG rfl (s := 27) rfl rfl (t_mem rfl (m_loadN (i := 0) rfl rfl ag_34 (vs := [_, _]) sz_34 ⟨rfl, rfl, trivial⟩)) ?_
              refine GL.pureG (s := 27) rfl rfl rfl (p_move rfl) ?_
              refine GL.stepG rfl (s := 27) rfl rfl (t_call rfl fn_18 rfl (is := []) (js := [2, 0]) rfl rfl (by exact rreached_ct _ _ (ms.take 60) _ _ (seg ns 0 (60 : Int).toNat) _ (by omega) q3)) (GL.ret ?_)
              rintro _ _ _ ⟨rfl, rfl, rfl⟩
              refine GL.pureG (s := 27) rfl rfl rfl (p_not rfl) ?_
              refine GL.pure rfl (p_pick_false rfl rfl) ?_
              refine GL.pure rfl (p_move rfl) ?_
              refine GL.split (i := 33) rfl (fun h3 => ?_) (fun h3 => ?_)
              · try simp only [decide_eq_true_eq, decide_eq_false_iff_not, Bool.not_eq_true', Bool.not_eq_false', Bool.not_true, Bool.not_false, Bool.not_not, ne_eq, Decidable.not_not, Int.not_lt, Int.not_le, gt_iff_lt, ge_iff_le, bool_true_eq_, bool_false_eq_, chkE_iff] at h3
                first
                | (exfalso; first | omega | (simp at h3; done))
                | (skip
                   refine GL.pass (s := 33) rfl rfl rfl ?_
                   refine GL.pass (s := 33) rfl rfl rfl ?_
                   refine GL.pass (s := 33) rfl rfl rfl ?_
                   refine GL.pure rfl (p_pick_true rfl rfl) ?_
                   refine GL.nil (?_ : GC _ _ _ _)
                   refine GC.cond_true rfl ?_
                   refine GC.seq' ?_
                   refine GC.region ?_
                   refine GL.pure rfl (p_assign rfl) ?_
                   refine GL.nil (?_ : GC _ _ _ _)
                   refine GC.ret ?_
                   refine fun a w h => Fin.back (rs := [.tmp 6]) (vs := [_]) (is := []) (js := []) rfl ⟨rfl, trivial⟩ rfl rfl ?_ h
                   clear h
                   exact ⟨rfl, rfl, rfl⟩)
              · try simp only [decide_eq_true_eq, decide_eq_false_iff_not, Bool.not_eq_true', Bool.not_eq_false', Bool.not_true, Bool.not_false, Bool.not_not, ne_eq, Decidable.not_not, Int.not_lt, Int.not_le, gt_iff_lt, ge_iff_le, bool_true_eq_, bool_false_eq_, chkE_iff] at h3
                first
                | (exfalso; first | omega | (simp at h3; done))
                | (skip
                   refine GL.stepG rfl (s := 33) rfl rfl (t_mem rfl (m_loadN (i := 0) rfl rfl ag_34 (vs := [_, _]) sz_34 ⟨rfl, rfl, trivial⟩)) ?_
                   refine GL.stepG rfl (s := 33) rfl rfl (t_call rfl fn_19 rfl (is := []) (js := [2]) rfl rfl (by exact rcheck_ct _ _ (ms.take 60) _ (by omega))) (GL.ret ?_)
                   rintro _ _ _ ⟨rfl, rfl, rfl⟩
                   refine GL.pureG (s := 33) rfl rfl rfl (p_neq rfl rfl) ?_
                   refine GL.pure rfl (p_pick_false rfl rfl) ?_
                   refine GL.nil (?_ : GC _ _ _ _)
                   refine GC.cond rfl (fun h4 => ?_) (fun h4 => ?_)
                   · try simp only [decide_eq_true_eq, decide_eq_false_iff_not, Bool.not_eq_true', Bool.not_eq_false', Bool.not_true, Bool.not_false, Bool.not_not, ne_eq, Decidable.not_not, Int.not_lt, Int.not_le, gt_iff_lt, ge_iff_le, bool_true_eq_, bool_false_eq_, chkE_iff] at h4
                     first
                     | (exfalso; first | omega | (simp at h4; done))
                     | (skip
                        refine GC.seq' ?_
                        refine GC.region ?_
                        refine GL.pure rfl (p_assign rfl) ?_
                        refine GL.nil (?_ : GC _ _ _ _)
                        refine GC.ret ?_
                        refine fun a w h => Fin.back (rs := [.tmp 6]) (vs := [_]) (is := []) (js := []) rfl ⟨rfl, trivial⟩ rfl rfl ?_ h
                        clear h
                        exact ⟨rfl, rfl, rfl⟩)
                   · try simp only [decide_eq_true_eq, decide_eq_false_iff_not, Bool.not_eq_true', Bool.not_eq_false', Bool.not_true, Bool.not_false, Bool.not_not, ne_eq, Decidable.not_not, Int.not_lt, Int.not_le, gt_iff_lt, ge_iff_le, bool_true_eq_, bool_false_eq_, chkE_iff] at h4
                     first
                     | (exfalso; first | omega | (simp at h4; done))
                     | (skip
                        refine GC.skip (?_ : GC _ _ _ _)
                        refine GC.seq' ?_
                        refine GC.seq' ?_
                        refine GC.region ?_
                        refine GL.pure rfl (p_assign rfl) ?_
                        refine GL.nil (?_ : GC _ _ _ _)
                        refine GC.block ?_
                        refine GC.loopK1 (ks := [1, 2, 3, 7]) (is := [0]) (js := [0, 1, 2, 3, 4, 5]) (fun (k : Nat) => k ≤ ((seg ns 0 (60 : Int).toNat)).length ∧ ∀ j : Nat, j < k → knN (l.take 60) (ms.take 60) (gt (seg ns 0 (60 : Int).toNat) (j : Int))) (fun (k : Nat) => [(8, .int .i64 (k : Int))]) (fun (k : Nat) => []) (fun (k : Nat) => []) (fun (k : Nat) => ((seg ns 0 (60 : Int).toNat)).length - k) (0) rfl rfl rfl (fun a w h => ⟨⟨by omega, fun j hj => by omega⟩, h.cutK (is := [0]) (js := [0, 1, 2, 3, 4, 5]) (ks := [1, 2, 3, 7]) ⟨rfl, trivial⟩ rfl rfl rfl⟩) ?_
                        intro k hk
                        try dsimp only [List.cons_append, List.nil_append] at hk ⊢
                        obtain ⟨hk, hno⟩ := hk
                        refine GC.seq' ?_
                        refine GC.seq' ?_
                        refine GC.region ?_
                        refine GL.pure rfl (p_move rfl) ?_
                        refine GL.pure rfl (p_move rfl) ?_
                        refine GL.pure rfl (p_len Try.underlying22 rfl) ?_
                        refine GL.pure rfl (p_lss rfl rfl) ?_
                        refine GL.nil (?_ : GC _ _ _ _)
                        refine GC.cond rfl (fun h5 => ?_) (fun h5 => ?_)
                        · try simp only [decide_eq_true_eq, decide_eq_false_iff_not, Bool.not_eq_true', Bool.not_eq_false', Bool.not_true, Bool.not_false, Bool.not_not, ne_eq, Decidable.not_not, Int.not_lt, Int.not_le, gt_iff_lt, ge_iff_le, bool_true_eq_, bool_false_eq_, chkE_iff] at h5
                          first
                          | (exfalso; first | omega | (simp at h5; done))
                          | (skip
                             refine GC.skip (?_ : GC _ _ _ _)
                             refine GC.seq' ?_
                             refine GC.block ?_
                             refine GC.seq' ?_
                             refine GC.region ?_
                             refine GL.pure rfl (p_move rfl) ?_
                             refine GL.pure rfl (p_move rfl) ?_
                             refine GL.pure rfl (p_move rfl) ?_
                             refine GL.step rfl (t_index (i := 0) rfl rfl rfl rfl Try.underlying22 sz_3 (by omega) (gt_ok (by omega) (by omega))) (GL.ex fun p_x48 => GL.ex fun r_x48 => GL.and fun ok_x48 => ?_)
                             rcases r_x48 with _
                             refine GL.step rfl (t_mem rfl (m_loadP (i := 0) rfl rfl ag_3 rfl)) ?_
                             refine GL.step rfl (t_call rfl fn_7 rfl (is := []) (js := [2]) rfl rfl (by exact num_ct _ (l.take 60) _ _ (by omega))) (GL.ret ?_)
                             rintro _ _ _ ⟨rfl, rfl, rfl⟩
                             refine GL.pure rfl (p_move rfl) ?_
                             refine GL.pure rfl (p_extract rfl rfl) ?_
                             refine GL.pure rfl (p_extract rfl rfl) ?_
                             refine GL.pure rfl (p_assign rfl) ?_
                             refine GL.pure rfl (p_assign rfl) ?_
                             refine GL.nil (?_ : GC _ _ _ _)
                             refine GC.seq' ?_
                             refine GC.layQ (y := .tmp 8) (j := 1) rfl rfl (by omega) (gt_ok (by omega) (by omega)) (fun p_x64 r_x64 hA_x64 ok_x64 => ?_)
                             rcases r_x64 with _
                             refine GC.regionQ wide_ (by kernel_rfl) ?_
                             refine GQ.step rfl (q_pure (p_move rfl)) ?_
                             refine GQ.step rfl (q_pure (p_move rfl)) ?_
                             refine GQ.split (i := 54) rfl (fun h6 => ?_) (fun h6 => ?_)
                             · try simp only [decide_eq_true_eq, decide_eq_false_iff_not, Bool.not_eq_true', Bool.not_eq_false', Bool.not_true, Bool.not_false, Bool.not_not, ne_eq, Decidable.not_not, Int.not_lt, Int.not_le, gt_iff_lt, ge_iff_le, bool_true_eq_, bool_false_eq_, chkE_iff] at h6
                               first
                               | (exfalso; first | omega | (simp at h6; done))
                               | (skip
                                  refine GQ.stepG (s := 54) rfl rfl rfl (q_pure (p_move rfl)) ?_
                                  refine GQ.stepG (s := 54) rfl rfl rfl (q_pure (p_move rfl)) ?_
                                  refine GQ.stepG (s := 54) rfl rfl rfl (q_pure (p_geq rfl rfl)) ?_
                                  refine GQ.step rfl (q_pure (p_pick_true rfl rfl)) ?_
                                  refine GQ.step rfl (q_pure (p_move rfl)) ?_
                                  refine GQ.split (i := 59) rfl (fun h7 => ?_) (fun h7 => ?_)
                                  · try simp only [decide_eq_true_eq, decide_eq_false_iff_not, Bool.not_eq_true', Bool.not_eq_false', Bool.not_true, Bool.not_false, Bool.not_not, ne_eq, Decidable.not_not, Int.not_lt, Int.not_le, gt_iff_lt, ge_iff_le, bool_true_eq_, bool_false_eq_, chkE_iff] at h7
                                    first
                                    | (exfalso; first | omega | (simp at h7; done))
                                    | (skip
                                       refine GQ.stepG (s := 59) rfl rfl rfl (q_pure (p_fieldAddr fo_34_1 rfl)) ?_
                                       refine GQ.stepG (s := 59) rfl rfl rfl (q_mem (m_load (i := 0) rfl rfl ag_22 rfl)) ?_
                                       refine GQ.stepG (s := 59) rfl rfl rfl (q_pure (p_move rfl)) ?_
                                       refine GQ.stepG (s := 59) rfl rfl rfl (q_pure (p_move rfl)) ?_
                                       refine GQ.stepG (s := 59) rfl rfl rfl (q_pure (p_indexL hA_x64 rfl rfl Try.underlying22 sz_3 (by omega) (by omega))) ?_
                                       refine GQ.stepG (s := 59) rfl rfl rfl (q_mem (m_loadP (i := 0) rfl rfl ag_3 rfl)) ?_
                                       refine GQ.stepG (s := 59) rfl rfl rfl (q_call fn_20 rfl (js := [4]) rfl (by exact in_ct _ (ms.take 60) _ _ (by omega))) ?_
                                       refine GQ.step rfl (q_pure (p_pick_true rfl rfl)) ?_
                                       refine GQ.nil (?_ : GC _ _ _ _)
                                       refine GC.cond rfl (fun h8 => ?_) (fun h8 => ?_)
                                       · try simp only [decide_eq_true_eq, decide_eq_false_iff_not, Bool.not_eq_true', Bool.not_eq_false', Bool.not_true, Bool.not_false, Bool.not_not, ne_eq, Decidable.not_not, Int.not_lt, Int.not_le, gt_iff_lt, ge_iff_le, bool_true_eq_, bool_false_eq_, chkE_iff] at h8
                                         first
                                         | (exfalso; first | omega | (simp at h8; done))
                                         | (skip
                                            refine GC.seq' ?_
                                            refine GC.region ?_
                                            refine GL.pure rfl (p_assign rfl) ?_
                                            refine GL.nil (?_ : GC _ _ _ _)
                                            refine GC.ret ?_
                                            refine fun a w h => Fin.back (rs := [.tmp 6]) (vs := [_]) (is := []) (js := []) rfl ⟨rfl, trivial⟩ rfl rfl ?_ h
                                            clear h
                                            exact ⟨rfl, rfl, rfl⟩)
                                       · try simp only [decide_eq_true_eq, decide_eq_false_iff_not, Bool.not_eq_true', Bool.not_eq_false', Bool.not_true, Bool.not_false, Bool.not_not, ne_eq, Decidable.not_not, Int.not_lt, Int.not_le, gt_iff_lt, ge_iff_le, bool_true_eq_, bool_false_eq_, chkE_iff] at h8
                                         first
                                         | (exfalso; first | omega | (simp at h8; done))
                                         | (skip
                                            refine GC.skip (?_ : GC _ _ _ _)
                                            refine GC.region ?_
                                            refine GL.pure rfl (p_move rfl) ?_
                                            refine GL.pure rfl (p_add rfl rfl (w64 (by omega) (by omega))) ?_
                                            refine GL.pure rfl (p_assign rfl) ?_
                                            refine GL.nil ?_
                                            exact fun a w h => ⟨(k + 1), (by omega), ⟨by omega, fun j hj => (Nat.lt_succ_iff_lt_or_eq.1 hj).elim (hno j) (fun e => by subst e; intro g1 g2 g3; first | (simp_all; done) | (exfalso; omega) | (simp_all; omega))⟩, h.cut (is := [0]) (js := [2, 3, 4, 5, 6, 7]) ⟨rfl, rfl, rfl, rfl, rfl, trivial⟩ rfl rfl⟩))
                                  · try simp only [decide_eq_true_eq, decide_eq_false_iff_not, Bool.not_eq_true', Bool.not_eq_false', Bool.not_true, Bool.not_false, Bool.not_not, ne_eq, Decidable.not_not, Int.not_lt, Int.not_le, gt_iff_lt, ge_iff_le, bool_true_eq_, bool_false_eq_, chkE_iff] at h7
                                    first
                                    | (exfalso; first | omega | (simp at h7; done))
                                    | (skip
                                       refine GQ.pass (s := 59) rfl rfl rfl ?_
                                       refine GQ.pass (s := 59) rfl rfl rfl ?_
                                       refine GQ.pass (s := 59) rfl rfl rfl ?_
                                       refine GQ.pass (s := 59) rfl rfl rfl ?_
                                       refine GQ.pass (s := 59) rfl rfl rfl ?_
                                       refine GQ.pass (s := 59) rfl rfl rfl ?_
                                       refine GQ.pass (s := 59) rfl rfl rfl ?_
                                       refine GQ.step rfl (q_pure (p_pick_false rfl rfl)) ?_
                                       refine GQ.nil (?_ : GC _ _ _ _)
                                       refine GC.cond_false rfl ?_
                                       refine GC.skip (?_ : GC _ _ _ _)
                                       refine GC.region ?_
                                       refine GL.pure rfl (p_move rfl) ?_
                                       refine GL.pure rfl (p_add rfl rfl (w64 (by omega) (by omega))) ?_
                                       refine GL.pure rfl (p_assign rfl) ?_
                                       refine GL.nil ?_
                                       exact fun a w h => ⟨(k + 1), (by omega), ⟨by omega, fun j hj => (Nat.lt_succ_iff_lt_or_eq.1 hj).elim (hno j) (fun e => by subst e; intro g1 g2 g3; first | (simp_all; done) | (exfalso; omega) | (simp_all; omega))⟩, h.cut (is := [0]) (js := [2, 3, 4, 5, 6, 7]) ⟨rfl, rfl, rfl, rfl, rfl, trivial⟩ rfl rfl⟩))
                             · try simp only [decide_eq_true_eq, decide_eq_false_iff_not, Bool.not_eq_true', Bool.not_eq_false', Bool.not_true, Bool.not_false, Bool.not_not, ne_eq, Decidable.not_not, Int.not_lt, Int.not_le, gt_iff_lt, ge_iff_le, bool_true_eq_, bool_false_eq_, chkE_iff] at h6
                               first
                               | (exfalso; first | omega | (simp at h6; done))
                               | (skip
                                  refine GQ.pass (s := 54) rfl rfl rfl ?_
                                  refine GQ.pass (s := 54) rfl rfl rfl ?_
                                  refine GQ.pass (s := 54) rfl rfl rfl ?_
                                  refine GQ.step rfl (q_pure (p_pick_false rfl rfl)) ?_
                                  refine GQ.step rfl (q_pure (p_move rfl)) ?_
                                  refine GQ.pass (s := 59) rfl rfl rfl ?_
                                  refine GQ.pass (s := 59) rfl rfl rfl ?_
                                  refine GQ.pass (s := 59) rfl rfl rfl ?_
                                  refine GQ.pass (s := 59) rfl rfl rfl ?_
                                  refine GQ.pass (s := 59) rfl rfl rfl ?_
                                  refine GQ.pass (s := 59) rfl rfl rfl ?_
                                  refine GQ.pass (s := 59) rfl rfl rfl ?_
                                  refine GQ.step rfl (q_pure (p_pick_false rfl rfl)) ?_
                                  refine GQ.nil (?_ : GC _ _ _ _)
                                  refine GC.cond_false rfl ?_
                                  refine GC.skip (?_ : GC _ _ _ _)
                                  refine GC.region ?_
                                  refine GL.pure rfl (p_move rfl) ?_
                                  refine GL.pure rfl (p_add rfl rfl (w64 (by omega) (by omega))) ?_
                                  refine GL.pure rfl (p_assign rfl) ?_
                                  refine GL.nil ?_
                                  exact fun a w h => ⟨(k + 1), (by omega), ⟨by omega, fun j hj => (Nat.lt_succ_iff_lt_or_eq.1 hj).elim (hno j) (fun e => by subst e; intro g1 g2 g3; first | (simp_all; done) | (exfalso; omega) | (simp_all; omega))⟩, h.cut (is := [0]) (js := [2, 3, 4, 5, 6, 7]) ⟨rfl, rfl, rfl, rfl, rfl, trivial⟩ rfl rfl⟩))
                        · try simp only [decide_eq_true_eq, decide_eq_false_iff_not, Bool.not_eq_true', Bool.not_eq_false', Bool.not_true, Bool.not_false, Bool.not_not, ne_eq, Decidable.not_not, Int.not_lt, Int.not_le, gt_iff_lt, ge_iff_le, bool_true_eq_, bool_false_eq_, chkE_iff] at h5
                          first
                          | (exfalso; first | omega | (simp at h5; done))
                          | (skip
                             refine GC.exit (?_ : GC _ _ _ _)
                             refine GC.seq' ?_
                             refine GC.region ?_
                             refine GL.pure rfl (p_assign rfl) ?_
                             refine GL.nil (?_ : GC _ _ _ _)
                             refine GC.ret ?_
                             refine fun a w h => Fin.back (rs := [.tmp 6]) (vs := [_]) (is := []) (js := []) rfl ⟨rfl, trivial⟩ rfl rfl ?_ h
                             clear h
                             exfalso
                             exact known_no (ns := (seg ns 0 (60 : Int).toNat)) (by assumption) (by omega) (fun j hj => hno j (by omega)))))))
    · try simp only [decide_eq_true_eq, decide_eq_false_iff_not, Bool.not_eq_true', Bool.not_eq_false', Bool.not_true, Bool.not_false, Bool.not_not, ne_eq, Decidable.not_not, Int.not_lt, Int.not_le, gt_iff_lt, ge_iff_le, bool_true_eq_, bool_false_eq_, chkE_iff] at h1
      exact absurd h1 (by omega)
  · have q3 : ns.length ≤ 140737488355328 := hns2
    refine Ct.intro Try.func5 rfl rfl rfl (fun c hc => ?_)
    refine GC.seq' ?_
    refine GC.region ?_
    refine GL.step rfl (t_box rfl rfl rfl) (GL.ex fun b_t3 => ?_)
    refine GL.pure rfl (p_assign rfl) ?_
    refine GL.nil (?_ : GC _ _ _ _)
    refine GC.seq' ?_
    refine GC.seq' ?_
    refine GC.region ?_
    refine GL.step rfl (t_call rfl fn_15 rfl (is := []) (js := []) rfl rfl (by exact awake_ct)) (GL.ret ?_)
    rintro _ _ _ ⟨rfl, rfl, rfl⟩
    refine GL.pure rfl (p_not rfl) ?_
    refine GL.nil (?_ : GC _ _ _ _)
    refine GC.cond_false rfl ?_
    refine GC.skip (?_ : GC _ _ _ _)
    refine GC.seq' ?_
    refine GC.region ?_
    refine GL.step rfl (t_mem rfl (m_loadN (i := 0) rfl rfl ag_34 (vs := [_, _]) sz_34 ⟨rfl, rfl, trivial⟩)) ?_
    refine GL.step rfl (t_call rfl fn_16 rfl (is := []) (js := [0]) rfl rfl (by exact cut_ct _ _ ms _ hn)) (GL.ret ?_)
    rintro _ _ _ ⟨A14, cp14, rfl, rfl, rfl⟩
    refine GL.pure rfl (p_move rfl) ?_
    refine GL.step rfl (t_call rfl fn_6 rfl (is := []) (js := [2]) rfl rfl (by exact few_ct _ l _ hl)) (GL.ret ?_)
    rintro _ _ _ ⟨A16, cp16, rfl, rfl, rfl⟩
    refine GL.step rfl (t_storeN (i := 0) rfl rfl rfl sz_34 rfl rfl rfl) ?_
    refine GL.pure rfl (p_assign rfl) ?_
    refine GL.nil (?_ : GC _ _ _ _)
    refine GC.seq' ?_
    refine GC.seq' ?_
    refine GC.region ?_
    refine GL.pure rfl (p_move rfl) ?_
    refine GL.pure rfl (p_len Try.underlying22 rfl) ?_
    refine GL.pure rfl (p_gtr rfl rfl) ?_
    refine GL.nil (?_ : GC _ _ _ _)
    refine GC.cond rfl (fun h1 => ?_) (fun h1 => ?_)
    · try simp only [decide_eq_true_eq, decide_eq_false_iff_not, Bool.not_eq_true', Bool.not_eq_false', Bool.not_true, Bool.not_false, Bool.not_not, ne_eq, Decidable.not_not, Int.not_lt, Int.not_le, gt_iff_lt, ge_iff_le, bool_true_eq_, bool_false_eq_, chkE_iff] at h1
      exact absurd h1 (by omega)
    · try simp only [decide_eq_true_eq, decide_eq_false_iff_not, Bool.not_eq_true', Bool.not_eq_false', Bool.not_true, Bool.not_false, Bool.not_not, ne_eq, Decidable.not_not, Int.not_lt, Int.not_le, gt_iff_lt, ge_iff_le, bool_true_eq_, bool_false_eq_, chkE_iff] at h1
      first
      | (exfalso; first | omega | (simp at h1; done))
      | (skip
         refine GC.skip (?_ : GC _ _ _ _)
         refine GC.seq' ?_
         refine GC.region ?_
         refine GL.step rfl (t_mem rfl (m_loadN (i := 0) rfl rfl ag_34 (vs := [_, _]) sz_34 ⟨rfl, rfl, trivial⟩)) ?_
         refine GL.pure rfl (p_move rfl) ?_
         refine GL.step rfl (t_call rfl fn_17 rfl (is := []) (js := [1, 0]) rfl rfl (by exact commit_ct _ _ (ms.take 60) _ _ (l.take 60) _ (by omega) (by omega))) (GL.ret ?_)
         rintro _ _ _ ⟨rfl, rfl, rfl⟩
         refine GL.pure rfl (p_assign rfl) ?_
         refine GL.nil (?_ : GC _ _ _ _)
         refine GC.seq' ?_
         refine GC.seq' ?_
         refine GC.region ?_
         refine GL.pure rfl (p_move rfl) ?_
         refine GL.pure rfl (p_eql rfl rfl) ?_
         refine GL.pure rfl (p_move rfl) ?_
         refine GL.split (i := 27) rfl (fun h2 => ?_) (fun h2 => ?_)
         · try simp only [decide_eq_true_eq, decide_eq_false_iff_not, Bool.not_eq_true', Bool.not_eq_false', Bool.not_true, Bool.not_false, Bool.not_not, ne_eq, Decidable.not_not, Int.not_lt, Int.not_le, gt_iff_lt, ge_iff_le, bool_true_eq_, bool_false_eq_, chkE_iff] at h2
           first
           | (exfalso; first | omega | (simp at h2; done))
           | (skip
              refine GL.pass (s := 27) rfl rfl rfl ?_
              refine GL.pass (s := 27) rfl rfl rfl ?_
              refine GL.pass (s := 27) rfl rfl rfl ?_
              refine GL.pass (s := 27) rfl rfl rfl ?_
              refine GL.pure rfl (p_pick_true rfl rfl) ?_
              refine GL.pure rfl (p_move rfl) ?_
              refine GL.pass (s := 33) rfl rfl rfl ?_
              refine GL.pass (s := 33) rfl rfl rfl ?_
              refine GL.pass (s := 33) rfl rfl rfl ?_
              refine GL.pure rfl (p_pick_true rfl rfl) ?_
              refine GL.nil (?_ : GC _ _ _ _)
              refine GC.cond_true rfl ?_
              refine GC.seq' ?_
              refine GC.region ?_
              refine GL.pure rfl (p_assign rfl) ?_
              refine GL.nil (?_ : GC _ _ _ _)
              refine GC.ret ?_
              refine fun a w h => Fin.back (rs := [.tmp 6]) (vs := [_]) (is := []) (js := []) rfl ⟨rfl, trivial⟩ rfl rfl ?_ h
              clear h
              exact ⟨rfl, rfl, rfl⟩)
         · try simp only [decide_eq_true_eq, decide_eq_false_iff_not, Bool.not_eq_true', Bool.not_eq_false', Bool.not_true, Bool.not_false, Bool.not_not, ne_eq, Decidable.not_not, Int.not_lt, Int.not_le, gt_iff_lt, ge_iff_le, bool_true_eq_, bool_false_eq_, chkE_iff] at h2
           first
           | (exfalso; first | omega | (simp at h2; done))
           | (skip
              refine GL.stepG rfl (s := 27) rfl rfl (t_mem rfl (m_loadN (i := 0) rfl rfl ag_34 (vs := [_, _]) sz_34 ⟨rfl, rfl, trivial⟩)) ?_
              refine GL.pureG (s := 27) rfl rfl rfl (p_move rfl) ?_
              refine GL.stepG rfl (s := 27) rfl rfl (t_call rfl fn_18 rfl (is := []) (js := [1, 4]) rfl rfl (by exact rreached_ct _ _ (ms.take 60) _ _ ns _ (by omega) q3)) (GL.ret ?_)
              rintro _ _ _ ⟨rfl, rfl, rfl⟩
              refine GL.pureG (s := 27) rfl rfl rfl (p_not rfl) ?_
              refine GL.pure rfl (p_pick_false rfl rfl) ?_
              refine GL.pure rfl (p_move rfl) ?_
              refine GL.split (i := 33) rfl (fun h3 => ?_) (fun h3 => ?_)
              · try simp only [decide_eq_true_eq, decide_eq_false_iff_not, Bool.not_eq_true', Bool.not_eq_false', Bool.not_true, Bool.not_false, Bool.not_not, ne_eq, Decidable.not_not, Int.not_lt, Int.not_le, gt_iff_lt, ge_iff_le, bool_true_eq_, bool_false_eq_, chkE_iff] at h3
                first
                | (exfalso; first | omega | (simp at h3; done))
                | (skip
                   refine GL.pass (s := 33) rfl rfl rfl ?_
                   refine GL.pass (s := 33) rfl rfl rfl ?_
                   refine GL.pass (s := 33) rfl rfl rfl ?_
                   refine GL.pure rfl (p_pick_true rfl rfl) ?_
                   refine GL.nil (?_ : GC _ _ _ _)
                   refine GC.cond_true rfl ?_
                   refine GC.seq' ?_
                   refine GC.region ?_
                   refine GL.pure rfl (p_assign rfl) ?_
                   refine GL.nil (?_ : GC _ _ _ _)
                   refine GC.ret ?_
                   refine fun a w h => Fin.back (rs := [.tmp 6]) (vs := [_]) (is := []) (js := []) rfl ⟨rfl, trivial⟩ rfl rfl ?_ h
                   clear h
                   exact ⟨rfl, rfl, rfl⟩)
              · try simp only [decide_eq_true_eq, decide_eq_false_iff_not, Bool.not_eq_true', Bool.not_eq_false', Bool.not_true, Bool.not_false, Bool.not_not, ne_eq, Decidable.not_not, Int.not_lt, Int.not_le, gt_iff_lt, ge_iff_le, bool_true_eq_, bool_false_eq_, chkE_iff] at h3
                first
                | (exfalso; first | omega | (simp at h3; done))
                | (skip
                   refine GL.stepG rfl (s := 33) rfl rfl (t_mem rfl (m_loadN (i := 0) rfl rfl ag_34 (vs := [_, _]) sz_34 ⟨rfl, rfl, trivial⟩)) ?_
                   refine GL.stepG rfl (s := 33) rfl rfl (t_call rfl fn_19 rfl (is := []) (js := [1]) rfl rfl (by exact rcheck_ct _ _ (ms.take 60) _ (by omega))) (GL.ret ?_)
                   rintro _ _ _ ⟨rfl, rfl, rfl⟩
                   refine GL.pureG (s := 33) rfl rfl rfl (p_neq rfl rfl) ?_
                   refine GL.pure rfl (p_pick_false rfl rfl) ?_
                   refine GL.nil (?_ : GC _ _ _ _)
                   refine GC.cond rfl (fun h4 => ?_) (fun h4 => ?_)
                   · try simp only [decide_eq_true_eq, decide_eq_false_iff_not, Bool.not_eq_true', Bool.not_eq_false', Bool.not_true, Bool.not_false, Bool.not_not, ne_eq, Decidable.not_not, Int.not_lt, Int.not_le, gt_iff_lt, ge_iff_le, bool_true_eq_, bool_false_eq_, chkE_iff] at h4
                     first
                     | (exfalso; first | omega | (simp at h4; done))
                     | (skip
                        refine GC.seq' ?_
                        refine GC.region ?_
                        refine GL.pure rfl (p_assign rfl) ?_
                        refine GL.nil (?_ : GC _ _ _ _)
                        refine GC.ret ?_
                        refine fun a w h => Fin.back (rs := [.tmp 6]) (vs := [_]) (is := []) (js := []) rfl ⟨rfl, trivial⟩ rfl rfl ?_ h
                        clear h
                        exact ⟨rfl, rfl, rfl⟩)
                   · try simp only [decide_eq_true_eq, decide_eq_false_iff_not, Bool.not_eq_true', Bool.not_eq_false', Bool.not_true, Bool.not_false, Bool.not_not, ne_eq, Decidable.not_not, Int.not_lt, Int.not_le, gt_iff_lt, ge_iff_le, bool_true_eq_, bool_false_eq_, chkE_iff] at h4
                     first
                     | (exfalso; first | omega | (simp at h4; done))
                     | (skip
                        refine GC.skip (?_ : GC _ _ _ _)
                        refine GC.seq' ?_
                        refine GC.seq' ?_
                        refine GC.region ?_
                        refine GL.pure rfl (p_assign rfl) ?_
                        refine GL.nil (?_ : GC _ _ _ _)
                        refine GC.block ?_
                        refine GC.loopK1 (ks := [1, 2, 3, 7]) (is := [0]) (js := [0, 1, 2, 3, 4]) (fun (k : Nat) => k ≤ (ns).length ∧ ∀ j : Nat, j < k → knN (l.take 60) (ms.take 60) (gt ns (j : Int))) (fun (k : Nat) => [(8, .int .i64 (k : Int))]) (fun (k : Nat) => []) (fun (k : Nat) => []) (fun (k : Nat) => (ns).length - k) (0) rfl rfl rfl (fun a w h => ⟨⟨by omega, fun j hj => by omega⟩, h.cutK (is := [0]) (js := [0, 1, 2, 3, 4]) (ks := [1, 2, 3, 7]) ⟨rfl, trivial⟩ rfl rfl rfl⟩) ?_
                        intro k hk
                        try dsimp only [List.cons_append, List.nil_append] at hk ⊢
                        obtain ⟨hk, hno⟩ := hk
                        refine GC.seq' ?_
                        refine GC.seq' ?_
                        refine GC.region ?_
                        refine GL.pure rfl (p_move rfl) ?_
                        refine GL.pure rfl (p_move rfl) ?_
                        refine GL.pure rfl (p_len Try.underlying22 rfl) ?_
                        refine GL.pure rfl (p_lss rfl rfl) ?_
                        refine GL.nil (?_ : GC _ _ _ _)
                        refine GC.cond rfl (fun h5 => ?_) (fun h5 => ?_)
                        · try simp only [decide_eq_true_eq, decide_eq_false_iff_not, Bool.not_eq_true', Bool.not_eq_false', Bool.not_true, Bool.not_false, Bool.not_not, ne_eq, Decidable.not_not, Int.not_lt, Int.not_le, gt_iff_lt, ge_iff_le, bool_true_eq_, bool_false_eq_, chkE_iff] at h5
                          first
                          | (exfalso; first | omega | (simp at h5; done))
                          | (skip
                             refine GC.skip (?_ : GC _ _ _ _)
                             refine GC.seq' ?_
                             refine GC.block ?_
                             refine GC.seq' ?_
                             refine GC.region ?_
                             refine GL.pure rfl (p_move rfl) ?_
                             refine GL.pure rfl (p_move rfl) ?_
                             refine GL.pure rfl (p_move rfl) ?_
                             refine GL.step rfl (t_index (i := 4) rfl rfl rfl rfl Try.underlying22 sz_3 (by omega) (gt_ok (by omega) (by omega))) (GL.ex fun p_x48 => GL.ex fun r_x48 => GL.and fun ok_x48 => ?_)
                             rcases r_x48 with _
                             refine GL.step rfl (t_mem rfl (m_loadP (i := 0) rfl rfl ag_3 rfl)) ?_
                             refine GL.step rfl (t_call rfl fn_7 rfl (is := []) (js := [1]) rfl rfl (by exact num_ct _ (l.take 60) _ _ (by omega))) (GL.ret ?_)
                             rintro _ _ _ ⟨rfl, rfl, rfl⟩
                             refine GL.pure rfl (p_move rfl) ?_
                             refine GL.pure rfl (p_extract rfl rfl) ?_
                             refine GL.pure rfl (p_extract rfl rfl) ?_
                             refine GL.pure rfl (p_assign rfl) ?_
                             refine GL.pure rfl (p_assign rfl) ?_
                             refine GL.nil (?_ : GC _ _ _ _)
                             refine GC.seq' ?_
                             refine GC.layQ (y := .tmp 8) (j := 5) rfl rfl (by omega) (gt_ok (by omega) (by omega)) (fun p_x64 r_x64 hA_x64 ok_x64 => ?_)
                             rcases r_x64 with _
                             refine GC.regionQ wide_ (by kernel_rfl) ?_
                             refine GQ.step rfl (q_pure (p_move rfl)) ?_
                             refine GQ.step rfl (q_pure (p_move rfl)) ?_
                             refine GQ.split (i := 54) rfl (fun h6 => ?_) (fun h6 => ?_)
                             · try simp only [decide_eq_true_eq, decide_eq_false_iff_not, Bool.not_eq_true', Bool.not_eq_false', Bool.not_true, Bool.not_false, Bool.not_not, ne_eq, Decidable.not_not, Int.not_lt, Int.not_le, gt_iff_lt, ge_iff_le, bool_true_eq_, bool_false_eq_, chkE_iff] at h6
                               first
                               | (exfalso; first | omega | (simp at h6; done))
                               | (skip
                                  refine GQ.stepG (s := 54) rfl rfl rfl (q_pure (p_move rfl)) ?_
                                  refine GQ.stepG (s := 54) rfl rfl rfl (q_pure (p_move rfl)) ?_
                                  refine GQ.stepG (s := 54) rfl rfl rfl (q_pure (p_geq rfl rfl)) ?_
                                  refine GQ.step rfl (q_pure (p_pick_true rfl rfl)) ?_
                                  refine GQ.step rfl (q_pure (p_move rfl)) ?_
                                  refine GQ.split (i := 59) rfl (fun h7 => ?_) (fun h7 => ?_)
                                  · try simp only [decide_eq_true_eq, decide_eq_false_iff_not, Bool.not_eq_true', Bool.not_eq_false', Bool.not_true, Bool.not_false, Bool.not_not, ne_eq, Decidable.not_not, Int.not_lt, Int.not_le, gt_iff_lt, ge_iff_le, bool_true_eq_, bool_false_eq_, chkE_iff] at h7
                                    first
                                    | (exfalso; first | omega | (simp at h7; done))
                                    | (skip
                                       refine GQ.stepG (s := 59) rfl rfl rfl (q_pure (p_fieldAddr fo_34_1 rfl)) ?_
                                       refine GQ.stepG (s := 59) rfl rfl rfl (q_mem (m_load (i := 0) rfl rfl ag_22 rfl)) ?_
                                       refine GQ.stepG (s := 59) rfl rfl rfl (q_pure (p_move rfl)) ?_
                                       refine GQ.stepG (s := 59) rfl rfl rfl (q_pure (p_move rfl)) ?_
                                       refine GQ.stepG (s := 59) rfl rfl rfl (q_pure (p_indexL hA_x64 rfl rfl Try.underlying22 sz_3 (by omega) (by omega))) ?_
                                       refine GQ.stepG (s := 59) rfl rfl rfl (q_mem (m_loadP (i := 0) rfl rfl ag_3 rfl)) ?_
                                       refine GQ.stepG (s := 59) rfl rfl rfl (q_call fn_20 rfl (js := [3]) rfl (by exact in_ct _ (ms.take 60) _ _ (by omega))) ?_
                                       refine GQ.step rfl (q_pure (p_pick_true rfl rfl)) ?_
                                       refine GQ.nil (?_ : GC _ _ _ _)
                                       refine GC.cond rfl (fun h8 => ?_) (fun h8 => ?_)
                                       · try simp only [decide_eq_true_eq, decide_eq_false_iff_not, Bool.not_eq_true', Bool.not_eq_false', Bool.not_true, Bool.not_false, Bool.not_not, ne_eq, Decidable.not_not, Int.not_lt, Int.not_le, gt_iff_lt, ge_iff_le, bool_true_eq_, bool_false_eq_, chkE_iff] at h8
                                         first
                                         | (exfalso; first | omega | (simp at h8; done))
                                         | (skip
                                            refine GC.seq' ?_
                                            refine GC.region ?_
                                            refine GL.pure rfl (p_assign rfl) ?_
                                            refine GL.nil (?_ : GC _ _ _ _)
                                            refine GC.ret ?_
                                            refine fun a w h => Fin.back (rs := [.tmp 6]) (vs := [_]) (is := []) (js := []) rfl ⟨rfl, trivial⟩ rfl rfl ?_ h
                                            clear h
                                            exact ⟨rfl, rfl, rfl⟩)
                                       · try simp only [decide_eq_true_eq, decide_eq_false_iff_not, Bool.not_eq_true', Bool.not_eq_false', Bool.not_true, Bool.not_false, Bool.not_not, ne_eq, Decidable.not_not, Int.not_lt, Int.not_le, gt_iff_lt, ge_iff_le, bool_true_eq_, bool_false_eq_, chkE_iff] at h8
                                         first
                                         | (exfalso; first | omega | (simp at h8; done))
                                         | (skip
                                            refine GC.skip (?_ : GC _ _ _ _)
                                            refine GC.region ?_
                                            refine GL.pure rfl (p_move rfl) ?_
                                            refine GL.pure rfl (p_add rfl rfl (w64 (by omega) (by omega))) ?_
                                            refine GL.pure rfl (p_assign rfl) ?_
                                            refine GL.nil ?_
                                            exact fun a w h => ⟨(k + 1), (by omega), ⟨by omega, fun j hj => (Nat.lt_succ_iff_lt_or_eq.1 hj).elim (hno j) (fun e => by subst e; intro g1 g2 g3; first | (simp_all; done) | (exfalso; omega) | (simp_all; omega))⟩, h.cut (is := [0]) (js := [2, 3, 4, 5, 6]) ⟨rfl, rfl, rfl, rfl, rfl, trivial⟩ rfl rfl⟩))
                                  · try simp only [decide_eq_true_eq, decide_eq_false_iff_not, Bool.not_eq_true', Bool.not_eq_false', Bool.not_true, Bool.not_false, Bool.not_not, ne_eq, Decidable.not_not, Int.not_lt, Int.not_le, gt_iff_lt, ge_iff_le, bool_true_eq_, bool_false_eq_, chkE_iff] at h7
                                    first
                                    | (exfalso; first | omega | (simp at h7; done))
                                    | (skip
                                       refine GQ.pass (s := 59) rfl rfl rfl ?_
                                       refine GQ.pass (s := 59) rfl rfl rfl ?_
                                       refine GQ.pass (s := 59) rfl rfl rfl ?_
                                       refine GQ.pass (s := 59) rfl rfl rfl ?_
                                       refine GQ.pass (s := 59) rfl rfl rfl ?_
                                       refine GQ.pass (s := 59) rfl rfl rfl ?_
                                       refine GQ.pass (s := 59) rfl rfl rfl ?_
                                       refine GQ.step rfl (q_pure (p_pick_false rfl rfl)) ?_
                                       refine GQ.nil (?_ : GC _ _ _ _)
                                       refine GC.cond_false rfl ?_
                                       refine GC.skip (?_ : GC _ _ _ _)
                                       refine GC.region ?_
                                       refine GL.pure rfl (p_move rfl) ?_
                                       refine GL.pure rfl (p_add rfl rfl (w64 (by omega) (by omega))) ?_
                                       refine GL.pure rfl (p_assign rfl) ?_
                                       refine GL.nil ?_
                                       exact fun a w h => ⟨(k + 1), (by omega), ⟨by omega, fun j hj => (Nat.lt_succ_iff_lt_or_eq.1 hj).elim (hno j) (fun e => by subst e; intro g1 g2 g3; first | (simp_all; done) | (exfalso; omega) | (simp_all; omega))⟩, h.cut (is := [0]) (js := [2, 3, 4, 5, 6]) ⟨rfl, rfl, rfl, rfl, rfl, trivial⟩ rfl rfl⟩))
                             · try simp only [decide_eq_true_eq, decide_eq_false_iff_not, Bool.not_eq_true', Bool.not_eq_false', Bool.not_true, Bool.not_false, Bool.not_not, ne_eq, Decidable.not_not, Int.not_lt, Int.not_le, gt_iff_lt, ge_iff_le, bool_true_eq_, bool_false_eq_, chkE_iff] at h6
                               first
                               | (exfalso; first | omega | (simp at h6; done))
                               | (skip
                                  refine GQ.pass (s := 54) rfl rfl rfl ?_
                                  refine GQ.pass (s := 54) rfl rfl rfl ?_
                                  refine GQ.pass (s := 54) rfl rfl rfl ?_
                                  refine GQ.step rfl (q_pure (p_pick_false rfl rfl)) ?_
                                  refine GQ.step rfl (q_pure (p_move rfl)) ?_
                                  refine GQ.pass (s := 59) rfl rfl rfl ?_
                                  refine GQ.pass (s := 59) rfl rfl rfl ?_
                                  refine GQ.pass (s := 59) rfl rfl rfl ?_
                                  refine GQ.pass (s := 59) rfl rfl rfl ?_
                                  refine GQ.pass (s := 59) rfl rfl rfl ?_
                                  refine GQ.pass (s := 59) rfl rfl rfl ?_
                                  refine GQ.pass (s := 59) rfl rfl rfl ?_
                                  refine GQ.step rfl (q_pure (p_pick_false rfl rfl)) ?_
                                  refine GQ.nil (?_ : GC _ _ _ _)
                                  refine GC.cond_false rfl ?_
                                  refine GC.skip (?_ : GC _ _ _ _)
                                  refine GC.region ?_
                                  refine GL.pure rfl (p_move rfl) ?_
                                  refine GL.pure rfl (p_add rfl rfl (w64 (by omega) (by omega))) ?_
                                  refine GL.pure rfl (p_assign rfl) ?_
                                  refine GL.nil ?_
                                  exact fun a w h => ⟨(k + 1), (by omega), ⟨by omega, fun j hj => (Nat.lt_succ_iff_lt_or_eq.1 hj).elim (hno j) (fun e => by subst e; intro g1 g2 g3; first | (simp_all; done) | (exfalso; omega) | (simp_all; omega))⟩, h.cut (is := [0]) (js := [2, 3, 4, 5, 6]) ⟨rfl, rfl, rfl, rfl, rfl, trivial⟩ rfl rfl⟩))
                        · try simp only [decide_eq_true_eq, decide_eq_false_iff_not, Bool.not_eq_true', Bool.not_eq_false', Bool.not_true, Bool.not_false, Bool.not_not, ne_eq, Decidable.not_not, Int.not_lt, Int.not_le, gt_iff_lt, ge_iff_le, bool_true_eq_, bool_false_eq_, chkE_iff] at h5
                          first
                          | (exfalso; first | omega | (simp at h5; done))
                          | (skip
                             refine GC.exit (?_ : GC _ _ _ _)
                             refine GC.seq' ?_
                             refine GC.region ?_
                             refine GL.pure rfl (p_assign rfl) ?_
                             refine GL.nil (?_ : GC _ _ _ _)
                             refine GC.ret ?_
                             refine fun a w h => Fin.back (rs := [.tmp 6]) (vs := [_]) (is := []) (js := []) rfl ⟨rfl, trivial⟩ rfl rfl ?_ h
                             clear h
                             exfalso
                             exact known_no (ns := ns) (by assumption) (by omega) (fun j hj => hno j (by omega)))))))
end Go.Proofs.Ytmjfkjajedhciaa
