/- VOTES: up to which number a quorum has the log; who is behind. -/
import Derived.Test.YtmjfkjajedhciaaVa9
set_option linter.unusedVariables false
set_option linter.unusedSimpArgs false
set_option maxRecDepth 100000
namespace Go.Proofs.Ytmjfkjajedhciaa
open Go Go.Sx Go.Proofs
def hvF (l : List Ack) (ms : List Int) : List Int := ms.filterMap fun m => if (numF l m).2 = true then some (numF l m).1 else none
theorem hv_take {l : List Ack} {ms : List Int} {k : Nat} (hk : k < ms.length) : hvF l (ms.take (k + 1)) = hvF l (ms.take k) ++ (if (numF l (gt ms (k : Int))).2 = true then [(numF l (gt ms (k : Int))).1] else []) := by
  rw [take_gtI hk, hvF, List.filterMap_append]
  by_cases h : (numF l (gt ms (k : Int))).2 = true <;> simp [h, hvF]
theorem hv_le (l : List Ack) (ms : List Int) (k : Nat) : (hvF l (ms.take k)).length ≤ k := by
  refine Nat.le_trans (List.length_filterMap_le _ _) ?_
  simp; omega
def srt (h : List Int) : List Int := h.mergeSort fun x y => decide (x ≤ y)
def commitF (n : Nat) (h : List Int) : Int := if h.length < n / 2 + 1 then 0 else max (gt (srt h) ((h.length : Int) - (((n / 2 : Nat) : Int) + 1))) 0
theorem commit_ct (e : Int) (A : Option Addr) (ms : List Int) (cp : Nat) (B : Option Addr) (l : List Ack) (cq : Nat) (hm : ms.length ≤ 1000000) (hl : l.length ≤ 1000000) : Ct Try.prog 17 [grpV e A ms.length cp, .slice B l.length cq] [] [Pers.row kI A ms, Pers.row kAck B l]
    (fun u G Q => u = .int .i64 (commitF ms.length (hvF l ms)) ∧ G = [] ∧ Q = []) := by
  refine Ct.intro Try.func17 rfl rfl rfl (fun c hc => ?_)
  refine GC.seq' ?_
  refine GC.region ?_
  refine GL.step rfl (t_box rfl rfl rfl) (GL.ex fun b_t2 => ?_)
  refine GL.pure rfl (p_assign rfl) ?_
  refine GL.nil (?_ : GC _ _ _ _)
  refine GC.seq' ?_
  refine GC.region ?_
  refine GL.pure rfl (p_assign rfl) ?_
  refine GL.nil (?_ : GC _ _ _ _)
  refine GC.seq' ?_
  refine GC.seq' ?_
  refine GC.region ?_
  refine GL.nilrow 3 1 ?_
  refine GL.know (q := Pers.reps kI [] []) (fun _ _ _ => rfl) ?_
  refine GL.pure rfl (p_fieldAddr fo_34_1 rfl) ?_
  refine GL.step rfl (t_mem rfl (m_load (i := 1) rfl rfl ag_22 rfl)) ?_
  refine GL.pure rfl (p_len Try.underlying22 rfl) ?_
  refine GL.pure rfl (p_move rfl) ?_
  refine GL.nil (?_ : GC _ _ _ _)
  refine GC.block ?_
  refine GC.loopK3 (ks := [1, 2, 12, 13]) (is := [1]) (js := [1, 2]) (fun (k : Nat) (A1 : Option Addr) (c1 : Nat) => k ≤ ms.length) (fun (k : Nat) (A1 : Option Addr) (c1 : Nat) => [(5, .slice A1 (hvF l (ms.take k)).length c1), (14, .int .i64 (k : Int))]) (fun (k : Nat) (A1 : Option Addr) (c1 : Nat) => [.row (.slice A1 (hvF l (ms.take k)).length c1) 3 1 (hvF l (ms.take k)).length ((hvF l (ms.take k)).map iv)]) (fun (k : Nat) (A1 : Option Addr) (c1 : Nat) => []) (fun (k : Nat) (A1 : Option Addr) (c1 : Nat) => ms.length - k) (0) (none) (0) rfl rfl rfl (fun a w h => ⟨by omega, h.cutK (is := [0, 0]) (js := [1, 2]) (ks := [1, 2, 12, 13]) ⟨rfl, rfl, trivial⟩ rfl rfl rfl⟩) ?_
  intro k A1 c1 hk
  try dsimp only [List.cons_append, List.nil_append] at hk ⊢
  refine GC.seq' ?_
  refine GC.region ?_
  refine GL.pure rfl (p_lss rfl rfl) ?_
  refine GL.nil (?_ : GC _ _ _ _)
  refine GC.seq' ?_
  refine GC.cond rfl (fun h1 => ?_) (fun h1 => ?_)
  · try simp only [decide_eq_true_eq, decide_eq_false_iff_not, Bool.not_eq_true', Bool.not_eq_false', Bool.not_true, Bool.not_false, Bool.not_not, ne_eq, Decidable.not_not, Int.not_lt, Int.not_le, gt_iff_lt, ge_iff_le, bool_true_eq_, bool_false_eq_] at h1
    refine GC.skip (?_ : GC _ _ _ _)
    refine GC.seq' ?_
    refine GC.block ?_
    refine GC.seq' ?_
    refine GC.region ?_
    refine GL.step rfl (t_index (i := 0) rfl rfl rfl rfl Try.underlying22 sz_3 (by omega) (gt_ok (by omega) (by omega))) (GL.ex fun p_x16 => GL.ex fun r_x16 => GL.and fun ok_x16 => ?_)
    rcases r_x16 with _
    refine GL.step rfl (t_mem rfl (m_loadP (i := 0) rfl rfl ag_3 rfl)) ?_
    refine GL.pure rfl (p_assign rfl) ?_
    refine GL.nil (?_ : GC _ _ _ _)
    refine GC.seq' ?_
    refine GC.region ?_
    refine GL.pure rfl (p_move rfl) ?_
    refine GL.pure rfl (p_move rfl) ?_
    refine GL.step rfl (t_call rfl fn_7 rfl (is := []) (js := [2]) rfl rfl (by exact num_ct _ l _ _ (by omega))) (GL.ret ?_)
    rintro _ _ _ ⟨rfl, rfl, rfl⟩
    refine GL.pure rfl (p_move rfl) ?_
    refine GL.pure rfl (p_extract rfl rfl) ?_
    refine GL.pure rfl (p_extract rfl rfl) ?_
    refine GL.pure rfl (p_assign rfl) ?_
    refine GL.pure rfl (p_assign rfl) ?_
    refine GL.nil (?_ : GC _ _ _ _)
    refine GC.seq' ?_
    refine GC.region ?_
    refine GL.pure rfl (p_move rfl) ?_
    refine GL.nil (?_ : GC _ _ _ _)
    refine GC.cond rfl (fun h2 => ?_) (fun h2 => ?_)
    · try simp only [decide_eq_true_eq, decide_eq_false_iff_not, Bool.not_eq_true', Bool.not_eq_false', Bool.not_true, Bool.not_false, Bool.not_not, ne_eq, Decidable.not_not, Int.not_lt, Int.not_le, gt_iff_lt, ge_iff_le, bool_true_eq_, bool_false_eq_] at h2
      refine GC.region ?_
      refine GL.pure rfl (p_move rfl) ?_
      refine GL.pure rfl (p_move rfl) ?_
      refine GL.step rfl (t_buildSlice rfl Try.underlying22 sz_3 ze_3 rfl rfl rfl rfl rfl rfl) (GL.ex fun b_t27 => ?_)
      refine GL.step rfl (t_append (i := 1) (k := 0) rfl el_22 rfl rfl rfl rfl rfl (allOne_mem rfl) (by have := hv_le l ms k; omega) (fun _ => rfl)) (GL.ex fun v28 => ?_)
      refine GL.rowIs (i := 1) (m' := (hvF l (ms.take k) ++ [(numF l (gt ms (k : Int))).1]).length) (cs' := (hvF l (ms.take k) ++ [(numF l (gt ms (k : Int))).1]).map (Value.int .i64)) rfl (by first | rfl | (simp; done) | (simp; omega)) (by first | rfl | (simp; done)) rfl ?_
      refine GL.shape (i := 1) rfl (fun A_D c_D e_D l_D k_D => ?_)
      subst e_D
      refine GL.pure rfl (p_assign rfl) ?_
      refine GL.nil (?_ : GC _ _ _ _)
      refine GC.region ?_
      refine GL.pure rfl (p_add rfl rfl (w64 (by omega) (by omega))) ?_
      refine GL.pure rfl (p_move rfl) ?_
      refine GL.nil ?_
      skip
      exact fun a w h => ⟨(k + 1), (_), (_), (by omega), by omega, by rw [hv_take (by omega), if_pos (by simp_all)]; exact h.cut (is := [1, 1]) (js := [1, 2]) ⟨rfl, rfl, rfl, rfl, rfl, rfl, trivial⟩ rfl rfl⟩
    · try simp only [decide_eq_true_eq, decide_eq_false_iff_not, Bool.not_eq_true', Bool.not_eq_false', Bool.not_true, Bool.not_false, Bool.not_not, ne_eq, Decidable.not_not, Int.not_lt, Int.not_le, gt_iff_lt, ge_iff_le, bool_true_eq_, bool_false_eq_] at h2
      refine GC.skip (?_ : GC _ _ _ _)
      refine GC.region ?_
      refine GL.pure rfl (p_add rfl rfl (w64 (by omega) (by omega))) ?_
      refine GL.pure rfl (p_move rfl) ?_
      refine GL.nil ?_
      skip
      exact fun a w h => ⟨(k + 1), (_), (_), (by omega), by omega, by rw [hv_take (by omega), if_neg (by simp_all), List.append_nil]; exact h.cut (is := [0, 0]) (js := [1, 2]) ⟨rfl, rfl, rfl, rfl, rfl, rfl, trivial⟩ rfl rfl⟩
  · try simp only [decide_eq_true_eq, decide_eq_false_iff_not, Bool.not_eq_true', Bool.not_eq_false', Bool.not_true, Bool.not_false, Bool.not_not, ne_eq, Decidable.not_not, Int.not_lt, Int.not_le, gt_iff_lt, ge_iff_le, bool_true_eq_, bool_false_eq_] at h1
    refine GC.exit (?_ : GC _ _ _ _)
    refine GC.seq' ?_
    refine GC.region ?_
    obtain rfl : k = ms.length := by omega
    rw [List.take_length]
    have hvl := hv_le l ms ms.length
    rw [List.take_length] at hvl
    refine GL.step rfl (t_mem rfl (m_loadN (i := 1) rfl rfl ag_34 (vs := [_, _]) sz_34 ⟨rfl, rfl, trivial⟩)) ?_
    refine GL.step rfl (t_call rfl fn_32 rfl (is := []) (js := []) rfl rfl (by exact quorum_ct _ _ ms.length _ (by omega))) (GL.ret ?_)
    rintro _ _ _ ⟨rfl, rfl, rfl⟩
    refine GL.pure rfl (p_assign rfl) ?_
    refine GL.nil (?_ : GC _ _ _ _)
    refine GC.seq' ?_
    refine GC.seq' ?_
    refine GC.region ?_
    refine GL.pure rfl (p_move rfl) ?_
    refine GL.pure rfl (p_len Try.underlying22 rfl) ?_
    refine GL.pure rfl (p_move rfl) ?_
    refine GL.pure rfl (p_lss rfl rfl) ?_
    refine GL.nil (?_ : GC _ _ _ _)
    refine GC.cond rfl (fun h3 => ?_) (fun h3 => ?_)
    · try simp only [decide_eq_true_eq, decide_eq_false_iff_not, Bool.not_eq_true', Bool.not_eq_false', Bool.not_true, Bool.not_false, Bool.not_not, ne_eq, Decidable.not_not, Int.not_lt, Int.not_le, gt_iff_lt, ge_iff_le, bool_true_eq_, bool_false_eq_] at h3
      refine GC.seq' ?_
      refine GC.region ?_
      refine GL.pure rfl (p_assign rfl) ?_
      refine GL.nil (?_ : GC _ _ _ _)
      refine GC.ret ?_
      refine fun a w h => Fin.back (rs := [.tmp 4]) (vs := [_]) (is := []) (js := []) rfl ⟨rfl, trivial⟩ rfl rfl ?_ h
      clear h
      refine ⟨congrArg (Value.int .i64) ?_, rfl, rfl⟩
      rw [commitF, if_pos (by omega)]
    · try simp only [decide_eq_true_eq, decide_eq_false_iff_not, Bool.not_eq_true', Bool.not_eq_false', Bool.not_true, Bool.not_false, Bool.not_not, ne_eq, Decidable.not_not, Int.not_lt, Int.not_le, gt_iff_lt, ge_iff_le, bool_true_eq_, bool_false_eq_] at h3
      refine GC.skip (?_ : GC _ _ _ _)
      refine GC.seq' ?_
      refine GC.region ?_
      refine GL.pure rfl (p_move rfl) ?_
      refine GL.step rfl (t_call rfl fn_22 rfl (is := [0]) (js := []) rfl rfl (by exact sortI_ct _ _ _ (hvF l ms) rfl (by have := hv_le l ms ms.length; rw [List.take_length] at this; omega))) (GL.ret ?_)
      rintro _ _ _ ⟨rfl, rfl, rfl⟩
      refine GL.nil (?_ : GC _ _ _ _)
      refine GC.seq' ?_
      refine GC.region ?_
      refine GL.pure rfl (p_move rfl) ?_
      refine GL.pure rfl (p_move rfl) ?_
      refine GL.pure rfl (p_len Try.underlying22 rfl) ?_
      refine GL.pure rfl (p_move rfl) ?_
      refine GL.pure rfl (p_sub rfl rfl (w64 (by omega) (by omega))) ?_
      have hsl : (srt (hvF l ms)).length = (hvF l ms).length := List.length_mergeSort _
      refine GL.unrow (i := 0) rfl (by omega) (fun _ _ => rfl) (fun b_o sp_o e_o n_o l_o k_o => ?_)
      subst e_o
      refine GL.pure rfl (p_indexB rfl rfl Try.underlying22 sz_3 (by omega) (by omega)) ?_
      refine GL.step rfl (t_mem rfl (m_load (i := 0) rfl rfl ag_3 (nth_mapS (xs := srt (hvF l ms)) _ (by omega) (by omega)))) ?_
      refine GL.pure rfl (p_max2 rfl rfl) ?_
      refine GL.pure rfl (p_assign rfl) ?_
      refine GL.nil (?_ : GC _ _ _ _)
      refine GC.ret ?_
      refine fun a w h => Fin.back (rs := [.tmp 4]) (vs := [_]) (is := []) (js := []) rfl ⟨rfl, trivial⟩ rfl rfl ?_ h
      clear h
      refine ⟨congrArg (Value.int .i64) ?_, rfl, rfl⟩
      rw [commitF, if_neg (by omega)]
end Go.Proofs.Ytmjfkjajedhciaa
