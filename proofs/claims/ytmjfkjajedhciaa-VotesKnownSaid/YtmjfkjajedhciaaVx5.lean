/- VOTES: what is committed, in plain words; the laws. -/
import Derived.Test.YtmjfkjajedhciaaVx4
set_option linter.unusedVariables false
set_option linter.unusedSimpArgs false
set_option maxRecDepth 100000
namespace Go.Proofs.Ytmjfkjajedhciaa
open Go Go.Sx Go.Proofs
def geC (h : List Int) (v : Int) : Nat := (h.filter fun x => decide (v ≤ x)).length
theorem geC_perm {a b : List Int} (h : a.Perm b) (v : Int) : geC a v = geC b v := (h.filter _).length_eq
theorem srt_perm (h : List Int) : (srt h).Perm h := List.mergeSort_perm ..
theorem srt_len (h : List Int) : (srt h).length = h.length := List.length_mergeSort _
theorem srt_get (h : List Int) {i j : Nat} (hij : i ≤ j) (hj : j < h.length) : gt (srt h) (i : Int) ≤ gt (srt h) (j : Int) := by
  have hs := sorted_le h
  have hl := srt_len h
  rw [gt_get (show i < (srt h).length by omega), gt_get (show j < (srt h).length by omega)]
  rcases Nat.lt_or_ge i j with g | g
  · exact List.pairwise_iff_getElem.1 hs i j (by rw [List.length_mergeSort]; omega) (by rw [List.length_mergeSort]; omega) g
  · obtain rfl : i = j := by omega
    exact Int.le_refl _
theorem take_lt {s : List Int} {v : Int} : ∀ k, k ≤ s.length → (∀ i : Nat, i < k → gt s (i : Int) < v) → (s.take k).filter (fun x => decide (v ≤ x)) = [] := fun k hk h => by
  rw [List.filter_eq_nil_iff]
  intro x hx
  rw [List.mem_take_iff_getElem] at hx
  obtain ⟨j, hj, rfl⟩ := hx
  have := h j (by omega)
  rw [gt_get (by omega)] at this
  simp; omega
theorem drop_ge {s : List Int} {v : Int} (k : Nat) (h : ∀ i : Nat, k ≤ i → i < s.length → v ≤ gt s (i : Int)) : (s.drop k).filter (fun x => decide (v ≤ x)) = s.drop k := by
  rw [List.filter_eq_self]
  intro x hx
  obtain ⟨j, hj, rfl⟩ := List.getElem_of_mem hx
  rw [List.getElem_drop]
  have hj' : k + j < s.length := by simp at hj; omega
  have := h (k + j) (by omega) hj'
  rw [gt_get hj'] at this
  simpa using this
/-- The q-th greatest: so many are as great. -/
theorem geC_at {h : List Int} {q : Nat} (hq : 1 ≤ q) (hl : q ≤ h.length) : q ≤ geC h (gt (srt h) ((h.length - q : Nat) : Int)) := by
  rw [← geC_perm (srt_perm h)]
  have hs := srt_len h
  generalize hv : gt (srt h) ((h.length - q : Nat) : Int) = v
  unfold geC
  rw [← List.take_append_drop (h.length - q) (srt h), List.filter_append, List.length_append]
  rw [drop_ge (h.length - q) (fun i h1 h2 => by rw [← hv]; exact srt_get h h1 (by omega))]
  simp; omega
theorem geC_le {h : List Int} {q : Nat} {v : Int} (hq : 1 ≤ q) (hl : q ≤ h.length) (hv : q ≤ geC h v) : v ≤ gt (srt h) ((h.length - q : Nat) : Int) := by
  rcases Int.lt_or_le (gt (srt h) ((h.length - q : Nat) : Int)) v with g | g
  · exfalso
    rw [← geC_perm (srt_perm h)] at hv
    have hs := srt_len h
    unfold geC at hv
    rw [← List.take_append_drop (h.length - q + 1) (srt h), List.filter_append, take_lt (h.length - q + 1) (by omega) (fun i hi => by have := srt_get h (show i ≤ h.length - q by omega) (by omega); omega), List.nil_append] at hv
    have := List.length_filter_le (fun x => decide (v ≤ x)) ((srt h).drop (h.length - q + 1))
    simp at this; omega
  · exact g
theorem geC_len (h : List Int) (v : Int) : geC h v ≤ h.length := List.length_filter_le ..
theorem com_pos (n : Nat) (h : List Int) : 0 ≤ commitF n h := by unfold commitF; split <;> omega
theorem com_le {n : Nat} {h : List Int} {v : Int} (h0 : 0 ≤ v) (hv : n / 2 + 1 ≤ geC h v) : v ≤ commitF n h := by
  have hl := geC_len h v
  have := geC_le (by omega) (by omega) hv
  unfold commitF
  rw [if_neg (by omega), show (h.length : Int) - (((n / 2 : Nat) : Int) + 1) = ((h.length - (n / 2 + 1) : Nat) : Int) by omega]
  omega
theorem com_at {n : Nat} {h : List Int} (h0 : commitF n h ≠ 0) : n / 2 + 1 ≤ geC h (commitF n h) := by
  unfold commitF at h0 ⊢
  by_cases hl : h.length < n / 2 + 1
  · rw [if_pos hl] at h0; exact absurd rfl h0
  · rw [if_neg hl, show (h.length : Int) - (((n / 2 : Nat) : Int) + 1) = ((h.length - (n / 2 + 1) : Nat) : Int) by omega] at h0 ⊢
    have := geC_at (h := h) (q := n / 2 + 1) (by omega) (by omega)
    rw [show max (gt (srt h) ((h.length - (n / 2 + 1) : Nat) : Int)) 0 = gt (srt h) ((h.length - (n / 2 + 1) : Nat) : Int) by omega]
    exact this
theorem geC_hv (l : List Ack) (v : Int) : ∀ ms : List Int, geC (hvF l ms) v = (ms.filter fun m => (numF l m).2 && decide (v ≤ (numF l m).1)).length
  | [] => rfl
  | m :: ms => by
    have ih := geC_hv l v ms
    unfold geC hvF at ih ⊢
    by_cases h : (numF l m).2 = true
    · by_cases h' : v ≤ (numF l m).1 <;> simp [h, h', ih]
    · simp [h, ih]
/-- One acknowledgement more. -/
theorem numF_more (l : List Ack) (node num x : Int) : (numF l x).2 = true → (numF (ackF l node num) x).2 = true ∧ (numF l x).1 ≤ (numF (ackF l node num) x).1 := by
  intro hok
  obtain ⟨k1, k2⟩ := (numF_all l x).2.1 hok
  have hal := numF_all (alA l node num) x
  have hok2 : (numF (alA l node num) x).2 = true := hal.1.2 ⟨_, List.mem_append_left _ k1, rfl⟩
  have hle : (numF l x).1 ≤ (numF (alA l node num) x).1 := (hal.2.1 hok2).2 _ (List.mem_append_left _ k1) rfl
  have hm : (⟨x, (numF (alA l node num) x).1⟩ : Ack) ∈ ackF l node num := (ackF_mem (alA l node num) _).2 ⟨hok2, rfl⟩
  have hac := numF_all (ackF l node num) x
  have hok3 := hac.1.2 ⟨_, hm, rfl⟩
  have := (hac.2.1 hok3).2 _ hm rfl
  exact ⟨hok3, by simp only at this; omega⟩
theorem com_more (l : List Ack) (node num : Int) (ms : List Int) : commitF ms.length (hvF l ms) ≤ commitF ms.length (hvF (ackF l node num) ms) := by
  by_cases h0 : commitF ms.length (hvF l ms) = 0
  · rw [h0]; exact com_pos _ _
  · refine com_le (com_pos _ _) (Nat.le_trans (com_at h0) ?_)
    rw [geC_hv, geC_hv]
    rw [← List.countP_eq_length_filter, ← List.countP_eq_length_filter]
    refine List.countP_mono_left fun m _ hm => ?_
    simp only [Bool.and_eq_true, decide_eq_true_eq] at hm ⊢
    have := numF_more l node num m hm.1
    exact ⟨this.1, by omega⟩
theorem votesGrows_ct (e : Int) (A : Option Addr) (ms : List Int) (cp : Nat) (B : Option Addr) (l : List Ack) (cq : Nat) (node num : Int) (hn : ms.length ≤ cp) (hl : l.length ≤ cq) :
    Ct Try.prog 4 [grpV e A ms.length cp, .slice B l.length cq, .int .i64 node, .int .i64 num] [] [Pers.row kI A ms, Pers.row kAck B l] (fun u G Q => u = .bool true ∧ G = [] ∧ Q = []) := by
  have q1 : (ms.take 60).length ≤ 60 := by simp; omega
  have q2 : (l.take 60).length ≤ 60 := by simp; omega
  have q4 := ackF_len (l.take 60) node num
  have hc2 := com_more (l.take 60) node num (ms.take 60)
  refine Ct.intro Try.func4 rfl rfl rfl (fun c hc => ?_)
  refine GC.seq' ?_
  refine GC.region ?_
  refine GL.step rfl (t_box rfl rfl rfl) (GL.ex fun b_t4 => ?_)
  refine GL.pure rfl (p_assign rfl) ?_
  refine GL.nil (?_ : GC _ _ _ _)
  refine GC.seq' ?_
  refine GC.seq' ?_
  refine GC.region ?_
  refine GL.step rfl (t_call rfl fn_15 rfl (is := []) (js := []) rfl rfl (by exact awake_ct)) (GL.ret ?_)
  rintro _ _ _ ⟨rfl, rfl, rfl⟩
  refine GL.pure rfl (p_not rfl) ?_
  refine GL.nil (?_ : GC _ _ _ _)
  refine GC.cond_false rfl ?_
  refine GC.skip (?_ : GC _ _ _ _)
  refine GC.seq' ?_
  refine GC.region ?_
  refine GL.step rfl (t_mem rfl (m_loadN (i := 0) rfl rfl ag_34 (vs := [_, _]) sz_34 ⟨rfl, rfl, trivial⟩)) ?_
  refine GL.step rfl (t_call rfl fn_16 rfl (is := []) (js := [0]) rfl rfl (by exact cut_ct _ _ ms _ hn)) (GL.ret ?_)
  rintro _ _ _ ⟨A12, cp12, rfl, rfl, rfl⟩
  refine GL.pure rfl (p_move rfl) ?_
  refine GL.step rfl (t_call rfl fn_6 rfl (is := []) (js := [2]) rfl rfl (by exact few_ct _ l _ hl)) (GL.ret ?_)
  rintro _ _ _ ⟨A14, cp14, rfl, rfl, rfl⟩
  refine GL.step rfl (t_storeN (i := 0) rfl rfl rfl sz_34 rfl rfl rfl) ?_
  refine GL.pure rfl (p_assign rfl) ?_
  refine GL.nil (?_ : GC _ _ _ _)
  refine GC.seq' ?_
  refine GC.regionC (m := 11) (is := [0]) (js := [0, 1, 2, 3]) wide_ rfl rfl rfl ?_
  refine GA.take 0 rfl (by kernel_rfl) (by kernel_rfl) (by kernel_rfl) rfl (fun a w h => h.mem (is := [0]) (js := [0, 1, 2, 3]) rfl rfl) (i_mem (m_loadN (i := 0) rfl rfl ag_34 (vs := [_, _]) sz_34 ⟨rfl, rfl, trivial⟩)) ?_
  refine GA.take 1 rfl (by kernel_rfl) (by kernel_rfl) (by kernel_rfl) rfl (fun a w h => h.mem (is := [0]) (js := [0, 1, 2, 3]) rfl rfl) (i_pure (p_move rfl)) ?_
  refine GA.take 2 rfl (by kernel_rfl) (by kernel_rfl) (by kernel_rfl) rfl (fun a w h => h.mem (is := [0]) (js := [0, 1, 2, 3]) rfl rfl) (i_pure (p_move rfl)) ?_
  refine GA.take 3 rfl (by kernel_rfl) (by kernel_rfl) (by kernel_rfl) rfl (fun a w h => h.mem (is := [0]) (js := [0, 1, 2, 3]) rfl rfl) (i_pure (p_move rfl)) ?_
  refine GA.take 6 rfl (by kernel_rfl) (by kernel_rfl) (by kernel_rfl) rfl (fun a w h => h.mem (is := [0]) (js := [0, 1, 2, 3]) rfl rfl) (i_mem (m_loadN (i := 0) rfl rfl ag_34 (vs := [_, _]) sz_34 ⟨rfl, rfl, trivial⟩)) ?_
  refine GA.take 7 rfl (by kernel_rfl) (by kernel_rfl) (by kernel_rfl) rfl (fun a w h => h.mem (is := [0]) (js := [0, 1, 2, 3]) rfl rfl) (i_pure (p_move rfl)) ?_
  refine GA.all (rs := [4]) (by kernel_rfl) (by simp) ?_
  refine GAs.cons (i := 4) rfl rfl (t_call rfl fn_13 rfl (is := []) (js := [0]) rfl rfl (by exact ack_ct _ (l.take 60) _ _ _ (by omega))) (by rintro a w ⟨_, _, _, ⟨A19, cp19, rfl, rfl, rfl⟩, h⟩; exact h.mem (is := [0]) (js := [1, 2, 3, 4]) rfl rfl) (GA.ret ?_) ?_
  · rintro _ _ _ ⟨A19, cp19, rfl, rfl, rfl⟩
    refine GA.all (rs := [5]) (by kernel_rfl) (by simp) ?_
    refine GAs.cons (i := 5) rfl rfl (t_call rfl fn_17 rfl (is := []) (js := [2, 0]) rfl rfl (by exact commit_ct _ _ (ms.take 60) _ _ (ackF (l.take 60) node num) _ (by omega) (by omega))) (by rintro a w ⟨_, _, _, ⟨rfl, rfl, rfl⟩, h⟩; exact h.mem (is := [0]) (js := [1, 2, 3, 4]) rfl rfl) (GA.ret ?_) ?_
    · rintro _ _ _ ⟨rfl, rfl, rfl⟩
      refine GA.all (rs := [8]) (by kernel_rfl) (by simp) ?_
      refine GAs.cons (i := 8) rfl rfl (t_call rfl fn_17 rfl (is := []) (js := [2, 1]) rfl rfl (by exact commit_ct _ _ (ms.take 60) _ _ (l.take 60) _ (by omega) (by omega))) (by rintro a w ⟨_, _, _, ⟨rfl, rfl, rfl⟩, h⟩; exact h.mem (is := [0]) (js := [1, 2, 3, 4]) rfl rfl) (GA.ret ?_) ?_
      · rintro _ _ _ ⟨rfl, rfl, rfl⟩
        refine GA.take 9 rfl (by kernel_rfl) (by kernel_rfl) (by kernel_rfl) rfl (fun a w h => h.mem (is := [0]) (js := [1, 2, 3, 4]) rfl rfl) (i_pure (p_geq rfl rfl)) ?_
        refine GA.take 10 rfl (by kernel_rfl) (by kernel_rfl) (by kernel_rfl) rfl (fun a w h => h.mem (is := [0]) (js := [1, 2, 3, 4]) rfl rfl) (i_pure (p_assign rfl)) ?_
        refine GA.done (by kernel_rfl) (?_ : GC _ _ _ _)
        refine GC.ret ?_
        refine fun a w h => Fin.back (rs := [.tmp 8]) (vs := [_]) (is := []) (js := []) rfl ⟨rfl, trivial⟩ rfl rfl ?_ h
        clear h
        refine ⟨?_, rfl, rfl⟩
        show Value.bool _ = _
        rw [decide_eq_true (by omega)]
      exact GAs.nil
    exact GAs.nil
  exact GAs.nil
end Go.Proofs.Ytmjfkjajedhciaa
