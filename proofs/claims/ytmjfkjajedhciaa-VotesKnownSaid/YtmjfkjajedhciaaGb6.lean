/- GROUPS: both tell the same next group; what the law's parts cut. -/
import Derived.Test.YtmjfkjajedhciaaGb5
set_option linter.unusedVariables false
set_option linter.unusedSimpArgs false
set_option maxRecDepth 100000
namespace Go.Proofs.Ytmjfkjajedhciaa
open Go Go.Sx Go.Proofs
theorem incI_iff : ∀ {l : List Int} {b : Int}, incI b l = true ↔ ((∀ x ∈ l, b < x ∧ x < 64) ∧ l.Pairwise (· < ·))
  | [], b => by simp [incI]
  | x :: xs, b => by
    rw [incI, Bool.and_eq_true, Bool.and_eq_true, decide_eq_true_eq, decide_eq_true_eq, incI_iff (l := xs)]
    constructor
    · rintro ⟨⟨h1, h2⟩, h3, h4⟩
      refine ⟨fun y hy => ?_, List.pairwise_cons.2 ⟨fun y hy => (h3 y hy).1, h4⟩⟩
      rcases List.mem_cons.1 hy with rfl | hy
      · exact ⟨h1, h2⟩
      · have := h3 y hy; omega
    · rintro ⟨h1, h2⟩
      obtain ⟨h3, h4⟩ := List.pairwise_cons.1 h2
      exact ⟨h1 x (List.mem_cons_self ..), fun y hy => ⟨h3 y hy, (h1 y (List.mem_cons_of_mem _ hy)).2⟩, h4⟩
theorem grp_mem {e : Int} {l : List Int} (h : groupOk e l = true) : (∀ x ∈ l, 0 ≤ x ∧ x < 64) ∧ l.Pairwise (· < ·) := by
  simp only [groupOk, Bool.and_eq_true] at h
  obtain ⟨h1, h2⟩ := incI_iff.1 h.2
  exact ⟨fun x hx => by have := h1 x hx; omega, h2⟩
theorem inc_extI : ∀ {a b : List Int}, a.Pairwise (· < ·) → b.Pairwise (· < ·) → (∀ r, r ∈ a ↔ r ∈ b) → a = b
  | [], [], _, _, _ => rfl
  | [], y :: ys, _, _, h => by have := (h y).2 (List.mem_cons_self ..); cases this
  | x :: xs, [], _, _, h => by have := (h x).1 (List.mem_cons_self ..); cases this
  | x :: xs, y :: ys, h1, h2, h => by
    obtain ⟨a1, a2⟩ := List.pairwise_cons.1 h1
    obtain ⟨b1, b2⟩ := List.pairwise_cons.1 h2
    have e : x = y := by
      rcases List.mem_cons.1 ((h x).1 (List.mem_cons_self ..)) with e | hx
      · exact e
      · rcases List.mem_cons.1 ((h y).2 (List.mem_cons_self ..)) with e | hy
        · exact e.symm
        · have := a1 y hy; have := b1 x hx; omega
    subst e
    congr 1
    refine inc_extI a2 b2 fun r => ⟨fun hr => ?_, fun hr => ?_⟩
    · rcases List.mem_cons.1 ((h r).1 (List.mem_cons_of_mem _ hr)) with e | hr'
      · subst e; have := a1 r hr; omega
      · exact hr'
    · rcases List.mem_cons.1 ((h r).2 (List.mem_cons_of_mem _ hr)) with e | hr'
      · subst e; have := b1 r hr; omega
      · exact hr'
/-- What is compact of a sorted row. -/
theorem compact_up {zs : List Int} (hs : zs.Pairwise (· ≤ ·)) : ∀ m, m ≤ zs.length → (Lib.compactUpTo zs.toArray m).Pairwise (· < ·) ∧ (∀ x, x ∈ Lib.compactUpTo zs.toArray m ↔ ∃ j, j < m ∧ gt zs ((j : Nat) : Int) = x) := by
  have mono : ∀ i j : Nat, i < j → j < zs.length → gt zs (i : Int) ≤ gt zs (j : Int) := fun i j hij hj => by
    rw [gt_get (show i < zs.length by omega), gt_get hj]
    exact List.pairwise_iff_getElem.1 hs i j _ _ hij
  intro m
  induction m with
  | zero => intro _; simp [Lib.compactUpTo]
  | succ m ih =>
    intro hm
    obtain ⟨h1, h2⟩ := ih (by omega)
    rw [compact_succ (by omega)]
    by_cases hk : Lib.keeps zs.toArray m = true
    · rw [if_pos hk]
      refine ⟨List.pairwise_append.2 ⟨h1, List.pairwise_singleton _ _, fun x hx y hy => ?_⟩, fun x => ?_⟩
      · rw [List.mem_singleton.1 hy]
        obtain ⟨j, hj, rfl⟩ := (h2 x).1 hx
        simp only [Lib.keeps, decide_eq_true_eq] at hk
        have hk : gt zs (m : Int) ≠ gt zs ((m - 1 : Nat) : Int) := by
          rcases hk with hk | hk
          · omega
          · rw [gt_get (show m < zs.length by omega), gt_get (show m - 1 < zs.length by omega)]
            rw [getElem!_pos zs.toArray m (by simp; omega), getElem!_pos zs.toArray (m - 1) (by simp; omega)] at hk
            simpa using hk
        have a1 := mono (m - 1) m (by omega) (by omega)
        have a2 : gt zs ((j : Nat) : Int) ≤ gt zs ((m - 1 : Nat) : Int) := by
          by_cases hj' : j = m - 1
          · rw [hj']; exact Int.le_refl _
          · exact mono j (m - 1) (by omega) (by omega)
        omega
      · rw [List.mem_append, h2, List.mem_singleton]
        constructor
        · rintro (⟨j, hj, rfl⟩ | rfl)
          · exact ⟨j, by omega, rfl⟩
          · exact ⟨m, by omega, rfl⟩
        · rintro ⟨j, hj, rfl⟩
          by_cases hj' : j = m
          · subst hj'; exact .inr rfl
          · exact .inl ⟨j, by omega, rfl⟩
    · rw [if_neg hk, List.append_nil]
      refine ⟨h1, fun x => ?_⟩
      rw [h2]
      constructor
      · rintro ⟨j, hj, rfl⟩; exact ⟨j, by omega, rfl⟩
      · rintro ⟨j, hj, rfl⟩
        by_cases hj' : j = m
        · subst hj'
          simp only [Lib.keeps, decide_eq_true_eq, not_or, Decidable.not_not, ne_eq] at hk
          refine ⟨j - 1, by omega, ?_⟩
          rw [gt_get (show j < zs.length by omega), gt_get (show j - 1 < zs.length by omega)]
          have := hk.2
          rw [getElem!_pos zs.toArray j (by simp; omega), getElem!_pos zs.toArray (j - 1) (by simp; omega)] at this
          simpa using this.symm
        · exact ⟨j, by omega, rfl⟩
theorem sorted_le (l : List Int) : (l.mergeSort fun x y => decide (x ≤ y)).Pairwise (· ≤ ·) := by
  have := List.pairwise_mergeSort (le := fun x y : Int => decide (x ≤ y)) (fun a b c h1 h2 => by simp at *; omega) (fun a b => by simp; omega) l
  exact this.imp fun h => by simpa using h
theorem compact_sorted (l : List Int) : (Lib.compact (l.mergeSort fun x y => decide (x ≤ y))).Pairwise (· < ·) ∧ ∀ x, x ∈ Lib.compact (l.mergeSort fun x y => decide (x ≤ y)) ↔ x ∈ l := by
  obtain ⟨h1, h2⟩ := compact_up (sorted_le l) _ (Nat.le_refl _)
  refine ⟨h1, fun x => (h2 x).trans ?_⟩
  rw [← List.mem_mergeSort (le := fun x y : Int => decide (x ≤ y)) (l := l)]
  constructor
  · rintro ⟨j, hj, rfl⟩; exact gt_memI hj
  · intro hx
    obtain ⟨j, hj, e⟩ := mem_gt hx
    exact ⟨j, hj, e⟩
theorem outF_mem (l add drop : List Int) (x : Int) : x ∈ outF l add drop ↔ wantP l add drop x := by
  rw [outF, (compact_sorted _).2, List.mem_filter, List.mem_append, wantP]
  simp
theorem outR_inc (l add drop : List Int) : ∀ k, (outR l add drop k).Pairwise (· < ·) ∧ ∀ x, x ∈ outR l add drop k ↔ (0 ≤ x ∧ x < k ∧ wantP l add drop x)
  | 0 => by simp [outR]; intro x h1 h2; omega
  | k + 1 => by
    obtain ⟨h1, h2⟩ := outR_inc l add drop k
    rw [outR]
    by_cases hw : wantP l add drop (k : Int)
    · rw [if_pos hw]
      refine ⟨List.pairwise_append.2 ⟨h1, List.pairwise_singleton _ _, fun x hx y hy => ?_⟩, fun x => ?_⟩
      · rw [List.mem_singleton.1 hy]; have := (h2 x).1 hx; omega
      · rw [List.mem_append, h2, List.mem_singleton]
        constructor
        · rintro (⟨a, b, c⟩ | rfl)
          · exact ⟨a, by omega, c⟩
          · exact ⟨by omega, by omega, hw⟩
        · rintro ⟨a, b, c⟩
          by_cases hx : x = (k : Int)
          · exact .inr hx
          · exact .inl ⟨a, by omega, c⟩
    · rw [if_neg hw, List.append_nil]
      refine ⟨h1, fun x => ?_⟩
      rw [h2]
      constructor
      · rintro ⟨a, b, c⟩; exact ⟨a, by omega, c⟩
      · rintro ⟨a, b, c⟩
        refine ⟨a, ?_, c⟩
        by_cases hx : x = (k : Int)
        · subst hx; exact absurd c hw
        · omega
theorem next_eq (e : Int) (l add drop : List Int) : nextF e l add drop = nextR e l add drop := by
  unfold nextF nextR
  by_cases hg : groupOk e l = true
  · have hl := grp_len hg
    rw [if_pos hg, if_pos hg]
    by_cases he : e = 4611686018427387904
    · rw [if_pos he, if_pos (by omega)]
    · rw [if_neg he, if_neg (show ¬ e ≥ 4611686018427387904 by omega)]
      by_cases hb : ∃ x ∈ add, badP drop x
      · rw [if_pos hb]
        obtain ⟨x, hx, h1, h2⟩ := hb
        have hm : x ∈ outF l add drop := (outF_mem ..).2 ⟨.inr hx, h2⟩
        rw [if_neg]
        intro hok
        have := (grp_mem hok).1 x hm
        omega
      · rw [if_neg hb]
        have e1 : outF l add drop = outR l add drop 64 := by
          refine inc_extI (compact_sorted _).1 (outR_inc l add drop 64).1 fun x => ?_
          rw [outF_mem, (outR_inc l add drop 64).2]
          refine ⟨fun hw => ?_, fun h => h.2.2⟩
          have : 0 ≤ x ∧ x < 64 := by
            rcases hw.1 with h | h
            · exact (grp_mem hg).1 x h
            · by_cases hx : 0 ≤ x ∧ x < 64
              · exact hx
              · exact absurd ⟨x, h, by omega, hw.2⟩ hb
          exact ⟨this.1, this.2, hw⟩
        rw [e1]
  · rw [if_neg hg, if_neg hg]
/-! ### what is looked at -/
end Go.Proofs.Ytmjfkjajedhciaa

