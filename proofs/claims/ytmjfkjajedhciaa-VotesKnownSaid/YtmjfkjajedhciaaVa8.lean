/- VOTES: acknowledgements with one more: the function. -/
import Derived.Test.YtmjfkjajedhciaaVa7
set_option linter.unusedVariables false
set_option linter.unusedSimpArgs false
set_option maxRecDepth 100000
namespace Go.Proofs.Ytmjfkjajedhciaa
open Go Go.Sx Go.Proofs
def sortedA (x y : Ack) : Prop := x.node < y.node ∨ (x.node = y.node ∧ y.num ≤ x.num)
theorem pair_get {α : Type} [Inhabited α] {r : α → α → Prop} {l : List α} (h : l.Pairwise r) {i j : Nat} (hij : i < j) (hj : j < l.length) : r (gt l (i : Int)) (gt l (j : Int)) := by
  have e : ∀ k : Nat, (hk : k < l.length) → gt l (k : Int) = l[k] := fun k hk => by
    have := gt_ok (xs := l) (i := (k : Int)) (by omega) (by omega)
    simp only [Int.toNat_natCast, List.getElem?_eq_getElem hk, Option.some.injEq] at this
    exact this.symm
  rw [e i (by omega), e j hj]
  exact List.pairwise_iff_getElem.1 h i j (by omega) hj hij
/-- What is kept of the first k: the first of each node. -/
theorem dd_all {l : List Ack} (hs : l.Pairwise sortedA) : ∀ k, k ≤ l.length → (ddK l k).Pairwise (fun x y => x.node < y.node) ∧
    (∀ a, a ∈ ddK l k → a ∈ l.take k ∧ ∀ b ∈ l.take k, b.node = a.node → b.num ≤ a.num) ∧ (∀ b ∈ l.take k, ∃ a ∈ ddK l k, a.node = b.node)
  | 0, _ => by simp [ddK]
  | k + 1, hk => by
    obtain ⟨h1, h2, h3⟩ := dd_all hs k (by omega)
    have hlast : ∀ b ∈ l.take k, sortedA b (gt l (k : Int)) := fun b hb => by
      rw [List.mem_take_iff_getElem] at hb
      obtain ⟨j, hj, rfl⟩ := hb
      have := pair_get hs (i := j) (j := k) (by omega) (by omega)
      have e := gt_ok (xs := l) (i := (j : Int)) (by omega) (by omega)
      simp only [Int.toNat_natCast, List.getElem?_eq_getElem (show j < l.length by omega), Option.some.injEq] at e
      rw [e]; exact this
    rw [take_gtI (by omega)]
    by_cases hkeep : keepD l k = true
    · have hne : ∀ b ∈ l.take k, b.node < (gt l (k : Int)).node := fun b hb => by
        rcases hlast b hb with h | ⟨h, _⟩
        · exact h
        · exfalso
          have hk0 : k ≠ 0 := fun e => by subst e; simp at hb
          have hk1 : gt l ((k - 1 : Nat) : Int) ∈ l.take k := by
            have e : k = (k - 1) + 1 := by omega
            rw [e, take_gtI (by omega)]; simp
          have hs2 : b.node ≤ (gt l ((k - 1 : Nat) : Int)).node := by
            rw [List.mem_take_iff_getElem] at hb
            obtain ⟨j, hj, rfl⟩ := hb
            have e := gt_ok (xs := l) (i := (j : Int)) (by omega) (by omega)
            simp only [Int.toNat_natCast, List.getElem?_eq_getElem (show j < l.length by omega), Option.some.injEq] at e
            rw [e]
            rcases Nat.lt_or_ge j (k - 1) with hjk | hjk
            · rcases pair_get hs hjk (show k - 1 < l.length by omega) with g | g <;> omega
            · obtain rfl : j = k - 1 := by omega
              exact Int.le_refl _
          have := pair_get hs (i := k - 1) (j := k) (by omega) (by omega)
          simp [keepD, hk0] at hkeep
          rcases this with g | g
          · omega
          · exact hkeep g.1.symm
      rw [ddK, if_pos hkeep]
      refine ⟨List.pairwise_append.2 ⟨h1, by simp, fun x hx y hy => ?_⟩, fun x hx => ?_, fun b hb => ?_⟩
      · rw [List.mem_singleton.1 hy]; exact hne x (h2 x hx).1
      · rcases List.mem_append.1 hx with hx | hx
        · refine ⟨List.mem_append_left _ (h2 x hx).1, fun b hb e => ?_⟩
          rcases List.mem_append.1 hb with hb | hb
          · exact (h2 x hx).2 b hb e
          · rw [List.mem_singleton.1 hb] at e ⊢
            have := hne x (h2 x hx).1; omega
        · rw [List.mem_singleton.1 hx]
          refine ⟨List.mem_append_right _ (by simp), fun b hb e => ?_⟩
          rcases List.mem_append.1 hb with hb | hb
          · have := hne b hb; omega
          · rw [List.mem_singleton.1 hb]; exact Int.le_refl _
      · rcases List.mem_append.1 hb with hb | hb
        · obtain ⟨x, hx, e⟩ := h3 b hb; exact ⟨x, List.mem_append_left _ hx, e⟩
        · exact ⟨gt l (k : Int), List.mem_append_right _ (by simp), by rw [List.mem_singleton.1 hb]⟩
    · have hk0 : k ≠ 0 := fun e => hkeep (by simp [keepD, e])
      have heq : (gt l (k : Int)).node = (gt l ((k - 1 : Nat) : Int)).node := by simpa [keepD, hk0] using hkeep
      have hk1 : gt l ((k - 1 : Nat) : Int) ∈ l.take k := by
        have e : k = (k - 1) + 1 := by omega
        rw [e, take_gtI (by omega)]; simp
      rw [ddK, if_neg hkeep, List.append_nil]
      refine ⟨h1, fun x hx => ⟨List.mem_append_left _ (h2 x hx).1, fun b hb e => ?_⟩, fun b hb => ?_⟩
      · rcases List.mem_append.1 hb with hb | hb
        · exact (h2 x hx).2 b hb e
        · rw [List.mem_singleton.1 hb] at e ⊢
          rcases hlast x (h2 x hx).1 with g | g <;> omega
      · rcases List.mem_append.1 hb with hb | hb
        · exact h3 b hb
        · obtain ⟨x, hx, e⟩ := h3 _ hk1
          exact ⟨x, hx, by rw [List.mem_singleton.1 hb, e, heq]⟩
/-- Acknowledgements in the order of their nodes are told by what lies in them. -/
theorem inc_extA : ∀ {x y : List Ack}, x.Pairwise (fun x y => x.node < y.node) → y.Pairwise (fun x y => x.node < y.node) → (∀ r, r ∈ x ↔ r ∈ y) → x = y
  | [], [], _, _, _ => rfl
  | [], y :: ys, _, _, h => by have := (h y).2 (List.mem_cons_self ..); cases this
  | x :: xs, [], _, _, h => by have := (h x).1 (List.mem_cons_self ..); cases this
  | x :: xs, y :: ys, h1, h2, h => by
    obtain ⟨a1, a2⟩ := List.pairwise_cons.1 h1
    obtain ⟨b1, b2⟩ := List.pairwise_cons.1 h2
    have e : x = y := by
      rcases List.mem_cons.1 ((h x).1 (List.mem_cons_self ..)) with e | hx
      · exact e
      · rcases List.mem_cons.1 ((h y).2 (List.mem_cons_self ..)) with e | hy
        · exact e.symm
        · have := a1 y hy; have := b1 x hx; omega
    subst e
    congr 1
    refine inc_extA a2 b2 fun r => ⟨fun hr => ?_, fun hr => ?_⟩
    · rcases List.mem_cons.1 ((h r).1 (List.mem_cons_of_mem _ hr)) with e | hr'
      · subst e; have := a1 r hr; omega
      · exact hr'
    · rcases List.mem_cons.1 ((h r).2 (List.mem_cons_of_mem _ hr)) with e | hr'
      · subst e; have := b1 r hr; omega
      · exact hr'
/-- What a node has acknowledged. -/
theorem numF_up (l : List Ack) (x : Int) : ∀ k, k ≤ l.length → ((numF (l.take k) x).2 = true ↔ ∃ a ∈ l.take k, a.node = x) ∧ ((numF (l.take k) x).2 = true → (⟨x, (numF (l.take k) x).1⟩ : Ack) ∈ l.take k ∧ ∀ b ∈ l.take k, b.node = x → b.num ≤ (numF (l.take k) x).1) ∧ ((numF (l.take k) x).2 = false → (numF (l.take k) x).1 = 0)
  | 0, _ => by simp [numF]
  | k + 1, hk => by
    obtain ⟨h1, h2, h3⟩ := numF_up l x k (by omega)
    rw [numF_take (by omega), take_gtI (by omega)]
    generalize numF (l.take k) x = s at h1 h2 h3
    obtain ⟨n, ok⟩ := s
    generalize hg : gt l (k : Int) = z
    obtain ⟨zn, zm⟩ := z
    by_cases hz : zn = x
    · subst hz
      simp only [numS, if_true]
      refine ⟨by simp, fun _ => ?_, by simp⟩
      by_cases hc : ok = false ∨ n < zm
      · rw [if_pos hc]
        refine ⟨by simp, fun b hb e => ?_⟩
        rcases List.mem_append.1 hb with hb | hb
        · have hok : ok = true := h1.2 ⟨b, hb, e⟩
          have := (h2 hok).2 b hb e
          simp only at this
          rcases hc with hc | hc
          · rw [hok] at hc; cases hc
          · omega
        · rw [List.mem_singleton.1 hb]; exact Int.le_refl _
      · rw [if_neg hc]
        simp only [not_or, Bool.not_eq_false, Int.not_lt] at hc
        have := h2 hc.1
        refine ⟨List.mem_append_left _ this.1, fun b hb e => ?_⟩
        rcases List.mem_append.1 hb with hb | hb
        · exact this.2 b hb e
        · rw [List.mem_singleton.1 hb]; exact hc.2
    · simp only [numS, if_neg hz]
      refine ⟨?_, fun hok => ?_, h3⟩
      · rw [h1]; simp [hz]
      · refine ⟨List.mem_append_left _ (h2 hok).1, fun b hb e => ?_⟩
        rcases List.mem_append.1 hb with hb | hb
        · exact (h2 hok).2 b hb e
        · rw [List.mem_singleton.1 hb] at e; exact absurd e hz
theorem numF_all (l : List Ack) (x : Int) : ((numF l x).2 = true ↔ ∃ a ∈ l, a.node = x) ∧ ((numF l x).2 = true → (⟨x, (numF l x).1⟩ : Ack) ∈ l ∧ ∀ b ∈ l, b.node = x → b.num ≤ (numF l x).1) ∧ ((numF l x).2 = false → (numF l x).1 = 0) := by
  have := numF_up l x l.length (Nat.le_refl _)
  rwa [List.take_length] at this
theorem ackF_mem (al : List Ack) (z : Ack) : z ∈ (nodesF al).map (ofN al) ↔ ((numF al z.node).2 = true ∧ z.num = (numF al z.node).1) := by
  rw [List.mem_map]
  constructor
  · rintro ⟨n, hn, rfl⟩
    exact ⟨(numF_all al n).1.2 (((nodesF_all al).2.2 n).1 hn), rfl⟩
  · rintro ⟨h1, h2⟩
    exact ⟨z.node, ((nodesF_all al).2.2 _).2 ((numF_all al z.node).1.1 h1), by rw [ofN, ← h2]⟩
theorem ackF_inc (al : List Ack) : ((nodesF al).map (ofN al)).Pairwise (fun x y => x.node < y.node) := List.pairwise_map.2 (nodesF_all al).2.1
theorem dd_ack {ys al : List Ack} (hp : ys.Perm al) (hs : ys.Pairwise fun x y => ¬ cmpA y x < 0) : ddF ys = (nodesF al).map (ofN al) := by
  have hs' : ys.Pairwise sortedA := hs.imp fun {x y} h => by rw [cmpA_lt] at h; unfold sortedA; omega
  obtain ⟨h1, h2, h3⟩ := dd_all hs' ys.length (Nat.le_refl _)
  rw [List.take_length] at h2 h3
  refine inc_extA h1 (ackF_inc al) fun z => ?_
  rw [ackF_mem]
  constructor
  · intro hz
    obtain ⟨g1, g2⟩ := h2 z hz
    have hm := hp.mem_iff.1 g1
    have hok := (numF_all al z.node).1.2 ⟨z, hm, rfl⟩
    obtain ⟨k1, k2⟩ := (numF_all al z.node).2.1 hok
    have a1 := k2 z hm rfl
    have a2 := g2 _ (hp.mem_iff.2 k1) rfl
    simp only at a2
    exact ⟨hok, by omega⟩
  · rintro ⟨hok, e⟩
    obtain ⟨k1, k2⟩ := (numF_all al z.node).2.1 hok
    have hz : z ∈ ys := by rw [hp.mem_iff]; rw [← e] at k1; exact k1
    obtain ⟨x, hx, ex⟩ := h3 z hz
    obtain ⟨g1, g2⟩ := h2 x hx
    have a1 := g2 z hz ex.symm
    have a2 := k2 x (hp.mem_iff.1 g1) ex
    have : x = z := by
      obtain ⟨xn, xm⟩ := x; obtain ⟨zn, zm⟩ := z
      simp only at ex e a1 a2 ⊢
      subst ex
      congr 1; omega
    rw [← this]; exact hx
end Go.Proofs.Ytmjfkjajedhciaa
