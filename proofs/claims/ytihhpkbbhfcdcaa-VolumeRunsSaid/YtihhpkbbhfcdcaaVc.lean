/- THE VOLUME: its blocks one by one: plain words. -/
import Derived.Test.YtihhpkbbhfcdcaaVb7
set_option linter.unusedVariables false
set_option linter.unusedSimpArgs false
set_option maxRecDepth 100000
namespace Go.Proofs.Ytihhpkbbhfcdcaa
open Go Go.Sx Go.Proofs

theorem seg_get {α : Type} (xs : List α) (l h j : Nat) : (seg xs l h)[j]? = if l + j < h then xs[l + j]? else none := by
  unfold seg
  rw [List.getElem?_drop, List.getElem?_take]
theorem laid_get {α : Type} {xs ys : List α} {o : Nat} (hf : o + ys.length ≤ xs.length) (j : Nat) : (laid xs o ys)[j]? = if j < o then xs[j]? else if j < o + ys.length then ys[j - o]? else xs[j]? := by
  unfold laid
  have hm : min o xs.length = o := by omega
  by_cases h1 : j < o
  · rw [if_pos h1, List.append_assoc, List.getElem?_append_left (by simp; omega), List.getElem?_take, if_pos h1]
  · rw [if_neg h1, List.append_assoc, List.getElem?_append_right (by simp; omega), List.length_take, hm]
    by_cases h2 : j < o + ys.length
    · rw [if_pos h2, List.getElem?_append_left (by omega)]
    · rw [if_neg h2, List.getElem?_append_right (by omega), List.getElem?_drop]
      congr 1
      omega

/-- The blocks. -/
def chunks (b : List UInt8) (s N : Nat) : List (List UInt8) := (List.range N).map fun i => seg b (i * s) ((i + 1) * s)
theorem chunks_length (b : List UInt8) (s N : Nat) : (chunks b s N).length = N := by simp [chunks]
theorem chunks_get {b : List UInt8} {s N i : Nat} (h : i < N) : (chunks b s N)[i]? = some (seg b (i * s) ((i + 1) * s)) := by simp [chunks, h]
theorem chunks_set {b d : List UInt8} {s N m : Nat} (hb : b.length = N * s) (hd : d.length = s) (hm : m < N) : chunks (laid b (m * s) d) s N = (chunks b s N).set m d := by
  have hfit : m * s + d.length ≤ b.length := by
    rw [hb, hd]
    calc m * s + s = (m + 1) * s := by rw [Nat.add_mul, Nat.one_mul]
      _ ≤ N * s := Nat.mul_le_mul_right _ hm
  apply List.ext_getElem?
  intro i
  rw [List.getElem?_set]
  by_cases hi : i < N
  · rw [chunks_get hi]
    by_cases hm2 : m = i
    · subst hm2
      rw [if_pos rfl, if_pos (by rw [chunks_length]; exact hm)]
      congr 1
      apply List.ext_getElem?
      intro j
      rw [seg_get, laid_get hfit]
      have e : (m + 1) * s = m * s + s := by rw [Nat.add_mul, Nat.one_mul]
      by_cases hj : j < s
      · rw [if_pos (by omega), if_neg (by omega), if_pos (by omega)]
        congr 1; omega
      · rw [if_neg (by omega)]
        exact (List.getElem?_eq_none (by omega)).symm
    · rw [if_neg hm2, chunks_get hi]
      congr 1
      apply List.ext_getElem?
      intro j
      rw [seg_get, seg_get, laid_get hfit]
      have e : (i + 1) * s = i * s + s := by rw [Nat.add_mul, Nat.one_mul]
      by_cases hj : j < s
      · have hA : i * s + j < (i + 1) * s := by omega
        simp only [if_pos hA]
        rcases Nat.lt_or_gt_of_ne hm2 with h | h
        · have : (m + 1) * s ≤ i * s := Nat.mul_le_mul_right _ h
          have e2 : (m + 1) * s = m * s + s := by rw [Nat.add_mul, Nat.one_mul]
          have hB : ¬ i * s + j < m * s := by omega
          have hC : ¬ i * s + j < m * s + d.length := by omega
          simp only [if_neg hB, if_neg hC]
        · have : (i + 1) * s ≤ m * s := Nat.mul_le_mul_right _ h
          have hB : i * s + j < m * s := by omega
          simp only [if_pos hB]
      · have hA : ¬ i * s + j < (i + 1) * s := by omega
        simp only [if_neg hA]
  · have h1 : (chunks (laid b (m * s) d) s N)[i]? = none := List.getElem?_eq_none (by rw [chunks_length]; omega)
    rw [h1, if_neg (by omega), List.getElem?_eq_none (by rw [chunks_length]; omega)]
theorem laid_laid {α : Type} {xs y z : List α} {o : Nat} (hf : o + y.length + z.length ≤ xs.length) : laid (laid xs o y) (o + y.length) z = laid xs o (y ++ z) := by
  apply List.ext_getElem?
  intro j
  rw [laid_get (by rw [laid_length (by omega)]; omega), laid_get (by omega), laid_get (by simp; omega), List.length_append]
  by_cases h1 : j < o
  · rw [if_pos (by omega), if_pos h1, if_pos h1]
  · rw [if_neg h1, if_neg h1]
    by_cases h2 : j < o + y.length
    · rw [if_pos h2, if_pos h2, if_pos (by omega), List.getElem?_append_left (by omega)]
    · rw [if_neg h2, if_neg h2]
      by_cases h3 : j < o + y.length + z.length
      · rw [if_pos h3, if_pos (by omega), List.getElem?_append_right (by omega)]
        congr 1; omega
      · rw [if_neg h3, if_neg (by omega)]
/-- Blocks in a row, one behind the other. -/
theorem seg_app {α : Type} {xs : List α} {l m h : Nat} (h1 : l ≤ m) (h2 : m ≤ h) (h3 : h ≤ xs.length) : seg xs l m ++ seg xs m h = seg xs l h := by
  apply List.ext_getElem?
  intro j
  rw [seg_get]
  by_cases hj : j < m - l
  · rw [List.getElem?_append_left (by rw [seg_length (by omega)]; exact hj), seg_get, if_pos (by omega), if_pos (by omega)]
  · rw [List.getElem?_append_right (by rw [seg_length (by omega)]; omega), seg_length (by omega), seg_get]
    by_cases hj2 : l + j < h
    · rw [if_pos (by omega), if_pos hj2]; congr 1; omega
    · rw [if_neg (by omega), if_neg hj2]

def chV (v : Vol) : List (List UInt8) := chunks v.b v.sz.toNat v.bl.toNat
theorem pc_nat {v : Vol} (hs : 0 ≤ v.sz) (i n : Nat) : pc v i n = seg v.b (i * v.sz.toNat) ((i + n) * v.sz.toNat) := by
  unfold pc
  obtain ⟨s, hs⟩ := Int.eq_ofNat_of_zero_le hs
  rw [hs]
  congr 1
theorem chV_get {v : Vol} (h : VolOk v) {i : Nat} (hi : i < v.bl.toNat) : (chV v)[i]? = some (pc v i 1) := by
  have hs := h.shp
  simp only [shapeOk] at hs
  unfold chV
  rw [chunks_get hi, ← pc_nat (by omega) i 1]
  rfl
theorem chV_gt {v : Vol} (h : VolOk v) {i : Int} (h0 : 0 ≤ i) (hi : i < v.bl) : gt (chV v) i = pc v i 1 := by
  have := gt_ok (xs := chV v) (i := i) h0 (by simp only [chV, chunks_length]; omega)
  rw [chV_get h (by omega)] at this
  have e : ((i.toNat : Nat) : Int) = i := by omega
  rw [e] at this
  exact (Option.some.inj this).symm
theorem VolOk.lb' {v : Vol} (h : VolOk v) : v.b.length = v.bl.toNat * v.sz.toNat := by
  have hs := h.shp
  simp only [shapeOk] at hs
  rw [h.lb]
  obtain ⟨s, e1⟩ := Int.eq_ofNat_of_zero_le (show 0 ≤ v.sz by omega)
  obtain ⟨n, e2⟩ := Int.eq_ofNat_of_zero_le (show 0 ≤ v.bl by omega)
  rw [e1, e2]; rfl
end Go.Proofs.Ytihhpkbbhfcdcaa
