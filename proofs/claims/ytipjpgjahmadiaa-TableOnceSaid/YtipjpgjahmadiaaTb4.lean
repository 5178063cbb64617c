/- THE TABLE: no request that was done is new again: plain words. -/
import Derived.Test.YtipjpgjahmadiaaTb2
set_option linter.unusedVariables false
set_option linter.unusedSimpArgs false
set_option maxRecDepth 100000
namespace Go.Proofs.Ytipjpgjahmadiaa
open Go Go.Sx Go.Proofs

theorem putF_zero {T : List (Int × Last)} {c s : Int} {r : Res} (h : (putF T c s r).1 = 0) :
    isNum c = true ∧ isNum s = true ∧ (putF T c s r).2 = mput T c ⟨s, r⟩ ∧ ∀ l, mget T c = some l → l.serial < s := by
  unfold putF at h ⊢
  split at h
  · rename_i h1
    exact absurd h h1
  · rename_i h1
    rw [if_neg h1]
    split at h
    · simp at h
    · rename_i h2
      rw [if_neg h2]
      split at h
      · simp at h
      · rename_i h3
        rw [if_neg h3]
        split at h
        · simp at h
        · rename_i h4
          rw [if_neg h4]
          unfold askF at h4
          split at h4
          · simp at h4
          · rename_i h5
            simp only [not_or, Bool.not_eq_false] at h5
            refine ⟨h5.1, h5.2, rfl, fun l hl => ?_⟩
            rw [hl] at h4
            simp only at h4
            by_cases h6 : s > l.serial
            · exact h6
            · rw [if_neg h6] at h4
              split at h4 <;> simp at h4
theorem putF_other {T : List (Int × Last)} {c s : Int} {r : Res} (h : (putF T c s r).1 ≠ 0) : (putF T c s r).2 = T := by
  unfold putF at h ⊢
  split
  · rfl
  · rename_i h1
    rw [if_neg h1] at h
    split
    · rfl
    · rename_i h2
      rw [if_neg h2] at h
      split
      · rfl
      · rename_i h3
        rw [if_neg h3] at h
        split
        · rfl
        · rename_i h4
          rw [if_neg h4] at h
          simp at h

def allNe (l : List TCall) (c : Int) : Bool := l.all fun e => decide (e.client ≠ c)
theorem allNe_append (a b : List TCall) (c : Int) : allNe (a ++ b) c = (allNe a c && allNe b c) := by simp [allNe]

def OnceInv (T : List (Int × Last)) (D : List TCall) : Prop := TabOk T ∧ ∀ i d, D[i]? = some d → isNum d.client = true ∧ isNum d.serial = true ∧
  ∃ l, mget T d.client = some l ∧ (if allNe (D.drop (i + 1)) d.client = true then l = ⟨d.serial, d.r⟩ else d.serial < l.serial)

theorem OnceInv.nil : OnceInv [] [] := ⟨TabOk.nil, fun i d h => by simp at h⟩
theorem OnceInv.skip {T : List (Int × Last)} {D : List TCall} {c s : Int} {r : Res} (h : OnceInv T D) (hp : (putF T c s r).1 ≠ 0) : OnceInv (putF T c s r).2 D := by
  rw [putF_other hp]; exact h
theorem OnceInv.put {T : List (Int × Last)} {D : List TCall} {c : TCall} (h : OnceInv T D) (hp : (putF T c.client c.serial c.r).1 = 0) : OnceInv (putF T c.client c.serial c.r).2 (D ++ [c]) := by
  obtain ⟨n1, n2, e, hl⟩ := putF_zero hp
  refine ⟨h.1.put _ _ _, fun i d hd => ?_⟩
  rw [e]
  by_cases hi : i < D.length
  · rw [List.getElem?_append_left hi] at hd
    obtain ⟨m1, m2, l, g1, g2⟩ := h.2 i d hd
    refine ⟨m1, m2, ?_⟩
    rw [List.drop_append_of_le_length (by omega), allNe_append]
    by_cases hc : d.client = c.client
    · have : allNe [c] d.client = false := by simp [allNe, hc]
      rw [this, Bool.and_false]
      refine ⟨⟨c.serial, c.r⟩, by rw [hc, mget_mput_same], ?_⟩
      rw [if_neg (by simp)]
      have := hl l (hc ▸ g1)
      split at g2
      · subst g2; exact this
      · show d.serial < c.serial
        omega
    · have : allNe [c] d.client = true := by simp [allNe]; exact fun h => hc h.symm
      rw [this, Bool.and_true]
      exact ⟨l, by rw [mget_mput_other _ _ hc]; exact g1, g2⟩
  · have hi2 : i < (D ++ [c]).length := (List.getElem?_eq_some_iff.1 hd).1
    simp at hi2
    obtain rfl : i = D.length := by omega
    simp at hd
    subst hd
    refine ⟨n1, n2, ⟨c.serial, c.r⟩, mget_mput_same _ _ _, ?_⟩
    rw [if_pos (by rw [List.drop_of_length_le (by simp)]; rfl)]

def lastB (D : List TCall) (i : Nat) : Bool := allNe (D.drop (i + 1)) (gt D i).client
theorem OnceInv.ask {T : List (Int × Last)} {D : List TCall} (h : OnceInv T D) {i : Nat} (hi : i < D.length) :
    askF T (gt D i).client (gt D i).serial = ((if lastB D i = true then 2 else 3), (if lastB D i = true then (gt D i).r else rz), 0) := by
  have hd : D[i]? = some (gt D i) := by
    have := gt_ok (xs := D) (i := (i : Int)) (by omega) (by omega)
    simpa using this
  obtain ⟨m1, m2, l, g1, g2⟩ := h.2 i _ hd
  unfold askF
  rw [if_neg (by rw [m1, m2]; simp), g1]
  simp only
  unfold lastB
  split at g2
  · rename_i hl
    subst g2
    simp [hl]
  · rename_i hl
    rw [if_neg (by omega), if_pos g2]
    simp [hl]

/-- One look further. -/
theorem allNe_step {D : List TCall} {i k : Nat} {c : Int} (h1 : i < k) (h2 : k < D.length) :
    allNe ((D.drop (i + 1)).take (k + 1 - (i + 1))) c = (allNe ((D.drop (i + 1)).take (k - (i + 1))) c && decide ((gt D k).client ≠ c)) := by
  have hd : D[k]? = some (gt D k) := by
    have := gt_ok (xs := D) (i := (k : Int)) (by omega) (by omega)
    simpa using this
  have : (D.drop (i + 1)).take (k + 1 - (i + 1)) = (D.drop (i + 1)).take (k - (i + 1)) ++ [gt D k] := by
    rw [show k + 1 - (i + 1) = (k - (i + 1)) + 1 by omega, List.take_add_one]
    congr 1
    rw [List.getElem?_drop, show i + 1 + (k - (i + 1)) = k by omega, hd]
    rfl
  rw [this, allNe_append]
  congr 1
  simp [allNe]
theorem allNe_all {D : List TCall} {i k : Nat} (h : D.length ≤ k) : allNe ((D.drop (i + 1)).take (k - (i + 1))) (gt D i).client = lastB D i := by
  unfold lastB
  rw [List.take_of_length_le (by simp; omega)]
theorem allNe_nil {D : List TCall} {i : Nat} {c : Int} : allNe ((D.drop (i + 1)).take (i + 1 - (i + 1))) c = true := by simp [allNe]
theorem gt_nat {α : Type} [Inhabited α] (xs : List α) (i : Nat) : gt xs ((i : Int)) = gt xs (i : Nat) := rfl
end Go.Proofs.Ytipjpgjahmadiaa
