/- THE TABLE: both tables hold the same: plain words. -/
import Derived.Test.YtipjpgjahmadiaaTe3
set_option linter.unusedVariables false
set_option linter.unusedSimpArgs false
namespace Go.Proofs.Ytipjpgjahmadiaa
open Go Go.Sx Go.Proofs
def IncL (L : List Row) : Prop := L.Pairwise fun r s => r.client < s.client
def sufA (row : Row) : Bool → List Row → List Row
  | b, [] => if b then [] else [row]
  | b, x :: xs => (if b = false ∧ x.client ≥ row.client then [row] else []) ++ (if x.client ≠ row.client then [x] else []) ++ sufA row (b || decide (x.client ≥ row.client)) xs
def ins (row : Row) : List Row → List Row
  | [] => [row]
  | x :: xs => if x.client < row.client then x :: ins row xs else if x.client = row.client then row :: xs else row :: x :: xs
theorem acc_suf (row : Row) (L : List Row) : ∀ (d k : Nat), L.length - k = d → k ≤ L.length → insL row L = accA row L k ++ sufA row (inA row.client L k) (L.drop k)
  | 0, k, hd, hk => by
    obtain rfl : k = L.length := by omega
    rw [List.drop_of_length_le (Nat.le_refl _), insL, sufA]
    cases inA row.client L L.length <;> simp
  | d + 1, k, hd, hk => by
    rw [acc_suf row L d (k + 1) (by omega) (by omega), drop_gt (show k < L.length by omega), sufA, accA, inA]
    simp [List.append_assoc]
theorem suf_true (row : Row) : ∀ {L : List Row}, (∀ x ∈ L, x.client ≠ row.client) → sufA row true L = L
  | [], _ => rfl
  | x :: xs, h => by
    rw [sufA, Bool.true_or, suf_true row fun y hy => h y (List.mem_cons_of_mem _ hy)]
    simp [h x (List.mem_cons_self ..)]
theorem suf_ins (row : Row) : ∀ {L : List Row}, IncL L → sufA row false L = ins row L
  | [], _ => rfl
  | x :: xs, h => by
    obtain ⟨h1, h2⟩ := List.pairwise_cons.1 h
    rw [sufA, ins]
    by_cases hlt : x.client < row.client
    · rw [if_pos hlt, if_neg (by omega), if_pos (by omega), decide_eq_false (by omega), Bool.or_false, suf_ins row h2]; rfl
    · have hne : ∀ y ∈ xs, y.client ≠ row.client := fun y hy => by have := h1 y hy; omega
      rw [if_neg hlt, if_pos ⟨rfl, by omega⟩, decide_eq_true (by omega), Bool.or_true, suf_true row hne]
      by_cases he : x.client = row.client
      · rw [if_pos he, if_neg (by simp [he])]; rfl
      · rw [if_neg he, if_pos he]; rfl
theorem insL_ins {row : Row} {L : List Row} (h : IncL L) : insL row L = ins row L := by
  rw [acc_suf row L L.length 0 (by omega) (by omega)]
  exact suf_ins row h
theorem ins_mem {row x : Row} : ∀ {L : List Row}, x ∈ ins row L → x = row ∨ x ∈ L
  | [], h => by simp [ins] at h; exact .inl h
  | y :: ys, h => by
    rw [ins] at h
    split at h
    · rcases List.mem_cons.1 h with rfl | h
      · exact .inr (List.mem_cons_self ..)
      · rcases ins_mem h with h | h
        · exact .inl h
        · exact .inr (List.mem_cons_of_mem _ h)
    · split at h
      · rcases List.mem_cons.1 h with rfl | h
        · exact .inl rfl
        · exact .inr (List.mem_cons_of_mem _ h)
      · rcases List.mem_cons.1 h with rfl | h
        · exact .inl rfl
        · exact .inr h
theorem ins_inc {row : Row} : ∀ {L : List Row}, IncL L → IncL (ins row L)
  | [], _ => List.pairwise_singleton _ _
  | x :: xs, h => by
    obtain ⟨h1, h2⟩ := List.pairwise_cons.1 h
    rw [ins]
    split
    · rename_i hlt
      refine List.pairwise_cons.2 ⟨fun y hy => ?_, ins_inc h2⟩
      rcases ins_mem hy with rfl | hy
      · exact hlt
      · exact h1 y hy
    · split
      · rename_i he
        exact List.pairwise_cons.2 ⟨fun y hy => he ▸ h1 y hy, h2⟩
      · refine List.pairwise_cons.2 ⟨fun y hy => ?_, h⟩
        rcases List.mem_cons.1 hy with rfl | hy
        · omega
        · have := h1 y hy; omega
theorem findR_cons (x : Row) (xs : List Row) (c : Int) : findR (x :: xs) c = if x.client = c then some x else findR xs c := by
  unfold findR
  by_cases h : x.client = c <;> simp [h]
theorem findR_gt {L : List Row} {c : Int} (h : ∀ x ∈ L, c < x.client) : findR L c = none := by
  unfold findR
  rw [List.find?_eq_none]
  intro x hx
  have := h x hx
  simp; omega
theorem ins_find {row : Row} (c : Int) : ∀ {L : List Row}, IncL L → findR (ins row L) c = if row.client = c then some row else findR L c
  | [], _ => by rw [ins, findR_cons]
  | x :: xs, h => by
    obtain ⟨h1, h2⟩ := List.pairwise_cons.1 h
    rw [ins]
    split
    · rename_i hlt
      rw [findR_cons, ins_find c h2, findR_cons]
      by_cases hx : x.client = c
      · rw [if_pos hx, if_neg (by omega), if_pos hx]
      · rw [if_neg hx, if_neg hx]
    · split
      · rename_i he
        rw [findR_cons, findR_cons, he]
        by_cases hx : row.client = c
        · rw [if_pos hx, if_pos hx]
        · rw [if_neg hx, if_neg hx, if_neg hx]
      · rw [findR_cons]
theorem ins_len {row : Row} : ∀ {L : List Row}, IncL L → (ins row L).length = L.length + (if (findR L row.client).isSome then 0 else 1)
  | [], _ => rfl
  | x :: xs, h => by
    obtain ⟨h1, h2⟩ := List.pairwise_cons.1 h
    rw [ins, findR_cons]
    split
    · rename_i hlt
      rw [if_neg (show ¬ x.client = row.client by omega), List.length_cons, ins_len h2, List.length_cons]; omega
    · split
      · rename_i he
        simp
      · rename_i hne hlt
        rw [findR_gt (c := row.client) fun y hy => by have := h1 y hy; omega]
        simp
theorem incB_iff : ∀ {L : List Row} {b : Int}, incB b L = true ↔ ((∀ x ∈ L, rowOk x = true ∧ b < x.client) ∧ IncL L)
  | [], b => by simp [incB, IncL]
  | x :: xs, b => by
    rw [incB, Bool.and_eq_true, Bool.and_eq_true, decide_eq_true_eq, incB_iff (L := xs)]
    constructor
    · rintro ⟨⟨h1, h2⟩, h3, h4⟩
      refine ⟨fun y hy => ?_, List.pairwise_cons.2 ⟨fun y hy => (h3 y hy).2, h4⟩⟩
      rcases List.mem_cons.1 hy with rfl | hy
      · exact ⟨h1, h2⟩
      · have := (h3 y hy).2; exact ⟨(h3 y hy).1, by omega⟩
    · rintro ⟨h1, h2⟩
      obtain ⟨h3, h4⟩ := List.pairwise_cons.1 h2
      exact ⟨h1 x (List.mem_cons_self ..), fun y hy => ⟨(h1 y (List.mem_cons_of_mem _ hy)).1, h3 y hy⟩, h4⟩
theorem right_iff {L : List Row} : rightF L = true ↔ (L.length ≤ 64 ∧ (∀ x ∈ L, rowOk x = true) ∧ IncL L) := by
  rw [rightF, Bool.and_eq_true, decide_eq_true_eq, incB_iff]
  constructor
  · rintro ⟨h1, h2, h3⟩; exact ⟨h1, fun x hx => (h2 x hx).1, h3⟩
  · rintro ⟨h1, h2, h3⟩
    refine ⟨h1, fun x hx => ⟨h2 x hx, ?_⟩, h3⟩
    have := h2 x hx
    simp only [rowOk, Bool.and_eq_true] at this
    have := isNum_pos this.1.1
    omega
def toLast (r : Row) : Last := ⟨r.serial, r.result⟩
/-- Both tables hold the same. -/
structure Both (T : List (Int × Last)) (L : List Row) : Prop where
  right : rightF L = true
  keys : (T.map (·.1)).Nodup
  get : ∀ c, mget T c = (findR L c).map toLast
  len : T.length = L.length
theorem Both.ask {T : List (Int × Last)} {L : List Row} (h : Both T L) (c s : Int) : askF T c s = raskF L c s := by
  unfold askF raskF
  split
  · rfl
  · rw [h.get]
    cases findR L c with
    | none =>
      have hl := h.len
      have := (right_iff.1 h.right).1
      simp only [Option.map_none]
      by_cases hh : (L.length : Int) ≥ 64
      · rw [if_pos (by omega), if_pos hh]
      · rw [if_neg (by omega), if_neg hh]
    | some r =>
      simp only [Option.map_some, toLast]
      split
      · rfl
      · rename_i h1
        by_cases h2 : s = r.serial
        · rw [if_neg (by omega), if_pos h2]
        · rw [if_pos (by omega), if_neg h2]
theorem Both.last {T : List (Int × Last)} {L : List Row} (h : Both T L) (c : Int) : lastF T c = rlastF L c := by
  unfold lastF rlastF
  rw [h.get]
  cases findR L c <;> rfl
theorem mput_keys {α : Type} {x : α} {c : Int} : ∀ {T : List (Int × α)}, (T.map (·.1)).Nodup → ((mput T c x).map (·.1)).Nodup ∧ ∀ k, k ∈ (mput T c x).map (·.1) → k = c ∨ k ∈ T.map (·.1)
  | [], _ => by simp [mput]
  | (j, y) :: T, h => by
    simp only [List.map_cons, List.nodup_cons] at h
    obtain ⟨h1, h2⟩ := h
    rw [mput]
    split
    · rename_i he
      subst he
      exact ⟨by simpa using ⟨by simpa using h1, h2⟩, fun k hk => .inr (by simpa using hk)⟩
    · rename_i he
      obtain ⟨g1, g2⟩ := mput_keys (x := x) (c := c) h2
      refine ⟨List.nodup_cons.2 ⟨fun hm => ?_, g1⟩, fun k hk => ?_⟩
      · rcases g2 _ hm with h | h
        · exact he h
        · exact h1 h
      · rcases List.mem_cons.1 hk with rfl | hk
        · exact .inr (List.mem_cons_self ..)
        · rcases g2 _ hk with h | h
          · exact .inl h
          · exact .inr (List.mem_cons_of_mem _ h)
theorem Both.put {T : List (Int × Last)} {L : List Row} (h : Both T L) (cl s : Int) (r : Res) : (putF T cl s r).1 = (rputF L cl s r).1 ∧ Both (putF T cl s r).2 (rputF L cl s r).2 := by
  unfold putF rputF
  rw [h.ask]
  split
  · exact ⟨rfl, h⟩
  · rename_i he
    split
    · exact ⟨rfl, h⟩
    · rename_i hr
      split
      · exact ⟨rfl, h⟩
      · rename_i h4
        split
        · exact ⟨rfl, h⟩
        · rename_i h1
          have h1 : (raskF L cl s).1 = 1 := by simpa using h1
          have he : (raskF L cl s).2.2 = 0 := by simpa using he
          obtain ⟨r1, r2, r3⟩ := right_iff.1 h.right
          have hn : isNum cl = true ∧ isNum s = true := by
            by_cases hc : isNum cl = false ∨ isNum s = false
            · rw [rask_bad hc] at he; cases he
            · simpa using hc
          refine ⟨rfl, ?_, (mput_keys h.keys).1, fun c => ?_, ?_⟩
          · rw [insL_ins r3]
            refine right_iff.2 ⟨?_, fun x hx => ?_, ins_inc r3⟩
            · rw [ins_len r3]
              simp only
              cases hf : findR L cl with
              | none =>
                rw [rask_none hn.1 hn.2 hf] at h4
                have : ¬ (L.length : Int) ≥ 64 := fun hh => h4 (by rw [if_pos hh])
                simp; omega
              | some y => simpa using r1
            · rcases ins_mem hx with rfl | hx
              · simp only [rowOk, hn.1, hn.2, Bool.true_and]
                simpa using hr
              · exact r2 x hx
          · rw [insL_ins r3, ins_find c r3]
            simp only
            by_cases hc : cl = c
            · subst hc
              rw [mget_mput_same, if_pos rfl]; rfl
            · rw [mget_mput_other _ _ (fun e => hc e.symm), if_neg hc, h.get]
          · rw [insL_ins r3, ins_len r3, mput_length, h.len, h.get]
            simp
end Go.Proofs.Ytipjpgjahmadiaa
