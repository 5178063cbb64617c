/- GOING OVER A MAP: the iterator's block is owned; each round yields an entry that is left, whichever it is. Plain theorems over any program. -/
import Derived.Test.YtmjfkjajedhciaaSxM
import Derived.Test.YtmjfkjajedhciaaSx15
import Derived.Maps.RangeRun
set_option linter.unusedVariables false
set_option linter.unusedSimpArgs false
namespace Go.Sx
open Go
/-- What is left of a table, behind the entries that were seen. -/
def rem {α : Type} (T : List (Int × α)) (es : List MapEntry) (seen : Array Nat) : List (Int × α) := ((T.zip es).filter fun p => !seen.contains p.2.born).map (·.1)
theorem rem_nil {α : Type} {d : Kd α} {agg : Bool} {w : World} {S : Blocks} : ∀ {T : List (Int × α)} {es : List MapEntry}, MapReps d agg w S T es → rem T es #[] = T
  | [], [], _ => rfl
  | x :: T, e :: es, h => by
    have := rem_nil (show MapReps d agg w S T es from h.2.2)
    simp only [rem, List.zip_cons_cons] at this ⊢
    simp at this ⊢
    exact this
  | [], _ :: _, h => h.elim
  | _ :: _, [], h => h.elim
theorem rem_out {α : Type} (T : List (Int × α)) {seen : Array Nat} {b : Nat} : ∀ {es : List MapEntry}, b ∉ es.map (·.born) → rem T es (seen.push b) = rem T es seen := by
  intro es hb
  unfold rem
  congr 1
  apply List.filter_congr
  intro p hp
  have h2 : p.2 ∈ es := (List.of_mem_zip hp).2
  have : p.2.born ≠ b := fun e => hb (List.mem_map.2 ⟨p.2, h2, e⟩)
  simp [this]
theorem rem_step {α : Type} {d : Kd α} {agg : Bool} {w : World} {S : Blocks} {seen : Array Nat} {e : MapEntry} : ∀ {T : List (Int × α)} {es : List MapEntry}, MapReps d agg w S T es → (es.map (·.born)).Nodup → e ∈ es → seen.contains e.born = false →
    ∃ k u cs A B, e.key = .int .i64 k ∧ e.val = mkV agg cs ∧ d.K w S u cs ∧ rem T es seen = A ++ (k, u) :: B ∧ rem T es (seen.push e.born) = A ++ B
  | [], [], _, _, he, _ => by cases he
  | (k, u) :: T, e0 :: es, ⟨h1, ⟨cs, h2, h3⟩, h4⟩, hn, he, hs => by
    simp only [List.map_cons, List.nodup_cons] at hn
    rcases List.mem_cons.1 he with rfl | he
    · refine ⟨k, u, cs, [], rem T es seen, h1, h2, h3, ?_, ?_⟩
      · simp only [rem, List.zip_cons_cons, List.nil_append]
        rw [List.filter_cons_of_pos (by simp only [hs]; simp)]
        rfl
      · have := rem_out T (seen := seen) hn.1
        rw [← this]
        simp [rem]
    · obtain ⟨k', u', cs', A, B, g1, g2, g3, g4, g5⟩ := rem_step h4 hn.2 he hs
      have hne : e0.born ≠ e.born := fun h => hn.1 (List.mem_map.2 ⟨e, he, h.symm⟩)
      by_cases h0 : seen.contains e0.born = true
      · refine ⟨k', u', cs', A, B, g1, g2, g3, ?_, ?_⟩
        · rw [← g4]; simp only [rem, List.zip_cons_cons]; rw [List.filter_cons_of_neg (by simp only [h0]; simp)]
        · rw [← g5]; simp only [rem, List.zip_cons_cons]; rw [List.filter_cons_of_neg (by simp only [Array.contains_push, h0]; simp)]
      · have h0' : seen.contains e0.born = false := by simpa using h0
        refine ⟨k', u', cs', (k, u) :: A, B, g1, g2, g3, ?_, ?_⟩
        · rw [List.cons_append, ← g4]; simp only [rem, List.zip_cons_cons]; rw [List.filter_cons_of_pos (by simp only [h0']; simp)]; rfl
        · have h5 : (seen.push e.born).contains e0.born = false := by
            rw [Array.contains_push, h0']; simp; exact hne
          rw [List.cons_append, ← g5]; simp only [rem, List.zip_cons_cons]; rw [List.filter_cons_of_pos (by simp only [h5]; simp)]; rfl
  | [], _ :: _, h, _, _, _ => h.elim
  | _ :: _, [], h, _, _, _ => h.elim
theorem rem_none {α : Type} {d : Kd α} {agg : Bool} {w : World} {S : Blocks} {seen : Array Nat} : ∀ {T : List (Int × α)} {es : List MapEntry}, MapReps d agg w S T es → (es.filter fun e => !seen.contains e.born) = [] → rem T es seen = []
  | [], [], _, _ => rfl
  | (k, u) :: T, e0 :: es, ⟨_, _, h4⟩, h => by
    by_cases h0 : seen.contains e0.born = true
    · rw [List.filter_cons_of_neg (by simp only [h0]; simp)] at h
      have := rem_none h4 h
      simp only [rem, List.zip_cons_cons]
      rw [List.filter_cons_of_neg (by simp only [h0]; simp)]
      exact this
    · rw [List.filter_cons_of_pos (by simp only [h0]; simp)] at h
      cases h
  | [], _ :: _, h, _ => h.elim
  | _ :: _, [], h, _ => h.elim
/-- What the iterator yielded last. -/
def LastIs (es : Array MapEntry) (s : Array Nat) (k v : Value) : Prop := ∃ (e : MapEntry) (s' : Array Nat), s = s'.push e.born ∧ e ∈ es.toList ∧ (es.toList.map (·.born)).Nodup ∧ e.key = k ∧ e.val = v
section
variable {P : Program} {c : Cx} {n : Nat} {env : List (Nat × Value)} {G : List Own} {Q : List Pers} {d : Nat} {ty : TypeId} {pos : String} {aft : Array Edge} {g : Option (Nat × Bool)} {x y z : Operand} {t kt et : TypeId}
theorem t_range {i m ck : Nat} {es : Array MapEntry} (hd : Nat.blt d n = true) (hi : nthO G i = some (.blk m (.map es ck))) (hx : ev env x = some (.map (some m))) (ht : P.underlying t = some (.map kt et)) :
    Tr P ⟨some d, .range t x, ty, pos, aft, g⟩ (St c n env G Q) (fun a w => ∃ r, St c n ((d, .pointer (some ⟨r, 0, none⟩)) :: env) (.blk r (.mapIter (some m) ck #[] ck) :: G) Q a w) := by
  intro a w h K R hk
  have hblk : w.heap[m]? = some (.map es ck) := h.own hi
  have hrun : (execOp a.eval ⟨some d, .range t x, ty, pos, aft, g⟩).run P w = .ok (.value (.pointer (some ⟨w.heap.size, 0, none⟩))) (w.alloc (.mapIter (some m) ck #[] ck)) := by
    simp only [execOp, h.en.eval hx, Sem.run_bind, run_range_map w t kt et m es ck ht hblk, Result.andThen_ok, Sem.run_pure]
  unfold Oper.wp
  rw [hrun]
  exact hk _ _ ⟨w.heap.size, h.new _ (h.en.put hd _)⟩
/-- The next entry. -/
theorem t_next {α : Type} {kd : Kd α} {i j l r m ck : Nat} {es : Array MapEntry} {T : List (Int × α)} {seen : Array Nat} {GN : Array Nat → List Own} (hd : Nat.blt d n = true) (hi : nthO G i = some (.blk m (.map es ck))) (hl : nthO G l = some (.blk r (.mapIter (some m) ck seen ck))) (hj : nthO Q j = some (Pers.map kd true T es ck)) (hx : ev env x = some (.pointer (some ⟨r, 0, none⟩)))
    (hr : ∀ s, repl G l (.blk r (.mapIter (some m) ck s ck)) = some (GN s)) :
    Tr P ⟨some d, .next x false, ty, pos, aft, g⟩ (St c n env G Q) (fun a w => (rem T es.toList seen = [] ∧ St c n ((d, .tuple #[.bool false]) :: env) G Q a w) ∨
      (∃ k u y s A B, (kd.ok u y ∧ rem T es.toList seen = A ++ (k, u) :: B ∧ rem T es.toList s = A ++ B ∧ LastIs es s (.int .i64 k) (.agg (kd.cells u y).toArray)) ∧ St c n ((d, .tuple #[.bool true, .int .i64 k, .agg (kd.cells u y).toArray]) :: env) (GN s) (kd.pers u y ++ Q) a w)) := by
  intro a w h K R hk
  have hblk : w.heap[m]? = some (.map es ck) := h.own hi
  have hit : w.heap[r]? = some (.mapIter (some m) ck seen ck) := h.own hl
  have hlt : r < w.heap.size := (Array.getElem?_eq_some_iff.1 hit).1
  have he := h.en
  have hK : ∃ S, Heap S G Q w ∧ Rel c S G w ∧ MapReps kd true w S T es.toList ∧ Stamped es ck := by
    obtain ⟨S, he, hh, hrel⟩ := h
    exact ⟨S, hh, hrel, hh.per _ (nthO_mem hj)⟩
  obtain ⟨S, hh, hrel, hm, hst⟩ := hK
  rcases run_next_at (P := P) w ty r m ck ck seen es ck hit hblk hst.1 (Nat.le_refl _) with ⟨h0, hrun⟩ | ⟨e, hmem, w1, hw1, hrun⟩
  · have hexec : (execOp a.eval ⟨some d, .next x false, ty, pos, aft, g⟩).run P w = .ok (.value (.tuple #[.bool false])) w := by
      simp only [execOp, he.eval hx, Sem.run_bind, hrun, Result.andThen_ok, Sem.run_pure]
    unfold Oper.wp
    rw [hexec]
    refine hk _ _ (.inl ⟨rem_none hm ?_, S, he.put hd _, hh, hrel⟩)
    have : (leftOf es seen).toList = [] := by
      have := h0
      rw [← Array.length_toList] at this
      exact List.eq_nil_of_length_eq_zero this
    simpa [leftOf] using this
  · have hme : e ∈ es.toList ∧ seen.contains e.born = false := by
      simp only [leftOf, Array.toList_filter, List.mem_filter] at hmem
      exact ⟨hmem.1, by simpa using hmem.2⟩
    obtain ⟨k, u, cs, A, B, g1, g2, ⟨y, hok, hcs, hper⟩, g4, g5⟩ := rem_step hm hst.2 hme.1 hme.2
    have hexec : (execOp a.eval ⟨some d, .next x false, ty, pos, aft, g⟩).run P w = .ok (.value (.tuple #[.bool true, e.key, e.val])) (ChangeMaps.setBlock w1 r (.mapIter (some m) ck (seen.push e.born) ck)) := by
      simp only [execOp, he.eval hx, Sem.run_bind, hrun, Result.andThen_ok, Sem.run_pure]
    unfold Oper.wp
    rw [hexec]
    refine hk _ _ (.inr ⟨k, u, y, seen.push e.born, A, B, ⟨hok, g4, g5, e, seen, rfl, hme.1, hst.2, g1, by rw [g2, mkV, if_pos rfl, hcs]⟩, ?_⟩)
    rw [g1, g2, mkV, if_pos rfl, hcs]
    have base : St c n env G (kd.pers u y ++ Q) a w1 := by
      have b0 : St c n env G (kd.pers u y ++ Q) a w := ⟨S, he, ⟨hh.own, hh.nod, hh.out, fun q hq => by
        rcases List.mem_append.1 hq with hq | hq
        · exact hper q hq
        · exact hh.per q hq⟩, hrel⟩
      rcases hw1 with rfl | rfl
      · exact b0
      · exact b0.drew
    have hlt1 : r < w1.heap.size := by rcases hw1 with rfl | rfl <;> exact hlt
    refine base.write hl (hr _) (Fr.setObj w1) ?_ (fun k hk => .inl hk) (by simp [Own.keys]) (he.put hd _)
    show (w1.heap.setIfInBounds r _)[r]? = _
    simp [hlt1]
theorem m_entry {i l r m ck : Nat} {es : Array MapEntry} {s : Array Nat} {k v : Value} (hi : nthO G i = some (.blk m (.map es ck))) (hl : nthO G l = some (.blk r (.mapIter (some m) ck s ck))) (hx : ev env x = some (.pointer (some ⟨r, 0, none⟩))) (h : LastIs es s k v) :
    Pm P c n G Q env ⟨some d, .entry x, ty, pos, aft, g⟩ (.tuple #[k, v]) := fun a w he hm => by
  have hblk : w.heap[m]? = some (.map es ck) := hm.own hi
  have hit : w.heap[r]? = some (.mapIter (some m) ck s ck) := hm.own hl
  obtain ⟨e, s', rfl, h1, h2, rfl, rfl⟩ := h
  simp only [execOp, he.eval hx, Sem.run_bind, run_entry_at (P := P) w r m ck s' es ck e hit hblk h1 h2, Result.andThen_ok, Sem.run_pure]
end
end Go.Sx
