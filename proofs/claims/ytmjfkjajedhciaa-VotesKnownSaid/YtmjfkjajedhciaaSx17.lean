/- SORTING A ROW OF ONE's OWN BY THE LIBRARY: the shelf's contracts turned into contracts over owned rows. Plain theorems over any program. -/
import Derived.Test.YtmjfkjajedhciaaSx16
import Derived.Shelf.SlSortCmp.NoneTotal
set_option linter.unusedVariables false
set_option linter.unusedSimpArgs false
namespace Go.Sx
open Go Go.Sort Go.Proofs Go.Shelf Go.Lib

theorem heap_put {w : World} {g n : Nat} {os : Array Obj} {cur : Array Value} {e : TypeId} {fr : Nat × Nat} (F : Array Value) (hb : w.heap[g]? = some (.cells cur e fr)) :
    (grow (putRow id (Sort.ahead w n) g 0 F) os).heap[g]? = some (.cells (putCells id 0 F cur) e fr) := by
  have hg : g < w.heap.size := (Array.getElem?_eq_some_iff.1 hb).1
  rw [heap_grow_old _ _ (by simpa using hg)]
  simp [putRow, mapBlock, Sort.ahead, Array.getElem?_modify, hb, onCells]
theorem heap_put_old {w : World} {g n : Nat} {os : Array Obj} (F : Array Value) {k : Nat} (hk : k < w.heap.size) (hne : k ≠ g) :
    (grow (putRow id (Sort.ahead w n) g 0 F) os).heap[k]? = w.heap[k]? := by
  rw [heap_grow_old _ _ (by simpa using hk)]
  have : g ≠ k := fun e => hne e.symm
  simp [putRow, mapBlock, Sort.ahead, Array.getElem?_modify, this]
theorem take_put (cur F : Array Value) (h : F.size ≤ cur.size) : (putCells id 0 F cur).toList.take F.size = F.toList := by
  apply List.ext_getElem?
  intro j
  by_cases hj : j < F.size
  · rw [List.getElem?_take_of_lt hj, Array.getElem?_toList]
    simp [putCells, hj, show j < cur.size by omega]
  · rw [List.getElem?_take_eq_none (by omega), List.getElem?_eq_none (by simp; omega)]
/-- A row of one's own whose cells were laid anew in place. -/
theorem Heap.inplace {S : Blocks} {Q : List Pers} {w : World} {g m cap sz n : Nat} {e : TypeId} {cs : List Value} {os : Array Obj} {F : Array Value} (h : Heap S [.row (.slice (some ⟨g, 0, none⟩) m cap) e sz m cs] Q w) (hF : F.size = m * sz) :
    Heap S [.row (.slice (some ⟨g, 0, none⟩) m cap) e sz m F.toList] Q (grow (putRow id (Sort.ahead w n) g 0 F) os) ∧ Fr [g] w (grow (putRow id (Sort.ahead w n) g 0 F) os) := by
  have ho := h.own _ (List.mem_singleton.2 rfl)
  obtain ⟨hl, ho⟩ := ho
  rcases ho with ⟨hv, _⟩ | ⟨g', cap', cur, hv, hg, hb, h1, h2, h3, h4⟩
  · cases hv
  cases hv
  have hS : ¬ S g := h.out g (by simp [keysOf, Own.keys, Value.ownBlock])
  refine ⟨⟨fun o hm => ?_, h.nod, h.out, fun q hq => q.st (h.per q hq) fun k hs hk => ⟨hs, heap_put_old F hk fun e => hS (e ▸ hs)⟩⟩, ?_⟩
  · rw [List.mem_singleton.1 hm]
    refine ⟨by simp [hF], .inr ⟨g, cap, _, rfl, hg, heap_put F hb, h1, h2, by simp [putCells, h3], ?_⟩⟩
    rw [← hF]
    exact take_put cur F (by rw [h3, hF]; exact Nat.mul_le_mul_right _ h1)
  · exact ⟨rfl, rfl, rfl, by simp, fun k hk hn => heap_put_old F hk (by simpa using hn)⟩

theorem reps_pairs {α : Type} {kd : Kd α} {w : World} {S : Blocks} : ∀ {xs : List α} {cs : List Value}, Reps kd w S xs cs →
    ∃ ps : List (α × kd.Y), ps.map (·.1) = xs ∧ cs = ps.flatMap (fun p => kd.cells p.1 p.2) ∧ ∀ p ∈ ps, kd.ok p.1 p.2 ∧ ∀ q ∈ kd.pers p.1 p.2, q.h w S
  | [], cs, h => by simp only [Reps] at h; subst h; exact ⟨[], rfl, rfl, by simp⟩
  | x :: r, cs, ⟨c, t, e, ⟨y, h1, h2, h3⟩, h4⟩ => by
    obtain ⟨ps, g1, g2, g3⟩ := reps_pairs h4
    refine ⟨(x, y) :: ps, by simp [g1], by rw [e, h2, g2]; rfl, fun p hp => ?_⟩
    rcases List.mem_cons.1 hp with rfl | hp
    · exact ⟨h1, h3⟩
    · exact g3 p hp
theorem pairs_reps {α : Type} {kd : Kd α} {w : World} {S : Blocks} : ∀ (ps : List (α × kd.Y)), (∀ p ∈ ps, kd.ok p.1 p.2 ∧ ∀ q ∈ kd.pers p.1 p.2, q.h w S) → Reps kd w S (ps.map (·.1)) (ps.flatMap (fun p => kd.cells p.1 p.2))
  | [], _ => rfl
  | p :: ps, h => ⟨kd.cells p.1 p.2, _, rfl, ⟨p.2, (h p (List.mem_cons_self ..)).1, rfl, (h p (List.mem_cons_self ..)).2⟩, pairs_reps ps fun q hq => h q (List.mem_cons_of_mem _ hq)⟩
theorem flat_list {β : Type} [Inhabited β] (enc : β → List Value) (k : Nat) (hk : ∀ x, (enc x).length = k) (h0 : 0 < k) : ∀ l : List β, ((List.range (l.length * k)).map fun t => (enc l[t / k]!)[t % k]!) = l.flatMap enc
  | [] => by simp
  | x :: l => by
    have ih := flat_list enc k hk h0 l
    rw [List.length_cons, Nat.add_mul, Nat.one_mul, Nat.add_comm, List.range_add, List.map_append, List.flatMap_cons]
    congr 1
    · apply List.ext_getElem (by simp [hk])
      intro i h1 h2
      have hi : i < k := by simpa using h1
      simp only [List.getElem_map, List.getElem_range, Nat.div_eq_of_lt hi, Nat.mod_eq_of_lt hi, List.getElem!_cons_zero]
      rw [getElem!_pos (enc x) i (by rw [hk]; exact hi)]
    · rw [← ih, List.map_map]
      apply List.map_congr_left
      intro t _
      simp only [Function.comp, Nat.add_div_left t h0, Nat.add_mod_left, Nat.succ_eq_add_one, List.getElem!_cons_succ]
theorem flat_array {β : Type} [Inhabited β] (enc : β → List Value) (k : Nat) (hk : ∀ x, (enc x).length = k) (h0 : 0 < k) (d : Array β) : (flatK enc k d).toList = d.toList.flatMap enc := by
  rw [← flat_list enc k hk h0 d.toList]
  simp only [flatK, Array.toList_map, Array.toList_range, Array.length_toList]
  apply List.map_congr_left
  intro t ht
  have h1 : t / k < d.size := Nat.div_lt_of_lt_mul (by rw [Nat.mul_comm]; simpa using ht)
  have h2 : d.toList[t / k]! = d[t / k]! := by rw [getElem!_pos d _ h1, getElem!_pos d.toList _ (by simpa using h1)]; simp
  rw [h2]
section
variable {P : Program} {ρ : Ren} {α : Type}
/-- slices.SortFunc over rows of structs. -/
theorem ct_sortFunc (kd : Kd α) [Inhabited α] [Inhabited kd.Y] (h0 : 0 < kd.sz) (L : SlLaysF0.n6 P ρ) (aE : ∀ w, (isAgg (ρ.t 24)).run P w = .ok true w) (zE : ∀ w, (Go.sizeOf (ρ.t 24)).run P w = .ok kd.sz w) (cf : α → α → Int) (hO : SWO (ltOf fun x y : α × kd.Y => cf x.1 y.1)) (g : Nat) (cb : Array Value)
    (eg : ∀ args w, (callFunc g args).run P w = .ok (.enter g args) w) (hcmp : ∀ (x y : α × kd.Y) (W : World), Calls P g (#[.agg (kd.cells x.1 x.2).toArray, .agg (kd.cells y.1 y.2).toArray] ++ cb) W fun e w' => e = .returned (.int .i64 (cf x.1 y.1)) ∧ ∃ q os', w' = grow (W.drewN q) os')
    (A : Option Addr) (n cp : Nat) (e : TypeId) (cs : List Value) (xs : List α) (hn : xs.length = n) (hbig : n < 4611686018427387904) :
    Ct P (ρ.f 6) [.slice A n cp, .func (.func g) #[] cb] [.row (.slice A n cp) e kd.sz n cs] [Pers.reps kd xs cs]
      (fun u G Q => ∃ ys cs', (ys.Perm xs ∧ ys.Pairwise fun x y => ¬ cf y x < 0) ∧ u = .tuple #[] ∧ G = [.row (.slice A n cp) e kd.sz n cs'] ∧ Q = [Pers.reps kd ys cs']) := by
  intro w S h
  have ho := h.own _ (List.mem_singleton.2 rfl)
  have hr : Reps kd w S xs cs := h.per _ (List.mem_singleton.2 rfl)
  obtain ⟨hl, ho⟩ := ho
  rcases ho with ⟨hv, h00⟩ | ⟨b, cap, cur, hv, hg, hb, h1, h2, h3, h4⟩
  · cases hv
    have hx : xs = [] := List.eq_nil_of_length_eq_zero hn
    subst hx
    refine (AnyF.slices_SortFunc_none L none 0 (.func (.func g) #[] cb) w).mono ?_
    rintro e' w' ⟨rfl, rfl⟩
    exact ⟨_, _, _, S, rfl, ⟨[], cs, ⟨List.Perm.refl _, List.Pairwise.nil⟩, rfl, rfl, rfl⟩, h, Fr.refl _ _, fun _ _ _ => Iff.rfl, fun k hk => .inl hk⟩
  · cases hv
    obtain ⟨ps, g1, g2, g3⟩ := reps_pairs hr
    have hps : ps.length = n := by rw [← hn, ← g1]; simp
    have hsz : ps.toArray.size = n := by simp [hps]
    have hfl : (flatK (fun p : α × kd.Y => kd.cells p.1 p.2) kd.sz ps.toArray).toList = cs := by
      rw [flat_array (fun p : α × kd.Y => kd.cells p.1 p.2) _ (fun p => kd.len p.1 p.2) h0, g2]
    have hH : HoldsK (fun p : α × kd.Y => kd.cells p.1 p.2) kd.sz w b 0 ps.toArray := by
      intro j hj
      have hj' : j < cs.length := by rw [← hfl]; simpa using hj
      refine ⟨?_, by simp [World.frozen?, hb]⟩
      have h5 : (cur.toList.take (n * kd.sz))[j]? = cs[j]? := by rw [h4]
      rw [List.getElem?_take_of_lt (by rw [hl] at hj'; exact hj')] at h5
      simp only [World.cell?, hb, Nat.zero_add, Option.isSome_none, Bool.false_eq_true, if_false, id]
      rw [← Array.getElem?_toList, h5, ← hfl, Array.getElem?_toList, getElem!_pos _ j hj, Array.getElem?_eq_getElem hj]
    have hblk : b < w.heap.size := (Array.getElem?_eq_some_iff.1 hb).1
    have hc : CmpLays P g cb (fun p : α × kd.Y => kd.cells p.1 p.2) kd.sz (fun x y => cf x.1 y.1) b 0 ps.toArray.size w := fun _ _ _ _ x y => hcmp x y _
    have := AnyQ.slices_SortFunc L kd.sz aE zE (fun p : α × kd.Y => kd.cells p.1 p.2) (fun p => kd.len p.1 p.2) (fun p v hv => kd.one p.1 p.2 v hv) (fun x y => cf x.1 y.1) hO g cb b 0 cp ps.toArray w eg hc hH hblk (by rw [hsz]; exact hbig)
    rw [hsz] at this
    refine Calls.mono this ?_
    rintro e' w' ⟨rfl, d', q, os, hp, hs, rfl⟩
    have hd : d'.size = n := hp.1.trans hsz
    have hperm : d'.toList.Perm ps := by
      have h6 := hp.2.2
      have e1 : (d'.extract 0 n).toList = d'.toList := by rw [← hd, Array.extract_size]
      have e2 : (ps.toArray.extract 0 n).toList = ps := by rw [← hsz, Array.extract_size]
      rw [e1, e2] at h6
      exact h6
    obtain ⟨hin, hfr⟩ := Heap.inplace (n := q) (os := os) (F := flatK (fun p : α × kd.Y => kd.cells p.1 p.2) kd.sz d') h (by simp [flatK, hd])
    refine ⟨_, _, _, S, rfl, ⟨d'.toList.map (·.1), (flatK (fun p : α × kd.Y => kd.cells p.1 p.2) kd.sz d').toList, ⟨?_, ?_⟩, rfl, rfl, rfl⟩, ?_, ?_, fun _ _ _ => Iff.rfl, fun k hk => .inl hk⟩
    · rw [← g1]; exact hperm.map _
    · rw [List.pairwise_map, List.pairwise_iff_getElem]
      intro i j hi hj hij
      have := hs i j (Nat.zero_le _) hij (by rw [← hd]; simpa using hj)
      rw [getElem!_pos d' i (by simpa using hi), getElem!_pos d' j (by simpa using hj)] at this
      simpa [ltOf] using this
    · refine ⟨hin.own, hin.nod, hin.out, fun q' hq' => ?_⟩
      rw [List.mem_singleton.1 hq']
      have old := hin.per _ (List.mem_singleton.2 rfl)
      show Reps kd _ S _ _
      rw [flat_array (fun p : α × kd.Y => kd.cells p.1 p.2) _ (fun p => kd.len p.1 p.2) h0]
      refine pairs_reps _ fun p hp' => ?_
      have hm := hperm.mem_iff.1 hp'
      refine ⟨(g3 p hm).1, fun z hz => z.st ((g3 p hm).2 z hz) fun k hk hlt => ⟨hk, hfr.block k hlt ?_⟩⟩
      have : ¬ S b := h.out b (by simp [keysOf, Own.keys, Value.ownBlock])
      simp only [List.mem_singleton]
      rintro rfl
      exact this hk
    · have hk : keysOf [Own.row (.slice (some ⟨b, 0, none⟩) n cp) e kd.sz n cs] = [b] := rfl
      rw [hk]
      exact hfr
end
end Go.Sx
