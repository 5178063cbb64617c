/- ROWS OF ONE's OWN AS BLOCKS, and back; sorting numbers. Plain theorems over any program. -/
import Derived.Test.YtmjfkjajedhciaaSx17
import Derived.Shelf.Sort.Plain
import Derived.Shelf.Slices.In.SortNone
set_option linter.unusedVariables false
set_option linter.unusedSimpArgs false
namespace Go.Sx
open Go Go.Sort Go.Proofs Go.Shelf Go.Lib
theorem ownsRow_cells {w : World} {A : Option Addr} {n cp e sz : Nat} {cs : List Value} (h : (Own.row (.slice A n cp) e sz n cs).holds w) (hn : n ≠ 0) : ∃ b sp, A = some ⟨b, 0, none⟩ ∧ (cs ++ sp).length = cp * sz ∧ n ≤ cp ∧ cp ≤ 9223372036854775807 ∧ (Own.cells b (cs ++ sp) e).holds w := by
  obtain ⟨hl, h⟩ := h
  rcases h with ⟨_, h0⟩ | ⟨b, cap, cur, hv, _, hb, h1, h2, h3, h4⟩
  · exact absurd h0 hn
  · cases hv
    refine ⟨b, cur.toList.drop (n * sz), rfl, ?_, h1, by simpa [maxLen] using h2, ?_⟩
    · rw [← h4, List.take_append_drop]; simpa using h3
    · show w.heap[b]? = _
      rw [hb, ← h4, List.take_append_drop]
/-- A contract over a row, out of one over its block; and one for no element. -/
theorem Ct.unrow {P : Program} {f : FuncId} {args : List Value} {A : Option Addr} {n cp e sz : Nat} {cs : List Value} {G : List Own} {Q : List Pers} {R : Value → List Own → List Pers → Prop}
    (h0 : n = 0 → Ct P f args (.row (.slice A n cp) e sz n cs :: G) Q R)
    (h : ∀ b sp, n ≠ 0 → A = some ⟨b, 0, none⟩ → (cs ++ sp).length = cp * sz → n ≤ cp → cp ≤ 9223372036854775807 → Ct P f args (.cells b (cs ++ sp) e :: G) Q R) : Ct P f args (.row (.slice A n cp) e sz n cs :: G) Q R := by
  by_cases hn : n = 0
  · exact h0 hn
  · intro w S hh
    obtain ⟨b, sp, rfl, g1, g2, g3, g4⟩ := ownsRow_cells (hh.own _ (List.mem_cons_self ..)) hn
    have hk : keysOf (Own.row (.slice (some ⟨b, 0, none⟩) n cp) e sz n cs :: G) = keysOf (Own.cells b (cs ++ sp) e :: G) := rfl
    have hh' : Heap S (Own.cells b (cs ++ sp) e :: G) Q w := ⟨fun o ho => by
      rcases List.mem_cons.1 ho with rfl | ho
      · exact g4
      · exact hh.own o (List.mem_cons_of_mem _ ho), hh.nod, hh.out, hh.per⟩
    exact h b sp hn rfl g1 g2 g3 w S hh'
theorem row_cells {b e sz m cp : Nat} {cs sp : List Value} (h1 : cs.length = m * sz) (h2 : (cs ++ sp).length = cp * sz) (h3 : m ≤ cp) (h4 : cp ≤ 9223372036854775807) : ∀ w, (Own.cells b (cs ++ sp) e).holds w → (Own.row (.slice (some ⟨b, 0, none⟩) m cp) e sz m cs).holds w := fun w h =>
  ⟨h1, .inr ⟨b, cp, _, rfl, Nat.zero_le _, h, h3, by simpa [maxLen] using h4, by simpa using h2, by simp [← h1]⟩⟩
section
variable {P : Program} {c : Cx} {n : Nat} {env : List (Nat × Value)} {G G' : List Own} {Q : List Pers} {R : Exit → Asr} {cd : Code} {ops : Array Oper} {rest : List Oper}
theorem GC.rerow {i b e sz m cp : Nat} {l : List Value} (cs sp : List Value) (hi : nthO G i = some (.cells b l e)) (hl : l = cs ++ sp) (h1 : cs.length = m * sz) (h2 : l.length = cp * sz) (h3 : m ≤ cp) (h4 : cp ≤ 9223372036854775807) (hr : repl G i (.row (.slice (some ⟨b, 0, none⟩) m cp) e sz m cs) = some G') (k : GC P R cd (St c n env G' Q)) : GC P R cd (St c n env G Q) :=
  GC.imp (fun a w h => h.recast hi hr rfl (by subst hl; exact row_cells h1 h2 h3 h4)) k
theorem GL.rerow {i b e sz m cp : Nat} {l : List Value} (cs sp : List Value) (hi : nthO G i = some (.cells b l e)) (hl : l = cs ++ sp) (h1 : cs.length = m * sz) (h2 : l.length = cp * sz) (h3 : m ≤ cp) (h4 : cp ≤ 9223372036854775807) (hr : repl G i (.row (.slice (some ⟨b, 0, none⟩) m cp) e sz m cs) = some G') (k : GL P ops R rest (St c n env G' Q)) : GL P ops R rest (St c n env G Q) :=
  GL.imp (fun a w h => h.recast hi hr rfl (by subst hl; exact row_cells h1 h2 h3 h4)) k
end
section
variable {P : Program} {c : Cx} {n : Nat} {env : List (Nat × Value)} {G G' : List Own} {Q : List Pers} {R : Exit → Asr} {cd : Code} {ops : Array Oper} {rest : List Oper} {a : Act} {w : World}
theorem St.freezeI {i e m cp : Nat} {A : Option Addr} {xs : List Int} (h : St c n env G Q a w) (ht : takeO G i = some (.row (.slice A m cp) e 1 m (xs.map (Value.int .i64)), G')) : St c n env G' (Pers.row (Kd.int .i64) A xs :: Q) a w :=
  h.freeze (QN := [Pers.row (Kd.int .i64) A xs]) ht fun w S ho hS hq q hq' => by
    rw [List.mem_singleton.1 hq']
    exact row_pers (kd := Kd.int .i64) ho hS (scalar_reps xs) (by decide)
theorem GL.freezeI {i e m cp : Nat} {A : Option Addr} {xs : List Int} (ht : takeO G i = some (.row (.slice A m cp) e 1 m (xs.map (Value.int .i64)), G')) (k : GL P ops R rest (St c n env G' (Pers.row (Kd.int .i64) A xs :: Q))) : GL P ops R rest (St c n env G Q) := GL.imp (fun a w h => h.freezeI ht) k
theorem GC.freezeI {i e m cp : Nat} {A : Option Addr} {xs : List Int} (ht : takeO G i = some (.row (.slice A m cp) e 1 m (xs.map (Value.int .i64)), G')) (k : GC P R cd (St c n env G' (Pers.row (Kd.int .i64) A xs :: Q))) : GC P R cd (St c n env G Q) := GC.imp (fun a w h => h.freezeI ht) k
theorem GA.freezeI {M : Asr} {I : World → Prop} {fuel : Nat} {listed : Array Bool} {i e m cp : Nat} {A : Option Addr} {xs : List Int} (ht : takeO G i = some (.row (.slice A m cp) e 1 m (xs.map (Value.int .i64)), G')) (k : GA P ops M I fuel listed (St c n env G' (Pers.row (Kd.int .i64) A xs :: Q))) : GA P ops M I fuel listed (St c n env G Q) := GA.imp (fun a w h => h.freezeI ht) k
end
theorem lendI {A : Option Addr} {m cp e : Nat} {xs : List Int} {Q : List Pers} : ∀ (w : World) (S : Blocks), (∀ o ∈ [Own.row (.slice A m cp) e 1 m (xs.map (Value.int .i64))], o.holds w) → (∀ k ∈ keysOf [Own.row (.slice A m cp) e 1 m (xs.map (Value.int .i64))], S k) → (∀ q ∈ Q, q.h w S) → ∀ q ∈ [Pers.row (Kd.int .i64) A xs], q.h w S := fun w S ho hS _ q hq => by
  rw [List.mem_singleton.1 hq]
  exact row_pers (kd := Kd.int .i64) (ho _ (List.mem_singleton.2 rfl)) (fun k hk => hS k (by show k ∈ ([Own.row (.slice A m cp) e 1 m (xs.map (Value.int .i64))].flatMap Own.keys); rw [List.flatMap_cons, List.flatMap_nil, List.append_nil]; exact hk)) (scalar_reps xs) (by decide)
section
variable {P : Program} {ρ : Ren}
theorem heap_putI {w : World} {g n : Nat} {os : Array Obj} {cur : Array Value} {e : TypeId} {fr : Nat × Nat} (d : Array Int) (hb : w.heap[g]? = some (.cells cur e fr)) :
    (grow (putRow (Value.int .i64) (Sort.ahead w n) g 0 d) os).heap[g]? = some (.cells (putCells (Value.int .i64) 0 d cur) e fr) := by
  have hg : g < w.heap.size := (Array.getElem?_eq_some_iff.1 hb).1
  rw [heap_grow_old _ _ (by simpa using hg)]
  simp [putRow, mapBlock, Sort.ahead, Array.getElem?_modify, hb, onCells]
theorem heap_putI_old {w : World} {g n : Nat} {os : Array Obj} (d : Array Int) {k : Nat} (hk : k < w.heap.size) (hne : k ≠ g) :
    (grow (putRow (Value.int .i64) (Sort.ahead w n) g 0 d) os).heap[k]? = w.heap[k]? := by
  rw [heap_grow_old _ _ (by simpa using hk)]
  have : g ≠ k := fun e => hne e.symm
  simp [putRow, mapBlock, Sort.ahead, Array.getElem?_modify, this]
theorem take_putI (cur : Array Value) (ts : List Int) (h : ts.length ≤ cur.size) : (putCells (Value.int .i64) 0 ts.toArray cur).toList.take ts.length = ts.map (Value.int .i64) := by
  apply List.ext_getElem?
  intro j
  by_cases hj : j < ts.length
  · rw [List.getElem?_take_of_lt hj, Array.getElem?_toList]
    simp [putCells, hj, show j < cur.size by omega]
  · rw [List.getElem?_take_eq_none (by omega), List.getElem?_eq_none (by simp; omega)]
/-- slices.Sort over numbers. -/
theorem ct_sortI (L : Lays.n189 P ρ) (A : Option Addr) (n cp : Nat) (e : TypeId) (xs : List Int) (hn : xs.length = n) (hbig : n < 4611686018427387904) :
    Ct P (ρ.f 189) [.slice A n cp] [.row (.slice A n cp) e 1 n (xs.map (Value.int .i64))] []
      (fun u G Q => u = .tuple #[] ∧ G = [.row (.slice A n cp) e 1 n ((xs.mergeSort fun x y => decide (x ≤ y)).map (Value.int .i64))] ∧ Q = []) := by
  intro w S h
  have ho := h.own _ (List.mem_singleton.2 rfl)
  obtain ⟨hl, ho⟩ := ho
  rcases ho with ⟨hv, h00⟩ | ⟨b, cap, cur, hv, hg, hb, h1, h2, h3, h4⟩
  · cases hv
    have hx : xs = [] := List.eq_nil_of_length_eq_zero hn
    subst hx
    refine (Any.slices_Sort_int_none L none 0 w).mono ?_
    rintro e' w' ⟨rfl, rfl⟩
    exact ⟨_, _, _, S, rfl, ⟨rfl, rfl, rfl⟩, by rw [show ([] : List Int).mergeSort (fun x y => decide (x ≤ y)) = [] from by simp]; exact h, Fr.refl _ _, fun _ _ _ => Iff.rfl, fun k hk => .inl hk⟩
  · cases hv
    subst hn
    have hH : Holds (Value.int .i64) w b 0 xs.toArray := by
      intro j hj
      have hj' : j < xs.length := by simpa using hj
      refine ⟨?_, by simp [World.frozen?, hb]⟩
      have h5 : (cur.toList.take (xs.length * 1))[j]? = (xs.map (Value.int .i64))[j]? := by rw [h4]
      rw [List.getElem?_take_of_lt (by omega)] at h5
      simp only [World.cell?, hb, Nat.zero_add, Option.isSome_none, Bool.false_eq_true, if_false]
      rw [← Array.getElem?_toList, h5]
      simp [hj']
    have hblk : b < w.heap.size := (Array.getElem?_eq_some_iff.1 hb).1
    refine (Any.slices_Sort_int L b 0 cp xs w hH hblk hbig).mono ?_
    rintro e' w' ⟨rfl, q, os, rfl⟩
    have hS : ¬ S b := h.out b (by simp [keysOf, Own.keys, Value.ownBlock])
    have hlen : (xs.mergeSort fun x y => decide (x ≤ y)).length = xs.length := List.length_mergeSort _
    refine ⟨_, _, _, S, rfl, ⟨rfl, rfl, rfl⟩, ⟨fun o hm => ?_, h.nod, h.out, fun q hq => by cases hq⟩, ⟨rfl, rfl, rfl, by simp, fun k hk hn => heap_putI_old _ hk (by simpa [keysOf, Own.keys, Value.ownBlock] using hn)⟩, fun _ _ _ => Iff.rfl, fun k hk => .inl hk⟩
    rw [List.mem_singleton.1 hm]
    refine ⟨by simp [hlen], .inr ⟨b, cp, _, rfl, hg, heap_putI _ hb, h1, h2, by simp [putCells, h3], ?_⟩⟩
    rw [Nat.mul_one, ← hlen]
    exact take_putI cur _ (by rw [hlen, h3]; omega)
end
end Go.Sx
