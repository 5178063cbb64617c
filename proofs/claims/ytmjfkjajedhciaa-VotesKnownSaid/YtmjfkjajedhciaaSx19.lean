/- A ROW OF NUMBERS MADE COMPACT BY THE LIBRARY. Plain theorems over any program. -/
import Derived.Test.YtmjfkjajedhciaaSx18
import Derived.Shelf.Slices.CompactI
set_option linter.unusedVariables false
set_option linter.unusedSimpArgs false
namespace Go.Sx
open Go Go.Sort Go.Proofs Go.Shelf Go.Lib
section
variable {P : Program} {ρ : Ren}
theorem putRow_grow0 (w : World) (g : Nat) (d : Array Int) (q : Nat) : putRow (Value.int .i64) (Sort.ahead w q) g 0 d = grow (putRow (Value.int .i64) (Sort.ahead w q) g 0 d) #[] := by simp
/-- slices.Compact over numbers. -/
theorem ct_compactI (L : Lays2.n20 P ρ) (A : Option Addr) (n cp : Nat) (e : TypeId) (xs : List Int) (hn : xs.length = n) (hc : (Lib.compact xs).length ≤ xs.length) :
    Ct P (ρ.f 20) [.slice A n cp] [.row (.slice A n cp) e 1 n (xs.map (Value.int .i64))] []
      (fun u G Q => u = .slice A (Lib.compact xs).length cp ∧ G = [.row (.slice A (Lib.compact xs).length cp) e 1 (Lib.compact xs).length ((Lib.compact xs).map (Value.int .i64))] ∧ Q = []) := by
  intro w S h
  have ho := h.own _ (List.mem_singleton.2 rfl)
  obtain ⟨hl, ho⟩ := ho
  rcases ho with ⟨hv, h00⟩ | ⟨b, cap, cur, hv, hg, hb, h1, h2, h3, h4⟩
  · cases hv
    have hx : xs = [] := List.eq_nil_of_length_eq_zero hn
    subst hx
    refine (Any.slices_Compact_int_empty L none 0 w).mono ?_
    rintro e' w' ⟨rfl, rfl⟩
    exact ⟨_, _, _, S, rfl, ⟨rfl, rfl, rfl⟩, h, Fr.refl _ _, fun _ _ _ => Iff.rfl, fun k hk => .inl hk⟩
  · cases hv
    subst hn
    have hH : Holds (Value.int .i64) w b 0 xs.toArray := by
      intro j hj
      have hj' : j < xs.length := by simpa using hj
      refine ⟨?_, by simp [World.frozen?, hb]⟩
      have h5 : (cur.toList.take (xs.length * 1))[j]? = (xs.map (Value.int .i64))[j]? := by rw [h4]
      rw [List.getElem?_take_of_lt (by omega)] at h5
      simp only [World.cell?, hb, Nat.zero_add, Option.isSome_none, Bool.false_eq_true, if_false]
      rw [← Array.getElem?_toList, h5]
      simp [hj']
    have hcm : cp ≤ 9223372036854775807 := by simpa [maxLen] using h2
    refine (Any.slices_Compact_int L b 0 cp xs w hH (by omega) h1).mono ?_
    rintro e' w' ⟨rfl, q, rfl⟩
    have hS : ¬ S b := h.out b (by simp [keysOf, Own.keys, Value.ownBlock])
    rw [putRow_grow0]
    refine ⟨_, _, _, S, rfl, ⟨rfl, rfl, rfl⟩, ⟨fun o hm => ?_, h.nod, h.out, fun q hq => by cases hq⟩, ⟨rfl, rfl, rfl, by simp, fun k hk hn => heap_putI_old _ hk (by simpa [keysOf, Own.keys, Value.ownBlock] using hn)⟩, fun _ _ _ => Iff.rfl, fun k hk => .inl hk⟩
    rw [List.mem_singleton.1 hm]
    refine ⟨by simp, .inr ⟨b, cp, _, rfl, hg, heap_putI _ hb, by omega, h2, by simp [putCells, h3], ?_⟩⟩
    have hz : (Lib.compact xs ++ List.replicate (xs.length - (Lib.compact xs).length) 0).length = xs.length := by simp; omega
    have h6 := take_putI cur (Lib.compact xs ++ List.replicate (xs.length - (Lib.compact xs).length) 0) (by rw [hz, h3]; omega)
    rw [hz] at h6
    have h7 := congrArg (List.take (Lib.compact xs).length) h6
    rw [List.take_take, Nat.min_eq_left hc, List.map_append, List.take_left' (by simp)] at h7
    rw [Nat.mul_one]
    exact h7
end
end Go.Sx
