/- READING ARGUMENTS: what a row's reading says of a value of a type, in kinds. Plain definitions and theorems. -/
import Derived.Test.YtmjfkjajedhciaaSx10
import Derived.SizedLaws
import Derived.ChangeArms
import Derived.ChangeOld
import Derived.Below
import Derived.RowKit
set_option linter.unusedVariables false
set_option linter.unusedSimpArgs false
namespace Go.Sx
open Go

abbrev oldB (W : World) : Blocks := fun k => k < W.heap.size

def Opens (P : Program) (t : TypeId) {α : Type} (d : Kd α) (B : α → Prop) : Prop :=
  ∀ (H : Type) (enc : TypeId × Value → H) (W : World) (fuel : Nat) (cs : List Value) (x : DataW H × List MemPlace),
    DataW.trod enc P W 0 (fun _ => true) true fuel t cs = some x → (∀ n ∈ x.1.weights P t, n ≤ reachBytes) →
      ∃ a y, B a ∧ d.ok a y ∧ cs = d.cells a y ∧ ∀ q ∈ d.pers a y, q.h W (oldB W)

def OpensF (P : Program) (fs : List Field) (o : Nat) {α : Type} (d : Kd α) (B : α → Prop) : Prop :=
  ∀ (H : Type) (enc : TypeId × Value → H) (W : World) (n : Nat) (cs : List Value) (xs : List (DataW H × List MemPlace)),
    (∀ (i : Nat) (f : Field), fs[i]? = some f → DataW.trod enc P W 0 (fun _ => true) true n f.type ((cs.drop f.offset).take (P.cellsOf f.type)) = xs[i]?) → xs.length = fs.length →
    (∀ k ∈ DataW.weightsEach P (fs.map (·.type)) (xs.map (·.1)), k ≤ reachBytes) → o + d.sz ≤ cs.length →
      ∃ a y, B a ∧ d.ok a y ∧ (cs.drop o).take d.sz = d.cells a y ∧ ∀ q ∈ d.pers a y, q.h W (oldB W)

theorem Opens.int {P : Program} {t : TypeId} {k : IntKind} (ht : P.underlying t = some (.int k)) : Opens P t (Kd.int k) (fun n => (Lit.int k n).wf = true) := by
  intro H enc W fuel cs x h hw
  obtain ⟨n, h1, _, h3⟩ := DataW.trod_int ht h
  exact ⟨n, (), h3, trivial, h1, by intro q hq; cases hq⟩
theorem Opens.bool {P : Program} {t : TypeId} (ht : P.underlying t = some .bool) : Opens P t Kd.bool (fun _ => True) := by
  intro H enc W fuel cs x h hw
  obtain ⟨n, h1, _⟩ := DataW.trod_bool ht h
  exact ⟨n, (), trivial, trivial, h1, by intro q hq; cases hq⟩
theorem u8_of {n : Int} (h : (Lit.int .u8 n).wf = true) : ∃ b : UInt8, n = (b.toNat : Int) := by
  have h2 : 0 ≤ n ∧ n ≤ 255 := by
    simp [Lit.wf, IntKind.min, IntKind.max, IntKind.signed, IntKind.bits] at h
    exact h
  refine ⟨UInt8.ofNat n.toNat, ?_⟩
  simp
  omega
theorem Opens.u8 {P : Program} {t : TypeId} (ht : P.underlying t = some (.int .u8)) : Opens P t Kd.u8 (fun _ => True) := by
  intro H enc W fuel cs x h hw
  obtain ⟨n, h1, _, h3⟩ := DataW.trod_int ht h
  obtain ⟨b, rfl⟩ := u8_of h3
  exact ⟨b, (), trivial, trivial, h1, by intro q hq; cases hq⟩

theorem OpensF.one {P : Program} {f : Field} {α : Type} {d : Kd α} {B : α → Prop} (h : Opens P f.type d B) (hs : P.cellsOf f.type = d.sz) : OpensF P [f] f.offset d B := by
  intro H enc W n cs xs hx hl hw ho
  match xs, hl with
  | [x], _ =>
    have h0 := hx 0 f rfl
    obtain ⟨a, y, h1, h2, h3, h4⟩ := h H enc W n _ x h0 (fun k hk => hw k (by simp [DataW.weightsEach]; exact hk))
    exact ⟨a, y, h1, h2, by rw [← hs]; exact h3, h4⟩
theorem OpensF.cons {P : Program} {f : Field} {fs : List Field} {α β : Type} {d : Kd α} {e : Kd β} {B : α → Prop} {C : β → Prop} {o : Nat} (h : Opens P f.type d B) (hs : P.cellsOf f.type = d.sz) (ho : f.offset + d.sz = o) (hr : OpensF P fs o e C) :
    OpensF P (f :: fs) f.offset (Kd.pair d e) (fun x => B x.1 ∧ C x.2) := by
  intro H enc W n cs xs hx hl hw hle
  match xs, hl with
  | x :: xs, hl =>
    have h0 := hx 0 f rfl
    have hle' : f.offset + (d.sz + e.sz) ≤ cs.length := hle
    obtain ⟨a, y, h1, h2, h3, h4⟩ := h H enc W n _ x h0 (fun k hk => hw k (by simp only [List.map_cons, DataW.weightsEach, List.mem_append]; exact .inl hk))
    obtain ⟨b, z, g1, g2, g3, g4⟩ := hr H enc W n cs xs (fun i g hg => hx (i + 1) g hg) (by simpa using hl) (fun k hk => hw k (by simp only [List.map_cons, DataW.weightsEach, List.mem_append]; exact .inr hk)) (by omega)
    refine ⟨(a, b), (y, z), ⟨h1, g1⟩, ⟨h2, g2⟩, ?_, fun q hq => ?_⟩
    · show (cs.drop f.offset).take (d.sz + e.sz) = d.cells a y ++ e.cells b z
      rw [← h3, ← g3, hs, ← ho, List.take_add, List.drop_drop]
    · rcases List.mem_append.1 hq with hq | hq
      · exact h4 q hq
      · exact g4 q hq
theorem Opens.struct {P : Program} {t : TypeId} {fs : Array Field} {α β : Type} {d : Kd α} {B : α → Prop} (ht : P.underlying t = some (.struct fs)) (h : OpensF P fs.toList 0 d B) (hs : P.cellsOf t = d.sz) (f : β → α) (g : α → β) (hfg : ∀ a, f (g a) = a) :
    Opens P t (Kd.iso d f) (fun b => B (f b)) := by
  intro H enc W fuel cs x hx hw
  obtain ⟨xs, n, rfl, rfl, hl, hlen, hf⟩ := DataW.trod_struct ht hx
  obtain ⟨a, y, h1, h2, h3, h4⟩ := h H enc W n cs xs (fun i f hi => hf i f (by simpa using hi)) (by simpa using hlen) (by simpa [DataW.weights, ht] using hw) (by omega)
  refine ⟨g a, y, ?_, ?_, ?_, ?_⟩
  · show B (f (g a))
    rw [hfg]; exact h1
  · show d.ok (f (g a)) y
    rw [hfg]; exact h2
  · show cs = d.cells (f (g a)) y
    rw [hfg, ← h3, List.drop_zero, List.take_of_length_le (by omega)]
  · show ∀ q ∈ d.pers (f (g a)) y, _
    rw [hfg]; exact h4

theorem choose_list {α : Type} {p : Nat → α → Prop} : ∀ (n : Nat), (∀ i, i < n → ∃ a, p i a) → ∃ l : List α, l.length = n ∧ ∀ i a, l[i]? = some a → p i a
  | 0, _ => ⟨[], rfl, by simp⟩
  | n + 1, h => by
    obtain ⟨l, hl, hp⟩ := choose_list n (fun i hi => h i (by omega))
    obtain ⟨a, ha⟩ := h n (by omega)
    refine ⟨l ++ [a], by simp [hl], fun i b hb => ?_⟩
    by_cases hi : i < n
    · rw [List.getElem?_append_left (by omega)] at hb
      exact hp i b hb
    · have hi2 : i < (l ++ [a]).length := (List.getElem?_eq_some_iff.1 hb).1
      simp [hl] at hi2
      obtain rfl : i = n := by omega
      rw [List.getElem?_append_right (by omega)] at hb
      simp [hl] at hb
      subst hb; exact ha

theorem weights_mem_all {H : Type} {P : Program} {e : TypeId} : ∀ {l : List (DataW H)} {d : DataW H}, d ∈ l → ∀ n ∈ d.weights P e, n ∈ DataW.weightsAll P e l
  | d0 :: r, d, hd, n, hn => by
    simp only [DataW.weightsAll, List.mem_append]
    rcases List.mem_cons.1 hd with rfl | hd
    · exact .inl hn
    · exact .inr (weights_mem_all hd n hn)

/-- A slice: the bytes of its elements are as many as can be reached at most. -/
theorem Opens.slice {P : Program} {t e : TypeId} {α : Type} {d : Kd α} {B : α → Prop} (ht : P.underlying t = some (.slice e)) (h : Opens P e d B) (hs : P.cellsOf e = d.sz) (hpos : 0 < d.sz) {N : Nat} (hN : P.bytesOf e = N) :
    Opens P t (Kd.slice d) (fun xs => xs.length * N ≤ 140737488351232 ∧ ∀ x ∈ xs, B x) := by
  intro H enc W fuel cs x hx hw
  rcases DataW.trod_slice ht hx with ⟨rfl, rfl⟩ | ⟨a, len, cap, elems, rest, n, rfl, rfl, rfl, hb, hl, hm, hlen, hel, hsp, _⟩
  · exact ⟨[], (none, 0), ⟨by simp, by simp⟩, ⟨by simp, by simp⟩, rfl, fun q hq => by rw [List.mem_singleton.1 hq]; exact .inl rfl⟩
  · have hwe : ∀ d ∈ elems.map (·.1), ∀ n ∈ d.weights P e, n ≤ reachBytes := fun d hd n hn => hw n (by
      simp only [DataW.weights, ht, List.mem_cons, List.mem_append]
      exact .inr (.inl (weights_mem_all hd n hn)))
    have hsz : (elems.length + rest.length) * N ≤ reachBytes := hw _ (by simp only [DataW.weights, ht, List.mem_cons, List.length_map, hN]; exact .inl trivial)
    have each : ∀ i, i < len → ∃ u : α, B u ∧ ∃ y, d.ok u y ∧ W.cells? 0 (a.add (i * P.cellsOf e)) (P.cellsOf e) = some (d.cells u y) ∧ ∀ q ∈ d.pers u y, q.h W (oldB W) := by
      intro i hi
      have h1 := hel i hi
      obtain ⟨x, hx⟩ : ∃ x, elems[i]? = some x := ⟨elems[i]'(by omega), List.getElem?_eq_getElem (by omega)⟩
      rw [hx, Option.bind_eq_some_iff] at h1
      obtain ⟨cs, hcs, hr⟩ := h1
      obtain ⟨u, y, k1, k2, rfl, k4⟩ := h H enc W n cs x hr (hwe _ (List.mem_map.2 ⟨x, List.mem_of_getElem? hx, rfl⟩))
      exact ⟨u, k1, y, k2, hcs, k4⟩
    obtain ⟨xs, hxl, hxs⟩ := choose_list len each
    refine ⟨xs, (some a, cap), ⟨?_, fun x hx => ?_⟩, ⟨by rw [hxl]; exact hl, hm⟩, by rw [← hxl]; rfl, fun q hq => ?_⟩
    · refine Nat.le_trans (Nat.mul_le_mul_right _ ?_) hsz
      omega
    · obtain ⟨i, hi⟩ := List.getElem?_of_mem hx
      exact (hxs i x hi).1
    · rw [List.mem_singleton.1 hq]
      match xs, hxl, hxs with
      | [], _, _ => exact .inl rfl
      | x0 :: r, hxl, hxs =>
        right
        have hlt : a.block < W.heap.size := by
          obtain ⟨_, y, _, hc, _⟩ := hxs 0 x0 rfl
          have := World.cells?_block hc (by omega)
          rwa [add_block] at this
        refine ⟨a, rfl, hlt, hlt, fun i x hi => ?_⟩
        obtain ⟨_, y, hok, hc, hp⟩ := hxs i x hi
        refine ⟨d.cells x y, ⟨y, hok, rfl, hp⟩, fun j u hj => ?_⟩
        obtain ⟨_, hlc, hcell⟩ := World.cells?_some hc
        have hj2 : j < P.cellsOf e := by
          have := (List.getElem?_eq_some_iff.1 hj).1
          rw [d.len] at this
          omega
        rw [← hs, hcell j hj2, hj]

/-- An argument is opened. -/
theorem Opens.arg {P : Program} {t : TypeId} {α : Type} {d : Kd α} {B : α → Prop} (ho : Opens P t d B) {H : Type} {enc : TypeId × Value → H} {W : World} {v : Value} {x : DataW H} {p : List MemPlace} (h : DataW.Trod enc P W 0 (fun _ => true) true t v x p)
    {ts : List TypeId} {ds : List (DataW H)} (hsz : (DataW.weightsEach P ts ds).all (· ≤ reachBytes) = true) (j : Nat) (h1 : ts[j]? = some t) (h2 : ds[j]? = some x) :
    (∃ a y, B a ∧ d.ok a y ∧ v.cells.toList = d.cells a y ∧ ∀ q ∈ d.pers a y, q.h W (oldB W)) ∧ ∀ x ∈ p, x.block < W.heap.size := by
  obtain ⟨fuel, hf⟩ := h
  refine ⟨ho H enc W fuel _ _ hf (fun n hn => ?_), DataW.trod_lt _ _ _ _ hf⟩
  have := List.all_eq_true.1 hsz _ (DataW.weights_mem_each h1 h2 n hn)
  simpa using this

theorem cells_slice {v : Value} {a : Option Addr} {l c : Nat} (hv : ∃ a l c, v = .slice a l c) (h : v.cells.toList = [.slice a l c]) : v = .slice a l c := by
  obtain ⟨_, _, _, rfl⟩ := hv
  simpa [Value.cells] using h
theorem cells_int {v : Value} {k : IntKind} {n : Int} (hv : ∃ n, v = .int k n) (h : v.cells.toList = [.int k n]) : v = .int k n := by
  obtain ⟨_, rfl⟩ := hv
  simpa [Value.cells] using h
theorem cells_bool {v : Value} {b : Bool} (hv : ∃ b, v = .bool b) (h : v.cells.toList = [.bool b]) : v = .bool b := by
  obtain ⟨_, rfl⟩ := hv
  simpa [Value.cells] using h
theorem cells_agg {v : Value} {l : List Value} {n : Nat} (hv : ∃ cs, v = .agg cs ∧ cs.size = n) (h : v.cells.toList = l) : v = .agg l.toArray := by
  obtain ⟨cs, rfl, _⟩ := hv
  simp [Value.cells] at h
  subst h; rfl

/-- A contract of a law: all that it takes is read, nothing is owned. -/
theorem Ct.law {P : Program} {f : FuncId} {args : List Value} {Q : List Pers} (h : Ct P f args [] Q (fun v G Q => v = .bool true ∧ G = [] ∧ Q = [])) (W : World) (hq : ∀ q ∈ Q, q.h W (oldB W)) :
    Calls P f args.toArray W fun e W' => e = .returned (.bool true) ∧ RowKit.Below W.heap.size W W' := by
  refine (h W (oldB W) ⟨by simp, by simp [keysOf], by simp [keysOf], hq⟩).mono fun e W' ⟨v, G', Q', S', he, ⟨hv, _, _⟩, _, hfr, _⟩ => ?_
  subst hv
  exact ⟨he, hfr.below⟩
end Go.Sx
