/- KINDS: how a value of Lean lies in cells, and what lasts of it; rows of a kind; blocks of cells that are owned. Plain definitions and theorems. -/
import Derived.Test.YtmjfkjajedhciaaSx1
set_option linter.unusedVariables false
set_option linter.unusedSimpArgs false
namespace Go.Sx
open Go

/-! ### addresses -/
theorem add_zero (a : Addr) : a.add 0 = a := by simp [Addr.add]
theorem add_lit (b o j : Nat) : (⟨b, o, none⟩ : Addr).add j = ⟨b, o + j, none⟩ := by unfold Addr.add; split <;> simp_all
theorem add_add (a : Addr) (i j : Nat) : (a.add i).add j = a.add (i + j) := by
  unfold Addr.add
  by_cases hi : i = 0 <;> by_cases hj : j = 0 <;> simp [hi, hj, Nat.add_assoc]
theorem add_block (a : Addr) (j : Nat) : (a.add j).block = a.block := by unfold Addr.add; split <;> rfl

def CellsAt (w : World) (a : Addr) (cs : List Value) : Prop := ∀ j u, cs[j]? = some u → w.cell? (a.add j) = some u

theorem CellsAt.nil (w : World) (a : Addr) : CellsAt w a [] := fun j u h => by simp at h
theorem CellsAt.move {w w' : World} {a : Addr} {cs : List Value} (h : CellsAt w a cs) (hb : w'.heap[a.block]? = w.heap[a.block]?) : CellsAt w' a cs := fun j u hj =>
  (World.cell?_of_block (w := w) (by rw [add_block]; exact hb)).trans (h j u hj)

def nth : List Value → Nat → Option Value
  | [], _ => none
  | x :: _, 0 => some x
  | _ :: r, n + 1 => nth r n
theorem nth_eq : ∀ (l : List Value) (n : Nat), nth l n = l[n]?
  | [], n => by simp [nth]
  | x :: r, 0 => rfl
  | x :: r, n + 1 => by simp [nth, nth_eq r n]

/-- The cells of l from place o on are vs. -/
def at_ (l : List Value) : Nat → List Value → Prop
  | _, [] => True
  | o, v :: vs => nth l o = some v ∧ at_ l (o + 1) vs
theorem at_get {l : List Value} : ∀ {vs : List Value} {o : Nat}, at_ l o vs → ∀ j u, vs[j]? = some u → l[o + j]? = some u
  | [], o, _, j, u, hj => by simp at hj
  | v :: vs, o, h, 0, u, hj => by simp at hj; subst hj; rw [Nat.add_zero, ← nth_eq]; exact h.1
  | v :: vs, o, h, j + 1, u, hj => by
    have := at_get h.2 j u (by simpa using hj)
    rwa [show o + 1 + j = o + (j + 1) by omega] at this

/-- vs laid over l from place o on; none: it does not fit. -/
def upd : List Value → Nat → List Value → Option (List Value)
  | l, 0, [] => some l
  | [], 0, _ :: _ => none
  | _ :: r, 0, v :: vs => (upd r 0 vs).map (v :: ·)
  | [], _ + 1, _ => none
  | x :: r, o + 1, vs => (upd r o vs).map (x :: ·)
theorem upd_eq : ∀ {l : List Value} {o : Nat} {vs l' : List Value}, upd l o vs = some l' → l' = l.take o ++ vs ++ l.drop (o + vs.length) ∧ o + vs.length ≤ l.length
  | l, 0, [], l', h => by
    have : some l = some l' := by cases l <;> simpa [upd] using h
    simp at this
    subst this
    simp
  | [], 0, v :: vs, l', h => by simp [upd] at h
  | x :: r, 0, v :: vs, l', h => by
    simp only [upd, Option.map_eq_some_iff] at h
    obtain ⟨m, hm, rfl⟩ := h
    obtain ⟨rfl, hl⟩ := upd_eq hm
    simp at hl ⊢
    omega
  | [], o + 1, vs, l', h => by simp [upd] at h
  | x :: r, o + 1, vs, l', h => by
    simp only [upd, Option.map_eq_some_iff] at h
    obtain ⟨m, hm, rfl⟩ := h
    obtain ⟨rfl, hl⟩ := upd_eq hm
    have e : o + 1 + vs.length = o + vs.length + 1 := by omega
    simp only [e, List.take_succ_cons, List.drop_succ_cons, List.cons_append, List.length_cons]
    exact ⟨trivial, by omega⟩

def allOne : List Value → Bool
  | [] => true
  | v :: r => v.oneCell' && allOne r
theorem allOne_mem {l : List Value} (h : allOne l = true) : ∀ u ∈ l, u.oneCell' = true := by
  induction l with
  | nil => simp
  | cons v r ih =>
    simp only [allOne, Bool.and_eq_true] at h
    intro u hu
    rcases List.mem_cons.1 hu with rfl | hu
    · exact h.1
    · exact ih h.2 u hu

/-! ### kinds -/
structure Kd (α : Type) where
  Y : Type
  sz : Nat
  cells : α → Y → List Value
  ok : α → Y → Prop
  pers : α → Y → List Pers
  len : ∀ x y, (cells x y).length = sz
  one : ∀ x y, ∀ u ∈ cells x y, u.oneCell' = true

def Kd.K {α : Type} (d : Kd α) (w : World) (S : Blocks) (x : α) (cs : List Value) : Prop := ∃ y, d.ok x y ∧ cs = d.cells x y ∧ ∀ q ∈ d.pers x y, q.h w S

theorem Kd.K_len {α : Type} {d : Kd α} {w : World} {S : Blocks} {x : α} {cs : List Value} (h : d.K w S x cs) : cs.length = d.sz := by
  obtain ⟨y, _, rfl, _⟩ := h; exact d.len x y
theorem Kd.K_one {α : Type} {d : Kd α} {w : World} {S : Blocks} {x : α} {cs : List Value} (h : d.K w S x cs) : ∀ u ∈ cs, u.oneCell' = true := by
  obtain ⟨y, _, rfl, _⟩ := h; exact d.one x y
theorem Kd.K_st {α : Type} {d : Kd α} {w w' : World} {S S' : Blocks} {x : α} {cs : List Value} (h : d.K w S x cs) (hm : ∀ k, S k → k < w.heap.size → S' k ∧ w'.heap[k]? = w.heap[k]?) : d.K w' S' x cs := by
  obtain ⟨y, h1, h2, h3⟩ := h
  exact ⟨y, h1, h2, fun q hq => q.st (h3 q hq) hm⟩

/-- Cells at an address, in a readable block. -/
def Pers.at (a : Addr) (cs : List Value) : Pers where
  h := fun w S => S a.block ∧ a.block < w.heap.size ∧ CellsAt w a cs
  st := fun ⟨h1, h2, h3⟩ hm => ⟨(hm _ h1 h2).1, by
    have := (hm _ h1 h2).2
    rename_i w w' S S'
    rw [Array.getElem?_eq_getElem h2] at this
    exact (Array.getElem?_eq_some_iff.1 this).1, h3.move (hm _ h1 h2).2⟩

def RowAt {α : Type} (d : Kd α) (w : World) (S : Blocks) (a : Addr) (xs : List α) : Prop :=
  S a.block ∧ a.block < w.heap.size ∧ ∀ i x, xs[i]? = some x → ∃ cs, d.K w S x cs ∧ CellsAt w (a.add (i * d.sz)) cs

/-- A row of elements that is read. -/
def Pers.row {α : Type} (d : Kd α) (A : Option Addr) (xs : List α) : Pers where
  h := fun w S => xs = [] ∨ ∃ a, A = some a ∧ RowAt d w S a xs
  st := by
    intro w w' S S' h hm
    rcases h with h | ⟨a, ha, h1, h2, h3⟩
    · exact .inl h
    · have hb := hm _ h1 h2
      refine .inr ⟨a, ha, hb.1, ?_, fun i x hx => ?_⟩
      · have := hb.2
        rw [Array.getElem?_eq_getElem h2] at this
        exact (Array.getElem?_eq_some_iff.1 this).1
      · obtain ⟨cs, hk, hc⟩ := h3 i x hx
        exact ⟨cs, Kd.K_st hk hm, hc.move (by rw [add_block]; exact hb.2)⟩

def Kd.sc {α : Type} (enc : α → Value) (h1 : ∀ x, (enc x).oneCell' = true) : Kd α where
  Y := Unit
  sz := 1
  cells := fun x _ => [enc x]
  ok := fun _ _ => True
  pers := fun _ _ => []
  len := fun _ _ => rfl
  one := fun x _ u hu => by rw [List.mem_singleton.1 hu]; exact h1 x
def Kd.int (k : IntKind) : Kd Int := Kd.sc (Value.int k) (fun _ => rfl)
def Kd.bool : Kd Bool := Kd.sc Value.bool (fun _ => rfl)
def Kd.u8 : Kd UInt8 := Kd.sc (fun b => Value.int .u8 (b.toNat : Int)) (fun _ => rfl)
def Kd.slice {α : Type} (d : Kd α) : Kd (List α) where
  Y := Option Addr × Nat
  sz := 1
  cells := fun xs y => [.slice y.1 xs.length y.2]
  ok := fun xs y => xs.length ≤ y.2 ∧ y.2 ≤ 9223372036854775807
  pers := fun xs y => [Pers.row d y.1 xs]
  len := fun _ _ => rfl
  one := fun x y u hu => by rw [List.mem_singleton.1 hu]; rfl
def Kd.pair {α β : Type} (a : Kd α) (b : Kd β) : Kd (α × β) where
  Y := a.Y × b.Y
  sz := a.sz + b.sz
  cells := fun x y => a.cells x.1 y.1 ++ b.cells x.2 y.2
  ok := fun x y => a.ok x.1 y.1 ∧ b.ok x.2 y.2
  pers := fun x y => a.pers x.1 y.1 ++ b.pers x.2 y.2
  len := fun x y => by rw [List.length_append, a.len, b.len]
  one := fun x y u hu => by
    rcases List.mem_append.1 hu with hu | hu
    · exact a.one x.1 y.1 u hu
    · exact b.one x.2 y.2 u hu
def Kd.iso {α β : Type} (d : Kd α) (f : β → α) : Kd β where
  Y := d.Y
  sz := d.sz
  cells := fun x y => d.cells (f x) y
  ok := fun x y => d.ok (f x) y
  pers := fun x y => d.pers (f x) y
  len := fun x y => d.len (f x) y
  one := fun x y => d.one (f x) y

/-- Elements laid in line. -/
def Reps {α : Type} (d : Kd α) (w : World) (S : Blocks) : List α → List Value → Prop
  | [], cs => cs = []
  | x :: r, cs => ∃ c t, cs = c ++ t ∧ d.K w S x c ∧ Reps d w S r t

theorem Reps.st {α : Type} {d : Kd α} {w w' : World} {S S' : Blocks} (hm : ∀ k, S k → k < w.heap.size → S' k ∧ w'.heap[k]? = w.heap[k]?) : ∀ {xs : List α} {cs : List Value}, Reps d w S xs cs → Reps d w' S' xs cs
  | [], _, h => h
  | _ :: _, _, ⟨c, t, e, hk, h⟩ => ⟨c, t, e, Kd.K_st hk hm, Reps.st hm h⟩
theorem Reps.length {α : Type} {d : Kd α} {w : World} {S : Blocks} : ∀ {xs : List α} {cs : List Value}, Reps d w S xs cs → cs.length = xs.length * d.sz
  | [], _, h => by simp only [Reps] at h; subst h; simp
  | _ :: _, _, ⟨c, t, e, hk, h⟩ => by subst e; rw [List.length_append, Kd.K_len hk, h.length, List.length_cons, Nat.add_mul, Nat.one_mul, Nat.add_comm]
theorem Reps.one {α : Type} {d : Kd α} {w : World} {S : Blocks} : ∀ {xs : List α} {cs : List Value}, Reps d w S xs cs → ∀ u ∈ cs, u.oneCell' = true
  | [], _, h => by simp only [Reps] at h; subst h; simp
  | _ :: _, _, ⟨c, t, e, hk, h⟩ => by
    subst e
    intro u hu
    rcases List.mem_append.1 hu with hu | hu
    · exact Kd.K_one hk u hu
    · exact h.one u hu
theorem Reps.append {α : Type} {d : Kd α} {w : World} {S : Blocks} {ys : List α} {ds : List Value} (h2 : Reps d w S ys ds) : ∀ {xs : List α} {cs : List Value}, Reps d w S xs cs → Reps d w S (xs ++ ys) (cs ++ ds)
  | [], _, h => by simp only [Reps] at h; subst h; simpa using h2
  | _ :: _, _, ⟨c, t, e, hk, h⟩ => ⟨c, t ++ ds, by rw [e, List.append_assoc], hk, Reps.append h2 h⟩
theorem Reps.single {α : Type} {d : Kd α} {w : World} {S : Blocks} {x : α} {cs : List Value} (h : d.K w S x cs) : Reps d w S [x] cs := ⟨cs, [], by simp, h, rfl⟩
theorem Reps.get {α : Type} {d : Kd α} {w : World} {S : Blocks} : ∀ {xs : List α} {cs : List Value}, Reps d w S xs cs → ∀ {i : Nat} {x : α}, xs[i]? = some x → ∃ c, d.K w S x c ∧ ∀ j u, c[j]? = some u → cs[i * d.sz + j]? = some u
  | [], _, _, i, x, hx => by simp at hx
  | y :: r, _, ⟨c, t, e, hk, h⟩, 0, x, hx => by
    simp at hx; subst hx; subst e
    refine ⟨c, hk, fun j u hj => ?_⟩
    rw [Nat.zero_mul, Nat.zero_add, List.getElem?_append_left (by rw [List.getElem?_eq_some_iff] at hj; exact hj.1)]
    exact hj
  | y :: r, _, ⟨c, t, e, hk, h⟩, i + 1, x, hx => by
    obtain ⟨c', hk', h'⟩ := Reps.get h (i := i) (x := x) (by simpa using hx)
    subst e
    refine ⟨c', hk', fun j u hj => ?_⟩
    rw [List.getElem?_append_right (by rw [Kd.K_len hk]; rw [Nat.add_mul]; omega), Kd.K_len hk, show (i + 1) * d.sz + j - d.sz = i * d.sz + j by rw [Nat.add_mul]; omega]
    exact h' j u hj

/-- That the cells cs are the elements xs in line. -/
def Pers.reps {α : Type} (d : Kd α) (xs : List α) (cs : List Value) : Pers where
  h := fun w S => Reps d w S xs cs
  st := fun h hm => Reps.st hm h
def Pers.k {α : Type} (d : Kd α) (x : α) (cs : List Value) : Pers where
  h := fun w S => d.K w S x cs
  st := fun h hm => Kd.K_st h hm

/-- An owned block of cells. -/
abbrev Own.cells (b : Nat) (l : List Value) (e : TypeId) : Own := .blk b (.cells l.toArray e (0, 0))

/-- Cells of a block at hand. -/
theorem cellsAt_blk {w : World} {b : Nat} {l : List Value} {e : TypeId} {f : Nat × Nat} (h : w.heap[b]? = some (.cells l.toArray e f)) {o : Nat} {vs : List Value} (hv : ∀ j u, vs[j]? = some u → l[o + j]? = some u) : CellsAt w ⟨b, o, none⟩ vs := by
  intro j u hj
  rw [add_lit]
  simp [World.cell?, h, hv j u hj]

theorem scalar_reps {α : Type} {enc : α → Value} {h1 : ∀ x, (enc x).oneCell' = true} {w : World} {S : Blocks} : ∀ (xs : List α), Reps (Kd.sc enc h1) w S xs (xs.map enc)
  | [] => rfl
  | x :: r => ⟨[enc x], r.map enc, rfl, ⟨(), trivial, rfl, fun q hq => by cases hq⟩, scalar_reps r⟩

/-- A row of scalars, cell by cell. -/
theorem row_scalar {α : Type} {enc : α → Value} {h1 : ∀ x, (enc x).oneCell' = true} {w : World} {S : Blocks} {A : Option Addr} {xs : List α} (h : (Pers.row (Kd.sc enc h1) A xs).h w S) :
    xs = [] ∨ ∃ a, A = some a ∧ S a.block ∧ a.block < w.heap.size ∧ CellsAt w a (xs.map enc) := by
  rcases h with h | ⟨a, ha, h1, h2, h3⟩
  · exact .inl h
  · refine .inr ⟨a, ha, h1, h2, fun j u hj => ?_⟩
    simp only [List.getElem?_map, Option.map_eq_some_iff] at hj
    obtain ⟨x, hx, rfl⟩ := hj
    obtain ⟨cs, ⟨_, _, rfl, _⟩, hc⟩ := h3 j x hx
    have := hc 0 (enc x) rfl
    rw [add_add] at this
    simpa [Kd.sc] using this

/-- A row of cells becomes one that is read. -/
theorem rowAt_of {α : Type} {d : Kd α} {w : World} {S : Blocks} {xs : List α} {cs : List Value} {a : Addr} (hr : Reps d w S xs cs) (hS : S a.block) (hb : a.block < w.heap.size) (hc : CellsAt w a cs) : RowAt d w S a xs :=
  ⟨hS, hb, fun i x hx => by
    obtain ⟨c, hk, h⟩ := hr.get hx
    exact ⟨c, hk, fun j u hj => by rw [add_add]; exact hc _ _ (h j u hj)⟩⟩

end Go.Sx
