/- THE GROUND OF THE WALKS: symbolic states (an environment of slots, a list of owned blocks, a list of lasting facts), triples of one operation, and the rules of code over them. Plain definitions and theorems over any program. -/
import Derived.WalkKit
import Derived.Orders
set_option linter.unusedVariables false
set_option linter.unusedSimpArgs false
namespace Go.Sx
open Go

/-! ### slots -/
def look : List (Nat × Value) → Nat → Option Value
  | [], _ => none
  | (i, v) :: r, j => bif Nat.beq i j then some v else look r j

def ev (env : List (Nat × Value)) : Operand → Option Value
  | .tmp t => look env t
  | .const v => some v
  | .global g => some (.pointer (some ⟨g, 0, none⟩))
  | .func f => some (.func (.func f) #[] #[])

def evs (env : List (Nat × Value)) : List Operand → Option (List Value)
  | [] => some []
  | x :: r => match ev env x, evs env r with
    | some v, some vs => some (v :: vs)
    | _, _ => none

structure Env (n : Nat) (env : List (Nat × Value)) (a : Act) : Prop where
  size : a.tmps.size = n
  defers : a.defers = []
  has : ∀ i v, look env i = some v → a.tmps[i]? = some v

theorem Env.eval {n : Nat} {env : List (Nat × Value)} {a : Act} (h : Env n env a) {x : Operand} {v : Value} (hx : ev env x = some v) : a.eval x = v := by
  cases x with
  | tmp t => simp only [ev] at hx; have := h.has t v hx; simp [Act.eval, this]
  | const u => simpa [ev, Act.eval] using hx
  | global g => simpa [ev, Act.eval] using hx
  | func f => simpa [ev, Act.eval] using hx

theorem Env.evals {n : Nat} {env : List (Nat × Value)} {a : Act} (h : Env n env a) : ∀ {xs : List Operand} {vs : List Value}, evs env xs = some vs → xs.map a.eval = vs
  | [], vs, hx => by simp only [evs, Option.some.injEq] at hx; subst hx; rfl
  | x :: r, vs, hx => by
    simp only [evs] at hx
    split at hx
    · rename_i v ws h1 h2
      simp only [Option.some.injEq] at hx
      subst hx
      simp [h.eval h1, Env.evals h h2]
    · cases hx

theorem Env.put {n : Nat} {env : List (Nat × Value)} {a : Act} (h : Env n env a) {d : Nat} (hd : Nat.blt d n = true) (v : Value) : Env n ((d, v) :: env) (a.put (some d) v) where
  size := by simp [Act.put, h.size]
  defers := h.defers
  has := by
    intro i u hi
    have hdn : d < a.tmps.size := by rw [h.size]; exact Nat.le_of_ble_eq_true hd
    simp only [look] at hi
    by_cases hdi : d = i
    · subst hdi
      simp only [Nat.beq_refl, cond_true, Option.some.injEq] at hi
      subst hi
      simp [Act.put, hdn]
    · have : Nat.beq d i = false := by
        cases hb : Nat.beq d i with
        | false => rfl
        | true => exact absurd (Nat.eq_of_beq_eq_true hb) hdi
      rw [this] at hi
      simp only [cond_false] at hi
      simp [Act.put, Array.getElem?_setIfInBounds_ne hdi, h.has i u hi]

theorem Env.over {n : Nat} {env : List (Nat × Value)} {a : Act} (h : Env n env a) {d : Nat} {v : Value} (hd : look env d = some v) : Env n ((d, v) :: env) a where
  size := h.size
  defers := h.defers
  has := by
    intro i u hi
    simp only [look] at hi
    cases hb : Nat.beq d i with
    | true =>
      have := Nat.eq_of_beq_eq_true hb
      subst this
      rw [hb] at hi
      simp only [cond_true, Option.some.injEq] at hi
      subst hi
      exact h.has d v hd
    | false =>
      rw [hb] at hi
      exact h.has i u hi

/-- Every slot of env' is one of env. -/
def sub (env : List (Nat × Value)) : List (Nat × Value) → Prop
  | [] => True
  | (i, v) :: r => look env i = some v ∧ sub env r

theorem Env.sub {n : Nat} {env env' : List (Nat × Value)} {a : Act} (h : Env n env a) (hs : sub env env') : Env n env' a where
  size := h.size
  defers := h.defers
  has := by
    induction env' with
    | nil => intro i v hi; cases hi
    | cons p r ih =>
      obtain ⟨j, u⟩ := p
      obtain ⟨h1, h2⟩ := hs
      intro i v hi
      simp only [look] at hi
      cases hb : Nat.beq j i with
      | true =>
        have := Nat.eq_of_beq_eq_true hb
        subst this
        rw [hb] at hi
        simp only [cond_true, Option.some.injEq] at hi
        subst hi
        exact h.has j u h1
      | false =>
        rw [hb] at hi
        exact ih h2 i v hi

/-! ### memory -/
abbrev Blocks := Nat → Prop

/-- Outside the blocks of L nothing that was there has turned. -/
structure Fr (L : List Nat) (w w' : World) : Prop where
  os : w'.os = w.os
  tape : w'.tape = w.tape
  output : w'.output = w.output
  size : w.heap.size ≤ w'.heap.size
  block : ∀ k, k < w.heap.size → k ∉ L → w'.heap[k]? = w.heap[k]?

theorem Fr.refl (L : List Nat) (w : World) : Fr L w w := ⟨rfl, rfl, rfl, Nat.le_refl _, fun _ _ _ => rfl⟩
theorem Fr.trans {L : List Nat} {a b c : World} (h : Fr L a b) (g : Fr L b c) : Fr L a c :=
  ⟨g.os.trans h.os, g.tape.trans h.tape, g.output.trans h.output, Nat.le_trans h.size g.size, fun k hk hn => (g.block k (Nat.lt_of_lt_of_le hk h.size) hn).trans (h.block k hk hn)⟩
theorem Fr.below {w w' : World} (h : Fr [] w w') : RowKit.Below w.heap.size w w' := ⟨h.os, h.tape, h.output, h.size, fun k hk => h.block k hk (by simp)⟩
theorem Fr.of_below {w w' : World} (h : RowKit.Below w.heap.size w w') : Fr [] w w' := ⟨h.os, h.tape, h.output, h.size, fun k hk _ => h.block k hk⟩
theorem Fr.mono {L M : List Nat} {w w' : World} (h : Fr L w w') (hs : ∀ k, k ∈ L → k < w.heap.size → k ∈ M) : Fr M w w' :=
  ⟨h.os, h.tape, h.output, h.size, fun k hk hn => h.block k hk (fun hl => hn (hs k hl hk))⟩
theorem Fr.drew (L : List Nat) (w : World) : Fr L w w.drew := ⟨rfl, rfl, rfl, Nat.le_refl _, fun _ _ _ => rfl⟩
theorem Fr.alloc (L : List Nat) (w : World) (o : Obj) : Fr L w (w.alloc o) := ⟨rfl, rfl, rfl, by simp, fun k hk _ => RowKit.Below.heap_alloc w o k hk⟩

/-- A lasting fact: it hangs on blocks of S alone. -/
structure Pers where
  h : World → Blocks → Prop
  st : ∀ {w w' : World} {S S' : Blocks}, h w S → (∀ k, S k → k < w.heap.size → S' k ∧ w'.heap[k]? = w.heap[k]?) → h w' S'

inductive Own where
  | blk (b : Nat) (o : Obj)
  | row (v : Value) (e : TypeId) (sz n : Nat) (cs : List Value)

def Own.keys : Own → List Nat
  | .blk b _ => [b]
  | .row v _ _ _ _ => v.ownBlock.toList
def Own.holds (w : World) : Own → Prop
  | .blk b o => w.heap[b]? = some o
  | .row v e sz n cs => w.ownsRow 0 e sz v n cs

theorem Own.move {w w' : World} {o : Own} (h : o.holds w) (hm : ∀ k, k ∈ o.keys → w'.heap[k]? = w.heap[k]?) : o.holds w' := by
  cases o with
  | blk b x => exact (hm b (by simp [Own.keys])).trans h
  | row v e sz n cs =>
    obtain ⟨h1, h2⟩ := h
    refine ⟨h1, ?_⟩
    rcases h2 with h2 | ⟨g, cap, cur, rfl, hg, hh, r⟩
    · exact .inl h2
    · exact .inr ⟨g, cap, cur, rfl, hg, (hm g (by simp [Own.keys, Value.ownBlock])).trans hh, r⟩

theorem Own.lt {w : World} {o : Own} (h : o.holds w) {k : Nat} (hk : k ∈ o.keys) : k < w.heap.size := by
  cases o with
  | blk b x =>
    simp only [Own.keys, List.mem_singleton] at hk
    subst hk
    exact (Array.getElem?_eq_some_iff.1 h).1
  | row v e sz n cs =>
    rcases h.2 with ⟨rfl, _⟩ | ⟨g, cap, cur, rfl, _, hh, _⟩
    · simp [Own.keys, Value.ownBlock] at hk
    · simp only [Own.keys, Value.ownBlock, Option.toList_some, List.mem_singleton] at hk
      subst hk
      exact (Array.getElem?_eq_some_iff.1 hh).1

def keysOf (G : List Own) : List Nat := G.flatMap Own.keys

theorem mem_keysOf {G : List Own} {k : Nat} : k ∈ keysOf G ↔ ∃ o ∈ G, k ∈ o.keys := by simp [keysOf]

theorem keysOf_sublist {G G' : List Own} (h : G'.Sublist G) : (keysOf G').Sublist (keysOf G) := by
  induction h with
  | slnil => exact List.Sublist.refl _
  | cons a _ ih => exact ih.trans (List.sublist_append_right _ _)
  | cons_cons a _ ih => exact List.Sublist.append (List.Sublist.refl _) ih

theorem exists_least {p : Nat → Prop} (h : ∃ n, p n) : ∃ n, p n ∧ ∀ m, p m → n ≤ m := by
  obtain ⟨n, hn⟩ := h
  induction n using Nat.strongRecOn with
  | _ n ih =>
    by_cases hm : ∃ m, m < n ∧ p m
    · obtain ⟨m, hlt, hm⟩ := hm
      exact ih m hlt hm
    · exact ⟨n, hn, fun m hp => Nat.le_of_not_lt fun hlt => hm ⟨m, hlt, hp⟩⟩

structure Heap (S : Blocks) (G : List Own) (Q : List Pers) (w : World) : Prop where
  own : ∀ o ∈ G, o.holds w
  nod : (keysOf G).Nodup
  out : ∀ k ∈ keysOf G, ¬ S k
  per : ∀ q ∈ Q, q.h w S

theorem Heap.lt {S : Blocks} {G : List Own} {Q : List Pers} {w : World} (h : Heap S G Q w) {k : Nat} (hk : k ∈ keysOf G) : k < w.heap.size := by
  obtain ⟨o, ho, hk⟩ := mem_keysOf.1 hk
  exact Own.lt (h.own o ho) hk

/-- A world where nothing that is owned, and nothing of S, has turned. -/
theorem Heap.move {S : Blocks} {G : List Own} {Q : List Pers} {w w' : World} (h : Heap S G Q w) (hm : ∀ k, k < w.heap.size → (S k ∨ k ∈ keysOf G) → w'.heap[k]? = w.heap[k]?) : Heap S G Q w' where
  own := fun o ho => Own.move (h.own o ho) fun k hk => hm k (h.lt (mem_keysOf.2 ⟨o, ho, hk⟩)) (.inr (mem_keysOf.2 ⟨o, ho, hk⟩))
  nod := h.nod
  out := h.out
  per := fun q hq => q.st (h.per q hq) fun k hs hk => ⟨hs, hm k hk (.inl hs)⟩

theorem Heap.sub {S : Blocks} {G G' : List Own} {Q Q' : List Pers} {w : World} (h : Heap S G Q w) (hG : G'.Sublist G) (hQ : ∀ q ∈ Q', q ∈ Q) : Heap S G' Q' w where
  own := fun o ho => h.own o (hG.subset ho)
  nod := (keysOf_sublist hG).nodup h.nod
  out := fun k hk => h.out k (by
    obtain ⟨o, ho, hk⟩ := mem_keysOf.1 hk
    exact mem_keysOf.2 ⟨o, hG.subset ho, hk⟩)
  per := fun q hq => h.per q (hQ q hq)

theorem Heap.perm {S : Blocks} {G G' : List Own} {Q : List Pers} {w : World} (h : Heap S G Q w) (hG : G.Perm G') : Heap S G' Q w where
  own := fun o ho => h.own o (hG.mem_iff.2 ho)
  nod := (List.Perm.flatMap_right Own.keys hG).nodup_iff.1 h.nod
  out := fun k hk => h.out k (by
    obtain ⟨o, ho, hk⟩ := mem_keysOf.1 hk
    exact mem_keysOf.2 ⟨o, hG.mem_iff.2 ho, hk⟩)
  per := h.per

/-- A new block. -/
theorem Heap.alloc {S : Blocks} {G : List Own} {Q : List Pers} {w : World} (h : Heap S G Q w) (o : Obj) :
    Heap (fun k => S k ∧ k ≠ w.heap.size) (.blk w.heap.size o :: G) Q (w.alloc o) where
  own := by
    intro x hx
    rcases List.mem_cons.1 hx with rfl | hx
    · exact heap_alloc_new w o
    · exact Own.move (h.own x hx) fun k hk => RowKit.Below.heap_alloc w o k (Own.lt (h.own x hx) hk)
  nod := by
    show ([w.heap.size] ++ keysOf G).Nodup
    refine List.nodup_cons.2 ⟨fun hk => ?_, h.nod⟩
    exact absurd (h.lt hk) (Nat.lt_irrefl _)
  out := by
    intro k hk hs
    rcases List.mem_cons.1 (show k ∈ w.heap.size :: keysOf G from hk) with rfl | hk
    · exact hs.2 rfl
    · exact h.out k hk hs.1
  per := fun q hq => q.st (h.per q hq) fun k hs hk => ⟨⟨hs, Nat.ne_of_lt hk⟩, RowKit.Below.heap_alloc w o k hk⟩

/-! ### states -/
/-- Where a call began: the world, the readable blocks, the blocks that it may turn. -/
structure Cx where
  w0 : World
  S0 : Blocks
  L0 : List Nat

structure Rel (c : Cx) (S : Blocks) (G : List Own) (w : World) : Prop where
  fr : Fr c.L0 c.w0 w
  old : ∀ k, k < c.w0.heap.size → k ∉ c.L0 → (S k ↔ c.S0 k)
  key : ∀ k, k ∈ keysOf G → k ∈ c.L0 ∨ c.w0.heap.size ≤ k

def St (c : Cx) (n : Nat) (env : List (Nat × Value)) (G : List Own) (Q : List Pers) (a : Act) (w : World) : Prop :=
  ∃ S, Env n env a ∧ Heap S G Q w ∧ Rel c S G w

abbrev Asr := Act → World → Prop

/-- One operation, from A to B; it does not fail. -/
def Tr (P : Program) (o : Oper) (A B : Asr) : Prop := ∀ a w, A a w → ∀ (K : Asr) (Q : Exit → Asr), (∀ a' w', B a' w' → K a' w') → o.wp P a w K Q

theorem Tr.mono {P : Program} {o : Oper} {A A' B B' : Asr} (h : Tr P o A B) (hA : ∀ a w, A' a w → A a w) (hB : ∀ a w, B a w → B' a w) : Tr P o A' B' :=
  fun a w ha K Q hk => h a w (hA a w ha) K Q fun a' w' hb => hk a' w' (hB a' w' hb)

/-- Operations in a row. -/
def GL (P : Program) (ops : Array Oper) (Q : Exit → Asr) (l : List Oper) (A : Asr) : Prop := ∀ a w, A a w → wpList P ops Q l a w
/-- Code. -/
def GC (P : Program) (Q : Exit → Asr) (x : Code) (A : Asr) : Prop := ∀ a w, A a w → x.wp P Q a w

section
variable {P : Program} {ops : Array Oper} {Q : Exit → Asr} {A B : Asr} {o : Oper} {rest : List Oper}

theorem GL.step (hg : o.guard = none) (h : Tr P o A B) (k : GL P ops Q rest B) : GL P ops Q (o :: rest) A :=
  fun a w ha => wpList_plain hg fun K hK => h a w ha K Q fun a' w' hb => hK a' w' (k a' w' hb)

theorem GL.nil (h : ∀ a w, A a w → Q .normal a w) : GL P ops Q [] A := fun a w ha => wpList_nil (h a w ha)

theorem GL.imp (h : ∀ a w, A a w → B a w) (k : GL P ops Q rest B) : GL P ops Q rest A := fun a w ha => k a w (h a w ha)

theorem GL.ex {α : Type} {F : α → Asr} (k : ∀ x, GL P ops Q rest (F x)) : GL P ops Q rest (fun a w => ∃ x, F x a w) := fun a w ⟨x, hx⟩ => k x a w hx

theorem GC.imp {x : Code} (h : ∀ a w, A a w → B a w) (k : GC P Q x B) : GC P Q x A := fun a w ha => k a w (h a w ha)
theorem GC.ex {α : Type} {F : α → Asr} {x : Code} (k : ∀ y, GC P Q x (F y)) : GC P Q x (fun a w => ∃ y, F y a w) := fun a w ⟨y, hy⟩ => k y a w hy

theorem GC.seq {x y : Code} {M : Asr} (hx : GC P (Exit.then M Q) x A) (hy : GC P Q y M) : GC P Q (.seq x y) A := fun a w ha =>
  wp_seq_k fun K hK => Code.wp_mono (fun e a w h => by cases e <;> first | exact hK _ _ (hy _ _ h) | exact h) (hx a w ha)

/-- Without a word on what lies between. -/
theorem GC.seq' {x y : Code} (h : GC P (Exit.then (fun a w => y.wp P Q a w) Q) x A) : GC P Q (.seq x y) A := fun a w ha => wp_seq (h a w ha)

theorem GC.block {id : Nat} {x : Code} (h : GC P (Exit.inBlock id Q) x A) : GC P Q (.block id x) A := fun a w ha => wp_block (h a w ha)
theorem GC.skip (h : ∀ a w, A a w → Q .normal a w) : GC P Q .skip A := fun a w ha => wp_skip (h a w ha)
theorem GC.exit {id : Nat} (h : ∀ a w, A a w → Q (.exit id) a w) : GC P Q (.exit id) A := fun a w ha => wp_exit (h a w ha)
theorem GC.ret (h : ∀ a w, A a w → Q .ret a w) : GC P Q .ret A := fun a w ha => wp_ret (h a w ha)
theorem GC.region {id : Nat} {l : List Oper} (h : GL P l.toArray Q l A) : GC P Q (.region id l.toArray false) A := fun a w ha => wp_region_lit (h a w ha)

theorem GC.loop {α : Type} {x : Code} (I : α → Asr) (μ : α → Nat) (y : α)
    (h : ∀ y, GC P (Exit.then (fun a w => ∃ z, μ z < μ y ∧ I z a w) Q) x (I y)) : GC P Q (.loop x) (I y) := by
  intro a w ha
  let J : Asr := fun a w => ∃ y, I y a w
  let p : Act → World → Nat → Prop := fun a w n => ∃ y, μ y = n ∧ I y a w
  have least : ∀ a w, J a w → ∃ n, p a w n ∧ ∀ m, p a w m → n ≤ m := fun a w ⟨y, hy⟩ => exists_least ⟨_, y, rfl, hy⟩
  let m : Act → World → Nat := fun a w => open Classical in if hx : J a w then Classical.choose (least a w hx) else 0
  have mspec : ∀ a w (hx : J a w), p a w (m a w) ∧ ∀ k, p a w k → m a w ≤ k := fun a w hx => by
    have := Classical.choose_spec (least a w hx)
    simp only [m]
    rw [dif_pos hx]
    exact this
  refine wp_loop J m ⟨y, ha⟩ ?_
  intro a w hJ
  obtain ⟨⟨y1, hm, hy1⟩, _⟩ := mspec a w hJ
  refine Code.wp_mono (fun e a' w' hq => ?_) (h y1 a w hy1)
  cases e with
  | normal =>
    obtain ⟨z, hz, hI⟩ := hq
    refine ⟨⟨z, hI⟩, ?_⟩
    rw [← hm]
    exact Nat.lt_of_le_of_lt ((mspec a' w' ⟨z, hI⟩).2 _ ⟨z, rfl, hI⟩) hz
  | _ => exact hq
end

end Go.Sx
