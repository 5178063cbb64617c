/- Texts of this claim, in one: what the law leans on (part 1). -/
import Derived.WalkKit
import Derived.Orders
import Derived.Maps.AppendAt
import Derived.OrdersHeld
import Derived.Deep.Quiet
import Derived.Test.YtliacpkblicnhaaGreatProg
import Derived.Laws.MakeOwn
import Derived.Laws.Slices
import Derived.Laws.CopyRow
import Derived.Maps.RangeRun
import Derived.Defers
import Derived.Recover
import Derived.Laws.LoneSync
import Derived.WideKeyRuns
import Derived.Laws.StructEq
import Derived.SizedLaws
import Derived.ChangeArms
import Derived.ChangeOld
import Derived.Below
import Derived.RowKit
set_option linter.unusedVariables false
set_option linter.unusedSimpArgs false
set_option maxRecDepth 100000
namespace Go.Sx
open Go
def look : List (Nat × Value) → Nat → Option Value
  | [],_ => none
  | (i,v) :: r,j => bif Nat.beq i j then some v else look r j
def ev (env : List (Nat × Value)) : Operand → Option Value
  | .tmp t => look env t
  | .const v => some v
  | .global g => some (.pointer (some ⟨g,0,none⟩))
  | .func f => some (.func (.func f) #[] #[])
def evs (env : List (Nat × Value)) : List Operand → Option (List Value)
  | [] => some []
  | x :: r => match ev env x,evs env r with
    | some v,some vs => some (v :: vs)
    | _,_ => none
structure Env (n : Nat) (env : List (Nat × Value)) (a : Act) : Prop where
  size : a.tmps.size = n
  has : ∀ i v,look env i = some v → a.tmps[i]? = some v
theorem Env.eval {n : Nat} {env : List (Nat × Value)} {a : Act} (h : Env n env a) {x : Operand} {v : Value} (hx : ev env x = some v) : a.eval x = v := by
  cases x with
  | tmp t => simp only [ev] at hx; have := h.has t v hx; simp [Act.eval,this]
  | const u => simpa [ev,Act.eval] using hx
  | global g => simpa [ev,Act.eval] using hx
  | func f => simpa [ev,Act.eval] using hx
theorem Env.evals {n : Nat} {env : List (Nat × Value)} {a : Act} (h : Env n env a) : ∀ {xs : List Operand} {vs : List Value},evs env xs = some vs → xs.map a.eval = vs
  | [],vs,hx => by simp only [evs,Option.some.injEq] at hx; subst hx; rfl
  | x :: r,vs,hx => by
    simp only [evs] at hx
    split at hx
    · rename_i v ws h1 h2
      simp only [Option.some.injEq] at hx
      subst hx
      simp [h.eval h1,Env.evals h h2]
    · cases hx
theorem Env.put {n : Nat} {env : List (Nat × Value)} {a : Act} (h : Env n env a) {d : Nat} (hd : Nat.blt d n = true) (v : Value) : Env n ((d,v) :: env) (a.put (some d) v) where
  size := by simp [Act.put,h.size]
  has := by
    intro i u hi
    have hdn : d < a.tmps.size := by rw [h.size]; exact Nat.le_of_ble_eq_true hd
    simp only [look] at hi
    by_cases hdi : d = i
    · subst hdi
      simp only [Nat.beq_refl,cond_true,Option.some.injEq] at hi
      subst hi
      simp [Act.put,hdn]
    · have : Nat.beq d i = false := by
        cases hb : Nat.beq d i with
        | false => rfl
        | true => exact absurd (Nat.eq_of_beq_eq_true hb) hdi
      rw [this] at hi
      simp only [cond_false] at hi
      simp [Act.put,Array.getElem?_setIfInBounds_ne hdi,h.has i u hi]
theorem Env.over {n : Nat} {env : List (Nat × Value)} {a : Act} (h : Env n env a) {d : Nat} {v : Value} (hd : look env d = some v) : Env n ((d,v) :: env) a where
  size := h.size
  has := by
    intro i u hi
    simp only [look] at hi
    cases hb : Nat.beq d i with
    | true =>
      have := Nat.eq_of_beq_eq_true hb
      subst this
      rw [hb] at hi
      simp only [cond_true,Option.some.injEq] at hi
      subst hi
      exact h.has d v hd
    | false =>
      rw [hb] at hi
      exact h.has i u hi
def sub (env : List (Nat × Value)) : List (Nat × Value) → Prop
  | [] => True
  | (i,v) :: r => look env i = some v ∧ sub env r
theorem Env.sub {n : Nat} {env env' : List (Nat × Value)} {a : Act} (h : Env n env a) (hs : sub env env') : Env n env' a where
  size := h.size
  has := by
    induction env' with
    | nil => intro i v hi; cases hi
    | cons p r ih =>
      obtain ⟨j,u⟩ := p
      obtain ⟨h1,h2⟩ := hs
      intro i v hi
      simp only [look] at hi
      cases hb : Nat.beq j i with
      | true =>
        have := Nat.eq_of_beq_eq_true hb
        subst this
        rw [hb] at hi
        simp only [cond_true,Option.some.injEq] at hi
        subst hi
        exact h.has j u h1
      | false =>
        rw [hb] at hi
        exact ih h2 i v hi
structure EnvD (D : List Deferred) (n : Nat) (env : List (Nat × Value)) (a : Act) : Prop extends Env n env a where
  defers : a.defers = D
theorem EnvD.put {D : List Deferred} {n : Nat} {env : List (Nat × Value)} {a : Act} (h : EnvD D n env a) {d : Nat} (hd : Nat.blt d n = true) (v : Value) : EnvD D n ((d,v) :: env) (a.put (some d) v) := ⟨h.toEnv.put hd v,h.defers⟩
theorem EnvD.over {D : List Deferred} {n : Nat} {env : List (Nat × Value)} {a : Act} (h : EnvD D n env a) {d : Nat} {v : Value} (hd : look env d = some v) : EnvD D n ((d,v) :: env) a := ⟨h.toEnv.over hd,h.defers⟩
theorem EnvD.sub {D : List Deferred} {n : Nat} {env env' : List (Nat × Value)} {a : Act} (h : EnvD D n env a) (hs : Sx.sub env env') : EnvD D n env' a := ⟨h.toEnv.sub hs,h.defers⟩
abbrev Blocks := Nat → Prop
structure Fr (L : List Nat) (w w' : World) : Prop where
  os : w'.os = w.os
  tape : w'.tape = w.tape
  output : w'.output = w.output
  size : w.heap.size ≤ w'.heap.size
  block : ∀ k,k < w.heap.size → k ∉ L → w'.heap[k]? = w.heap[k]?
theorem Fr.refl (L : List Nat) (w : World) : Fr L w w := ⟨rfl,rfl,rfl,Nat.le_refl _,fun _ _ _ => rfl⟩
theorem Fr.trans {L : List Nat} {a b c : World} (h : Fr L a b) (g : Fr L b c) : Fr L a c :=
  ⟨g.os.trans h.os,g.tape.trans h.tape,g.output.trans h.output,Nat.le_trans h.size g.size,fun k hk hn => (g.block k (Nat.lt_of_lt_of_le hk h.size) hn).trans (h.block k hk hn)⟩
theorem Fr.below {w w' : World} (h : Fr [] w w') : RowKit.Below w.heap.size w w' := ⟨h.os,h.tape,h.output,h.size,fun k hk => h.block k hk (by simp)⟩
theorem Fr.mono {L M : List Nat} {w w' : World} (h : Fr L w w') (hs : ∀ k,k ∈ L → k < w.heap.size → k ∈ M) : Fr M w w' :=
  ⟨h.os,h.tape,h.output,h.size,fun k hk hn => h.block k hk (fun hl => hn (hs k hl hk))⟩
theorem Fr.drew (L : List Nat) (w : World) : Fr L w w.drew := ⟨rfl,rfl,rfl,Nat.le_refl _,fun _ _ _ => rfl⟩
theorem Fr.alloc (L : List Nat) (w : World) (o : Obj) : Fr L w (w.alloc o) := ⟨rfl,rfl,rfl,by simp,fun k hk _ => RowKit.Below.heap_alloc w o k hk⟩
structure Pers where
  h : World → Blocks → Prop
  st : ∀ {w w' : World} {S S' : Blocks},h w S → (∀ k,S k → k < w.heap.size → S' k ∧ w'.heap[k]? = w.heap[k]?) → h w' S'
inductive Own where
  | blk (b : Nat) (o : Obj)
  | row (v : Value) (e : TypeId) (sz n : Nat) (cs : List Value)
  | gen (ks : List Nat) (h : World → Prop) (lt : ∀ w,h w → ∀ k ∈ ks,k < w.heap.size) (mv : ∀ w w',h w → (∀ k ∈ ks,w'.heap[k]? = w.heap[k]?) → h w')
def Own.keys : Own → List Nat
  | .blk b _ => [b]
  | .row v _ _ _ _ => v.ownBlock.toList
  | .gen ks _ _ _ => ks
def Own.holds (w : World) : Own → Prop
  | .blk b o => w.heap[b]? = some o
  | .row v e sz n cs => w.ownsRow 0 e sz v n cs
  | .gen _ h _ _ => h w
theorem Own.move {w w' : World} {o : Own} (h : o.holds w) (hm : ∀ k,k ∈ o.keys → w'.heap[k]? = w.heap[k]?) : o.holds w' := by
  cases o with
  | blk b x => exact (hm b (by simp [Own.keys])).trans h
  | row v e sz n cs =>
    obtain ⟨h1,h2⟩ := h
    refine ⟨h1,?_⟩
    rcases h2 with h2 | ⟨g,cap,cur,rfl,hg,hh,r⟩
    · exact .inl h2
    · exact .inr ⟨g,cap,cur,rfl,hg,(hm g (by simp [Own.keys,Value.ownBlock])).trans hh,r⟩
  | gen ks p lt mv => exact mv w w' h hm
theorem Own.lt {w : World} {o : Own} (h : o.holds w) {k : Nat} (hk : k ∈ o.keys) : k < w.heap.size := by
  cases o with
  | blk b x =>
    simp only [Own.keys,List.mem_singleton] at hk
    subst hk
    exact (Array.getElem?_eq_some_iff.1 h).1
  | row v e sz n cs =>
    rcases h.2 with ⟨rfl,_⟩ | ⟨g,cap,cur,rfl,_,hh,_⟩
    · simp [Own.keys,Value.ownBlock] at hk
    · simp only [Own.keys,Value.ownBlock,Option.toList_some,List.mem_singleton] at hk
      subst hk
      exact (Array.getElem?_eq_some_iff.1 hh).1
  | gen ks p lt mv => exact lt w h k hk
def keysOf (G : List Own) : List Nat := G.flatMap Own.keys
theorem mem_keysOf {G : List Own} {k : Nat} : k ∈ keysOf G ↔ ∃ o ∈ G,k ∈ o.keys := by simp [keysOf]
theorem keysOf_sublist {G G' : List Own} (h : G'.Sublist G) : (keysOf G').Sublist (keysOf G) := by
  induction h with
  | slnil => exact List.Sublist.refl _
  | cons a _ ih => exact ih.trans (List.sublist_append_right _ _)
  | cons_cons a _ ih => exact List.Sublist.append (List.Sublist.refl _) ih
theorem exists_least {p : Nat → Prop} (h : ∃ n,p n) : ∃ n,p n ∧ ∀ m,p m → n ≤ m := by
  obtain ⟨n,hn⟩ := h
  induction n using Nat.strongRecOn with
  | _ n ih =>
    by_cases hm : ∃ m,m < n ∧ p m
    · obtain ⟨m,hlt,hm⟩ := hm
      exact ih m hlt hm
    · exact ⟨n,hn,fun m hp => Nat.le_of_not_lt fun hlt => hm ⟨m,hlt,hp⟩⟩
structure Heap (S : Blocks) (G : List Own) (Q : List Pers) (w : World) : Prop where
  own : ∀ o ∈ G,o.holds w
  nod : (keysOf G).Nodup
  out : ∀ k ∈ keysOf G,¬ S k
  per : ∀ q ∈ Q,q.h w S
theorem Heap.lt {S : Blocks} {G : List Own} {Q : List Pers} {w : World} (h : Heap S G Q w) {k : Nat} (hk : k ∈ keysOf G) : k < w.heap.size := by
  obtain ⟨o,ho,hk⟩ := mem_keysOf.1 hk
  exact Own.lt (h.own o ho) hk
theorem Heap.move {S : Blocks} {G : List Own} {Q : List Pers} {w w' : World} (h : Heap S G Q w) (hm : ∀ k,k < w.heap.size → (S k ∨ k ∈ keysOf G) → w'.heap[k]? = w.heap[k]?) : Heap S G Q w' where
  own := fun o ho => Own.move (h.own o ho) fun k hk => hm k (h.lt (mem_keysOf.2 ⟨o,ho,hk⟩)) (.inr (mem_keysOf.2 ⟨o,ho,hk⟩))
  nod := h.nod
  out := h.out
  per := fun q hq => q.st (h.per q hq) fun k hs hk => ⟨hs,hm k hk (.inl hs)⟩
theorem Heap.sub {S : Blocks} {G G' : List Own} {Q Q' : List Pers} {w : World} (h : Heap S G Q w) (hG : G'.Sublist G) (hQ : ∀ q ∈ Q',q ∈ Q) : Heap S G' Q' w where
  own := fun o ho => h.own o (hG.subset ho)
  nod := (keysOf_sublist hG).nodup h.nod
  out := fun k hk => h.out k (by
    obtain ⟨o,ho,hk⟩ := mem_keysOf.1 hk
    exact mem_keysOf.2 ⟨o,hG.subset ho,hk⟩)
  per := fun q hq => h.per q (hQ q hq)
theorem Heap.perm {S : Blocks} {G G' : List Own} {Q : List Pers} {w : World} (h : Heap S G Q w) (hG : G.Perm G') : Heap S G' Q w where
  own := fun o ho => h.own o (hG.mem_iff.2 ho)
  nod := (List.Perm.flatMap_right Own.keys hG).nodup_iff.1 h.nod
  out := fun k hk => h.out k (by
    obtain ⟨o,ho,hk⟩ := mem_keysOf.1 hk
    exact mem_keysOf.2 ⟨o,hG.mem_iff.2 ho,hk⟩)
  per := h.per
theorem Heap.alloc {S : Blocks} {G : List Own} {Q : List Pers} {w : World} (h : Heap S G Q w) (o : Obj) :
    Heap (fun k => S k ∧ k ≠ w.heap.size) (.blk w.heap.size o :: G) Q (w.alloc o) where
  own := by
    intro x hx
    rcases List.mem_cons.1 hx with rfl | hx
    · exact heap_alloc_new w o
    · exact Own.move (h.own x hx) fun k hk => RowKit.Below.heap_alloc w o k (Own.lt (h.own x hx) hk)
  nod := by
    show ([w.heap.size] ++ keysOf G).Nodup
    refine List.nodup_cons.2 ⟨fun hk => ?_,h.nod⟩
    exact absurd (h.lt hk) (Nat.lt_irrefl _)
  out := by
    intro k hk hs
    rcases List.mem_cons.1 (show k ∈ w.heap.size :: keysOf G from hk) with rfl | hk
    · exact hs.2 rfl
    · exact h.out k hk hs.1
  per := fun q hq => q.st (h.per q hq) fun k hs hk => ⟨⟨hs,Nat.ne_of_lt hk⟩,RowKit.Below.heap_alloc w o k hk⟩
structure Cx where
  w0 : World
  S0 : Blocks
  L0 : List Nat
  D : List Deferred := []
structure Rel (c : Cx) (S : Blocks) (G : List Own) (w : World) : Prop where
  fr : Fr c.L0 c.w0 w
  old : ∀ k,k < c.w0.heap.size → k ∉ c.L0 → (S k ↔ c.S0 k)
  key : ∀ k,k ∈ keysOf G → k ∈ c.L0 ∨ c.w0.heap.size ≤ k
def St (c : Cx) (n : Nat) (env : List (Nat × Value)) (G : List Own) (Q : List Pers) (a : Act) (w : World) : Prop :=
  ∃ S,EnvD c.D n env a ∧ Heap S G Q w ∧ Rel c S G w
abbrev Asr := Act → World → Prop
def Tr (P : Program) (o : Oper) (A B : Asr) : Prop := ∀ a w,A a w → ∀ (K : Asr) (Q : Exit → Asr),(∀ a' w',B a' w' → K a' w') → o.wp P a w K Q
theorem Tr.mono {P : Program} {o : Oper} {A A' B B' : Asr} (h : Tr P o A B) (hA : ∀ a w,A' a w → A a w) (hB : ∀ a w,B a w → B' a w) : Tr P o A' B' :=
  fun a w ha K Q hk => h a w (hA a w ha) K Q fun a' w' hb => hk a' w' (hB a' w' hb)
def GL (P : Program) (ops : Array Oper) (Q : Exit → Asr) (l : List Oper) (A : Asr) : Prop := ∀ a w,A a w → wpList P ops Q l a w
def GC (P : Program) (Q : Exit → Asr) (x : Code) (A : Asr) : Prop := ∀ a w,A a w → x.wp P Q a w
end Go.Sx
namespace Go.Sx
open Go
section
variable {P : Program} {ops : Array Oper} {Q : Exit → Asr} {A B : Asr} {o : Oper} {rest : List Oper}
theorem GL.step (hg : o.guard = none) (h : Tr P o A B) (k : GL P ops Q rest B) : GL P ops Q (o :: rest) A :=
  fun a w ha => wpList_plain hg fun K hK => h a w ha K Q fun a' w' hb => hK a' w' (k a' w' hb)
theorem GL.nil (h : ∀ a w,A a w → Q .normal a w) : GL P ops Q [] A := fun a w ha => wpList_nil (h a w ha)
theorem GL.imp (h : ∀ a w,A a w → B a w) (k : GL P ops Q rest B) : GL P ops Q rest A := fun a w ha => k a w (h a w ha)
theorem GL.ex {α : Type} {F : α → Asr} (k : ∀ x,GL P ops Q rest (F x)) : GL P ops Q rest (fun a w => ∃ x,F x a w) := fun a w ⟨x,hx⟩ => k x a w hx
theorem GC.imp {x : Code} (h : ∀ a w,A a w → B a w) (k : GC P Q x B) : GC P Q x A := fun a w ha => k a w (h a w ha)
theorem GC.ex {α : Type} {F : α → Asr} {x : Code} (k : ∀ y,GC P Q x (F y)) : GC P Q x (fun a w => ∃ y,F y a w) := fun a w ⟨y,hy⟩ => k y a w hy
theorem GC.seq {x y : Code} {M : Asr} (hx : GC P (Exit.then M Q) x A) (hy : GC P Q y M) : GC P Q (.seq x y) A := fun a w ha =>
  wp_seq_k fun K hK => Code.wp_mono (fun e a w h => by cases e <;> first | exact hK _ _ (hy _ _ h) | exact h) (hx a w ha)
theorem GC.seq' {x y : Code} (h : GC P (Exit.then (fun a w => y.wp P Q a w) Q) x A) : GC P Q (.seq x y) A := fun a w ha => wp_seq (h a w ha)
theorem GC.block {id : Nat} {x : Code} (h : GC P (Exit.inBlock id Q) x A) : GC P Q (.block id x) A := fun a w ha => wp_block (h a w ha)
theorem GC.skip (h : ∀ a w,A a w → Q .normal a w) : GC P Q .skip A := fun a w ha => wp_skip (h a w ha)
theorem GC.exit {id : Nat} (h : ∀ a w,A a w → Q (.exit id) a w) : GC P Q (.exit id) A := fun a w ha => wp_exit (h a w ha)
theorem GC.ret (h : ∀ a w,A a w → Q .ret a w) : GC P Q .ret A := fun a w ha => wp_ret (h a w ha)
theorem GC.region {id : Nat} {l : List Oper} (h : GL P l.toArray Q l A) : GC P Q (.region id l.toArray false) A := fun a w ha => wp_region_lit (h a w ha)
theorem GC.loop {α : Type} {x : Code} (I : α → Asr) (μ : α → Nat) (y : α)
    (h : ∀ y,GC P (Exit.then (fun a w => ∃ z,μ z < μ y ∧ I z a w) Q) x (I y)) : GC P Q (.loop x) (I y) := by
  intro a w ha
  let J : Asr := fun a w => ∃ y,I y a w
  let p : Act → World → Nat → Prop := fun a w n => ∃ y,μ y = n ∧ I y a w
  have least : ∀ a w,J a w → ∃ n,p a w n ∧ ∀ m,p a w m → n ≤ m := fun a w ⟨y,hy⟩ => exists_least ⟨_,y,rfl,hy⟩
  let m : Act → World → Nat := fun a w => open Classical in if hx : J a w then Classical.choose (least a w hx) else 0
  have mspec : ∀ a w (hx : J a w),p a w (m a w) ∧ ∀ k,p a w k → m a w ≤ k := fun a w hx => by
    have := Classical.choose_spec (least a w hx)
    simp only [m]
    rw [dif_pos hx]
    exact this
  refine wp_loop J m ⟨y,ha⟩ ?_
  intro a w hJ
  obtain ⟨⟨y1,hm,hy1⟩,_⟩ := mspec a w hJ
  refine Code.wp_mono (fun e a' w' hq => ?_) (h y1 a w hy1)
  cases e with
  | normal =>
    obtain ⟨z,hz,hI⟩ := hq
    refine ⟨⟨z,hI⟩,?_⟩
    rw [← hm]
    exact Nat.lt_of_le_of_lt ((mspec a' w' ⟨z,hI⟩).2 _ ⟨z,rfl,hI⟩) hz
  | _ => exact hq
end
end Go.Sx
namespace Go.Sx
open Go
theorem add_zero (a : Addr) : a.add 0 = a := by simp [Addr.add]
theorem add_lit (b o j : Nat) : (⟨b,o,none⟩ : Addr).add j = ⟨b,o + j,none⟩ := by unfold Addr.add; split <;> simp_all
theorem add_add (a : Addr) (i j : Nat) : (a.add i).add j = a.add (i + j) := by
  unfold Addr.add
  by_cases hi : i = 0 <;> by_cases hj : j = 0 <;> simp [hi,hj,Nat.add_assoc]
theorem add_block (a : Addr) (j : Nat) : (a.add j).block = a.block := by unfold Addr.add; split <;> rfl
def CellsAt (w : World) (a : Addr) (cs : List Value) : Prop := ∀ j u,cs[j]? = some u → w.cell? (a.add j) = some u
theorem CellsAt.nil (w : World) (a : Addr) : CellsAt w a [] := fun j u h => by simp at h
theorem CellsAt.move {w w' : World} {a : Addr} {cs : List Value} (h : CellsAt w a cs) (hb : w'.heap[a.block]? = w.heap[a.block]?) : CellsAt w' a cs := fun j u hj =>
  (World.cell?_of_block (w := w) (by rw [add_block]; exact hb)).trans (h j u hj)
def nth : List Value → Nat → Option Value
  | [],_ => none
  | x :: _,0 => some x
  | _ :: r,n + 1 => nth r n
theorem nth_eq : ∀ (l : List Value) (n : Nat),nth l n = l[n]?
  | [],n => by simp [nth]
  | x :: r,0 => rfl
  | x :: r,n + 1 => by simp [nth,nth_eq r n]
def at_ (l : List Value) : Nat → List Value → Prop
  | _,[] => True
  | o,v :: vs => nth l o = some v ∧ at_ l (o + 1) vs
theorem at_get {l : List Value} : ∀ {vs : List Value} {o : Nat},at_ l o vs → ∀ j u,vs[j]? = some u → l[o + j]? = some u
  | [],o,_,j,u,hj => by simp at hj
  | v :: vs,o,h,0,u,hj => by simp at hj; subst hj; rw [Nat.add_zero,← nth_eq]; exact h.1
  | v :: vs,o,h,j + 1,u,hj => by
    have := at_get h.2 j u (by simpa using hj)
    rwa [show o + 1 + j = o + (j + 1) by omega] at this
def upd : List Value → Nat → List Value → Option (List Value)
  | l,0,[] => some l
  | [],0,_ :: _ => none
  | _ :: r,0,v :: vs => (upd r 0 vs).map (v :: ·)
  | [],_ + 1,_ => none
  | x :: r,o + 1,vs => (upd r o vs).map (x :: ·)
theorem upd_eq : ∀ {l : List Value} {o : Nat} {vs l' : List Value},upd l o vs = some l' → l' = l.take o ++ vs ++ l.drop (o + vs.length) ∧ o + vs.length ≤ l.length
  | l,0,[],l',h => by
    have : some l = some l' := by cases l <;> simpa [upd] using h
    simp at this
    subst this
    simp
  | [],0,v :: vs,l',h => by simp [upd] at h
  | x :: r,0,v :: vs,l',h => by
    simp only [upd,Option.map_eq_some_iff] at h
    obtain ⟨m,hm,rfl⟩ := h
    obtain ⟨rfl,hl⟩ := upd_eq hm
    simp at hl ⊢
    omega
  | [],o + 1,vs,l',h => by simp [upd] at h
  | x :: r,o + 1,vs,l',h => by
    simp only [upd,Option.map_eq_some_iff] at h
    obtain ⟨m,hm,rfl⟩ := h
    obtain ⟨rfl,hl⟩ := upd_eq hm
    have e : o + 1 + vs.length = o + vs.length + 1 := by omega
    simp only [e,List.take_succ_cons,List.drop_succ_cons,List.cons_append,List.length_cons]
    exact ⟨trivial,by omega⟩
def allOne : List Value → Bool
  | [] => true
  | v :: r => v.oneCell' && allOne r
theorem allOne_mem {l : List Value} (h : allOne l = true) : ∀ u ∈ l,u.oneCell' = true := by
  induction l with
  | nil => simp
  | cons v r ih =>
    simp only [allOne,Bool.and_eq_true] at h
    intro u hu
    rcases List.mem_cons.1 hu with rfl | hu
    · exact h.1
    · exact ih h.2 u hu
structure Kd (α : Type) where
  Y : Type
  sz : Nat
  cells : α → Y → List Value
  ok : α → Y → Prop
  pers : α → Y → List Pers
  len : ∀ x y,(cells x y).length = sz
  one : ∀ x y,∀ u ∈ cells x y,u.oneCell' = true
def Kd.K {α : Type} (d : Kd α) (w : World) (S : Blocks) (x : α) (cs : List Value) : Prop := ∃ y,d.ok x y ∧ cs = d.cells x y ∧ ∀ q ∈ d.pers x y,q.h w S
theorem Kd.K_len {α : Type} {d : Kd α} {w : World} {S : Blocks} {x : α} {cs : List Value} (h : d.K w S x cs) : cs.length = d.sz := by
  obtain ⟨y,_,rfl,_⟩ := h; exact d.len x y
theorem Kd.K_one {α : Type} {d : Kd α} {w : World} {S : Blocks} {x : α} {cs : List Value} (h : d.K w S x cs) : ∀ u ∈ cs,u.oneCell' = true := by
  obtain ⟨y,_,rfl,_⟩ := h; exact d.one x y
theorem Kd.K_st {α : Type} {d : Kd α} {w w' : World} {S S' : Blocks} {x : α} {cs : List Value} (h : d.K w S x cs) (hm : ∀ k,S k → k < w.heap.size → S' k ∧ w'.heap[k]? = w.heap[k]?) : d.K w' S' x cs := by
  obtain ⟨y,h1,h2,h3⟩ := h
  exact ⟨y,h1,h2,fun q hq => q.st (h3 q hq) hm⟩
def Pers.at (a : Addr) (cs : List Value) : Pers where
  h := fun w S => S a.block ∧ a.block < w.heap.size ∧ CellsAt w a cs
  st := fun ⟨h1,h2,h3⟩ hm => ⟨(hm _ h1 h2).1,by
    have := (hm _ h1 h2).2
    rename_i w w' S S'
    rw [Array.getElem?_eq_getElem h2] at this
    exact (Array.getElem?_eq_some_iff.1 this).1,h3.move (hm _ h1 h2).2⟩
def RowAt {α : Type} (d : Kd α) (w : World) (S : Blocks) (a : Addr) (xs : List α) : Prop :=
  S a.block ∧ a.block < w.heap.size ∧ ∀ i x,xs[i]? = some x → ∃ cs,d.K w S x cs ∧ CellsAt w (a.add (i * d.sz)) cs
def Pers.row {α : Type} (d : Kd α) (A : Option Addr) (xs : List α) : Pers where
  h := fun w S => xs = [] ∨ ∃ a,A = some a ∧ RowAt d w S a xs
  st := by
    intro w w' S S' h hm
    rcases h with h | ⟨a,ha,h1,h2,h3⟩
    · exact .inl h
    · have hb := hm _ h1 h2
      refine .inr ⟨a,ha,hb.1,?_,fun i x hx => ?_⟩
      · have := hb.2
        rw [Array.getElem?_eq_getElem h2] at this
        exact (Array.getElem?_eq_some_iff.1 this).1
      · obtain ⟨cs,hk,hc⟩ := h3 i x hx
        exact ⟨cs,Kd.K_st hk hm,hc.move (by rw [add_block]; exact hb.2)⟩
def Kd.sc {α : Type} (enc : α → Value) (h1 : ∀ x,(enc x).oneCell' = true) : Kd α where
  Y := Unit
  sz := 1
  cells := fun x _ => [enc x]
  ok := fun _ _ => True
  pers := fun _ _ => []
  len := fun _ _ => rfl
  one := fun x _ u hu => by rw [List.mem_singleton.1 hu]; exact h1 x
def Kd.int (k : IntKind) : Kd Int := Kd.sc (Value.int k) (fun _ => rfl)
def Kd.bool : Kd Bool := Kd.sc Value.bool (fun _ => rfl)
def Kd.u8 : Kd UInt8 := Kd.sc (fun b => Value.int .u8 (b.toNat : Int)) (fun _ => rfl)
def Kd.slice {α : Type} (d : Kd α) : Kd (List α) where
  Y := Option Addr × Nat
  sz := 1
  cells := fun xs y => [.slice y.1 xs.length y.2]
  ok := fun xs y => xs.length ≤ y.2 ∧ y.2 ≤ 9223372036854775807
  pers := fun xs y => [Pers.row d y.1 xs]
  len := fun _ _ => rfl
  one := fun x y u hu => by rw [List.mem_singleton.1 hu]; rfl
def Kd.pair {α β : Type} (a : Kd α) (b : Kd β) : Kd (α × β) where
  Y := a.Y × b.Y
  sz := a.sz + b.sz
  cells := fun x y => a.cells x.1 y.1 ++ b.cells x.2 y.2
  ok := fun x y => a.ok x.1 y.1 ∧ b.ok x.2 y.2
  pers := fun x y => a.pers x.1 y.1 ++ b.pers x.2 y.2
  len := fun x y => by rw [List.length_append,a.len,b.len]
  one := fun x y u hu => by
    rcases List.mem_append.1 hu with hu | hu
    · exact a.one x.1 y.1 u hu
    · exact b.one x.2 y.2 u hu
def Kd.iso {α β : Type} (d : Kd α) (f : β → α) : Kd β where
  Y := d.Y
  sz := d.sz
  cells := fun x y => d.cells (f x) y
  ok := fun x y => d.ok (f x) y
  pers := fun x y => d.pers (f x) y
  len := fun x y => d.len (f x) y
  one := fun x y => d.one (f x) y
def Reps {α : Type} (d : Kd α) (w : World) (S : Blocks) : List α → List Value → Prop
  | [],cs => cs = []
  | x :: r,cs => ∃ c t,cs = c ++ t ∧ d.K w S x c ∧ Reps d w S r t
theorem Reps.st {α : Type} {d : Kd α} {w w' : World} {S S' : Blocks} (hm : ∀ k,S k → k < w.heap.size → S' k ∧ w'.heap[k]? = w.heap[k]?) : ∀ {xs : List α} {cs : List Value},Reps d w S xs cs → Reps d w' S' xs cs
  | [],_,h => h
  | _ :: _,_,⟨c,t,e,hk,h⟩ => ⟨c,t,e,Kd.K_st hk hm,Reps.st hm h⟩
theorem Reps.length {α : Type} {d : Kd α} {w : World} {S : Blocks} : ∀ {xs : List α} {cs : List Value},Reps d w S xs cs → cs.length = xs.length * d.sz
  | [],_,h => by simp only [Reps] at h; subst h; simp
  | _ :: _,_,⟨c,t,e,hk,h⟩ => by subst e; rw [List.length_append,Kd.K_len hk,h.length,List.length_cons,Nat.add_mul,Nat.one_mul,Nat.add_comm]
theorem Reps.one {α : Type} {d : Kd α} {w : World} {S : Blocks} : ∀ {xs : List α} {cs : List Value},Reps d w S xs cs → ∀ u ∈ cs,u.oneCell' = true
  | [],_,h => by simp only [Reps] at h; subst h; simp
  | _ :: _,_,⟨c,t,e,hk,h⟩ => by
    subst e
    intro u hu
    rcases List.mem_append.1 hu with hu | hu
    · exact Kd.K_one hk u hu
    · exact h.one u hu
theorem Reps.append {α : Type} {d : Kd α} {w : World} {S : Blocks} {ys : List α} {ds : List Value} (h2 : Reps d w S ys ds) : ∀ {xs : List α} {cs : List Value},Reps d w S xs cs → Reps d w S (xs ++ ys) (cs ++ ds)
  | [],_,h => by simp only [Reps] at h; subst h; simpa using h2
  | _ :: _,_,⟨c,t,e,hk,h⟩ => ⟨c,t ++ ds,by rw [e,List.append_assoc],hk,Reps.append h2 h⟩
theorem Reps.single {α : Type} {d : Kd α} {w : World} {S : Blocks} {x : α} {cs : List Value} (h : d.K w S x cs) : Reps d w S [x] cs := ⟨cs,[],by simp,h,rfl⟩
theorem Reps.get {α : Type} {d : Kd α} {w : World} {S : Blocks} : ∀ {xs : List α} {cs : List Value},Reps d w S xs cs → ∀ {i : Nat} {x : α},xs[i]? = some x → ∃ c,d.K w S x c ∧ ∀ j u,c[j]? = some u → cs[i * d.sz + j]? = some u
  | [],_,_,i,x,hx => by simp at hx
  | y :: r,_,⟨c,t,e,hk,h⟩,0,x,hx => by
    simp at hx; subst hx; subst e
    refine ⟨c,hk,fun j u hj => ?_⟩
    rw [Nat.zero_mul,Nat.zero_add,List.getElem?_append_left (by rw [List.getElem?_eq_some_iff] at hj; exact hj.1)]
    exact hj
  | y :: r,_,⟨c,t,e,hk,h⟩,i + 1,x,hx => by
    obtain ⟨c',hk',h'⟩ := Reps.get h (i := i) (x := x) (by simpa using hx)
    subst e
    refine ⟨c',hk',fun j u hj => ?_⟩
    rw [List.getElem?_append_right (by rw [Kd.K_len hk]; rw [Nat.add_mul]; omega),Kd.K_len hk,show (i + 1) * d.sz + j - d.sz = i * d.sz + j by rw [Nat.add_mul]; omega]
    exact h' j u hj
def Pers.reps {α : Type} (d : Kd α) (xs : List α) (cs : List Value) : Pers where
  h := fun w S => Reps d w S xs cs
  st := fun h hm => Reps.st hm h
def Pers.k {α : Type} (d : Kd α) (x : α) (cs : List Value) : Pers where
  h := fun w S => d.K w S x cs
  st := fun h hm => Kd.K_st h hm
abbrev Own.cells (b : Nat) (l : List Value) (e : TypeId) : Own := .blk b (.cells l.toArray e (0,0))
theorem cellsAt_blk {w : World} {b : Nat} {l : List Value} {e : TypeId} {f : Nat × Nat} (h : w.heap[b]? = some (.cells l.toArray e f)) {o : Nat} {vs : List Value} (hv : ∀ j u,vs[j]? = some u → l[o + j]? = some u) : CellsAt w ⟨b,o,none⟩ vs := by
  intro j u hj
  rw [add_lit]
  simp [World.cell?,h,hv j u hj]
theorem scalar_reps {α : Type} {enc : α → Value} {h1 : ∀ x,(enc x).oneCell' = true} {w : World} {S : Blocks} : ∀ (xs : List α),Reps (Kd.sc enc h1) w S xs (xs.map enc)
  | [] => rfl
  | x :: r => ⟨[enc x],r.map enc,rfl,⟨(),trivial,rfl,fun q hq => by cases hq⟩,scalar_reps r⟩
theorem row_scalar {α : Type} {enc : α → Value} {h1 : ∀ x,(enc x).oneCell' = true} {w : World} {S : Blocks} {A : Option Addr} {xs : List α} (h : (Pers.row (Kd.sc enc h1) A xs).h w S) :
    xs = [] ∨ ∃ a,A = some a ∧ S a.block ∧ a.block < w.heap.size ∧ CellsAt w a (xs.map enc) := by
  rcases h with h | ⟨a,ha,h1,h2,h3⟩
  · exact .inl h
  · refine .inr ⟨a,ha,h1,h2,fun j u hj => ?_⟩
    simp only [List.getElem?_map,Option.map_eq_some_iff] at hj
    obtain ⟨x,hx,rfl⟩ := hj
    obtain ⟨cs,⟨_,_,rfl,_⟩,hc⟩ := h3 j x hx
    have := hc 0 (enc x) rfl
    rw [add_add] at this
    simpa [Kd.sc] using this
theorem rowAt_of {α : Type} {d : Kd α} {w : World} {S : Blocks} {xs : List α} {cs : List Value} {a : Addr} (hr : Reps d w S xs cs) (hS : S a.block) (hb : a.block < w.heap.size) (hc : CellsAt w a cs) : RowAt d w S a xs :=
  ⟨hS,hb,fun i x hx => by
    obtain ⟨c,hk,h⟩ := hr.get hx
    exact ⟨c,hk,fun j u hj => by rw [add_add]; exact hc _ _ (h j u hj)⟩⟩
end Go.Sx
namespace Go.Sx
open Go
section
variable {P : Program} {c : Cx} {n : Nat} {env : List (Nat × Value)} {G : List Own} {Q : List Pers} {d : Nat} {ty : TypeId} {pos : String} {aft : Array Edge} {g : Option (Nat × Bool)}
def Pv (P : Program) (n : Nat) (env : List (Nat × Value)) (o : Oper) (v : Value) : Prop := ∀ a w,Env n env a → (execOp a.eval o).run P w = .ok (.value v) w
theorem Tr.val {op : Op} {v : Value} (hd : Nat.blt d n = true) (h : Pv P n env ⟨some d,op,ty,pos,aft,g⟩ v) :
    Tr P ⟨some d,op,ty,pos,aft,g⟩ (St c n env G Q) (St c n ((d,v) :: env) G Q) := by
  rintro a w ⟨S,he,hh,hr⟩ K Q' hk
  unfold Oper.wp
  rw [h a w he.toEnv]
  exact hk _ _ ⟨S,he.put hd v,hh,hr⟩
theorem GL.pure {ops rest : _} {R : Exit → Asr} {op : Op} {v : Value} (hd : Nat.blt d n = true) (h : Pv P n env ⟨some d,op,ty,pos,aft,none⟩ v) (k : GL P ops R rest (St c n ((d,v) :: env) G Q)) : GL P ops R (⟨some d,op,ty,pos,aft,none⟩ :: rest) (St c n env G Q) := GL.step rfl (Tr.val hd h) k
theorem p_move {x : Operand} {v : Value} (hx : ev env x = some v) : Pv P n env ⟨some d,.move x,ty,pos,aft,g⟩ (v) :=
  fun a w he => by simp [execOp,he.eval hx]
theorem p_assign {x : Operand} {v : Value} (hx : ev env x = some v) : Pv P n env ⟨some d,.assign x,ty,pos,aft,g⟩ (v) :=
  fun a w he => by simp [execOp,he.eval hx]
end
end Go.Sx
namespace Go.Sx
open Go
theorem GL.mv_ {P : Program} {c : Cx} {n : Nat} {env : List (Nat × Value)} {G : List Own} {Q : List Pers} {d : Nat} {ty : TypeId} {pos : String} {aft : Array Edge} {x : Operand} {ops : Array Oper} {R : Exit → Asr} {rest : List Oper} {v : Value} (hd : Nat.blt d n = true) (hx : ev env x = some v) (k : GL P ops R rest (St c n ((d,v) :: env) G Q)) : GL P ops R (⟨some d,.move x,ty,pos,aft,none⟩ :: rest) (St c n env G Q) := GL.pure hd (p_move hx) k
theorem GL.as_ {P : Program} {c : Cx} {n : Nat} {env : List (Nat × Value)} {G : List Own} {Q : List Pers} {d : Nat} {ty : TypeId} {pos : String} {aft : Array Edge} {x : Operand} {ops : Array Oper} {R : Exit → Asr} {rest : List Oper} {v : Value} (hd : Nat.blt d n = true) (hx : ev env x = some v) (k : GL P ops R rest (St c n ((d,v) :: env) G Q)) : GL P ops R (⟨some d,.assign x,ty,pos,aft,none⟩ :: rest) (St c n env G Q) := GL.pure hd (p_assign hx) k
theorem GC.sr_ {P : Program} {Q : Exit → Asr} {A : Asr} {id : Nat} {l : List Oper} {y : Code} (h : GL P l.toArray (Exit.then (fun a w => y.wp P Q a w) Q) l A) : GC P Q (.seq (.region id l.toArray false) y) A := GC.seq' (GC.region h)
theorem GL.nl_ {P : Program} {Q : Exit → Asr} {A : Asr} {ops : Array Oper} {y : Code} (h : GC P Q y A) : GL P ops (Exit.then (fun a w => y.wp P Q a w) Q) [] A := GL.nil h
end Go.Sx
namespace Go.Sx
open Go
section
variable {P : Program} {c : Cx} {n : Nat} {env : List (Nat × Value)} {G : List Own} {Q : List Pers} {d : Nat} {ty : TypeId} {pos : String} {aft : Array Edge} {g : Option (Nat × Bool)}
theorem p_pick_true {x y z : Operand} {v : Value} (hx : ev env x = some (.bool true)) (hy : ev env y = some v) : Pv P n env ⟨some d,.pick x y z,ty,pos,aft,g⟩ (v) :=
  fun a w he => by simp [execOp,he.eval hx,he.eval hy,asBool]
theorem p_pick_false {x y z : Operand} {v : Value} (hx : ev env x = some (.bool false)) (hz : ev env z = some v) : Pv P n env ⟨some d,.pick x y z,ty,pos,aft,g⟩ (v) :=
  fun a w he => by simp [execOp,he.eval hx,he.eval hz,asBool]
theorem p_not {x : Operand} {b : Bool} {t : TypeId} (hx : ev env x = some (.bool b)) : Pv P n env ⟨some d,.unOp .not t x,ty,pos,aft,g⟩ (.bool (!b)) :=
  fun a w he => by simp [execOp,he.eval hx,Op.unary]
theorem p_extract {x : Operand} {vs : List Value} {i : Nat} {v : Value} (hx : ev env x = some (.tuple vs.toArray)) (hi : nth vs i = some v) : Pv P n env ⟨some d,.extract x i,ty,pos,aft,g⟩ (v) :=
  fun a w he => by rw [nth_eq] at hi; simp [execOp,he.eval hx,Instr.extract,hi]
theorem p_nilCheck {x : Operand} {p : Addr} (hx : ev env x = some (.pointer (some p))) : Pv P n env ⟨some d,.nilCheck x,ty,pos,aft,g⟩ (.pointer (some p)) :=
  fun a w he => by simp [execOp,he.eval hx]
theorem p_makeFunc {fn : Fn} {first captured : List Operand} {vs us : List Value} (h1 : evs env first = some vs) (h2 : evs env captured = some us) : Pv P n env ⟨some d,.makeFunc fn first.toArray captured.toArray,ty,pos,aft,g⟩ (.func fn vs.toArray us.toArray) :=
  fun a w he => by simp [execOp,Instr.makeFunc,he.evals h1,he.evals h2]
theorem ibeq (m l : Int) : (m == l) = decide (m = l) := by rw [Bool.eq_iff_iff]; simp
theorem ibne (m l : Int) : (m != l) = decide (m ≠ l) := by rw [Bool.eq_iff_iff]; simp
theorem eqGuard_int {op : BinOp} {t : TypeId} {x y : Operand} {k : IntKind} {m : Int} {v : Value} (w : World) : (eqGuard op t x y (.int k m) v).run P w = .ok () w := by
  unfold eqGuard
  cases op <;> simp
theorem eqGuard_bool {op : BinOp} {t : TypeId} {x y : Operand} {b : Bool} {v : Value} (w : World) : (eqGuard op t x y (.bool b) v).run P w = .ok () w := by
  unfold eqGuard
  cases op <;> simp
theorem eqGuard_string {op : BinOp} {t : TypeId} {x y : Operand} {b : ByteArray} {v : Value} (w : World) : (eqGuard op t x y (.string b) v).run P w = .ok () w := by
  unfold eqGuard
  cases op <;> simp
theorem eqGuard_pointer {op : BinOp} {t : TypeId} {x y : Operand} {b : Option Addr} {v : Value} (w : World) : (eqGuard op t x y (.pointer b) v).run P w = .ok () w := by
  unfold eqGuard
  cases op <;> simp
theorem eqGuard_slice {op : BinOp} {t : TypeId} {x y : Operand} {b : Option Addr} {l m : Nat} {v : Value} (w : World) : (eqGuard op t x y (.slice b l m) v).run P w = .ok () w := by
  unfold eqGuard
  cases op <;> simp
end
end Go.Sx
namespace Go.Sx
open Go
section
variable {P : Program} {c : Cx} {n : Nat} {env : List (Nat × Value)} {G : List Own} {Q : List Pers} {d : Nat} {ty : TypeId} {pos : String} {aft : Array Edge} {g : Option (Nat × Bool)}
section
variable {x y : Operand} {k : IntKind} {m l : Int} {t u : TypeId}
theorem Pv.bin {op : BinOp} {v : Value} (hx : ev env x = some (.int k m)) (hy : ev env y = some (.int k l)) (h : ∀ w,(binOp op t (.int k m) (.int k l)).run P w = .ok v w) :
    Pv P n env ⟨some d,.binOp op t x y u,ty,pos,aft,g⟩ v :=
  fun a w he => by simp only [execOp,he.eval hx,he.eval hy,Sem.run_bind,eqGuard_int,Result.andThen_ok,h,Sem.run_pure]
theorem p_add (hx : ev env x = some (.int k m)) (hy : ev env y = some (.int k l)) (hr : k.wrap (m + l) = m + l) : Pv P n env ⟨some d,.binOp .add t x y u,ty,pos,aft,g⟩ (.int k (m + l)) :=
  Pv.bin hx hy fun w => by simp [binOp,Op.intArith,hr]
theorem p_sub (hx : ev env x = some (.int k m)) (hy : ev env y = some (.int k l)) (hr : k.wrap (m - l) = m - l) : Pv P n env ⟨some d,.binOp .sub t x y u,ty,pos,aft,g⟩ (.int k (m - l)) :=
  Pv.bin hx hy fun w => by simp [binOp,Op.intArith,hr]
theorem p_mul (hx : ev env x = some (.int k m)) (hy : ev env y = some (.int k l)) (hr : k.wrap (m * l) = m * l) : Pv P n env ⟨some d,.binOp .mul t x y u,ty,pos,aft,g⟩ (.int k (m * l)) :=
  Pv.bin hx hy fun w => by simp [binOp,Op.intArith,hr]
theorem p_quo {r : Int} (hx : ev env x = some (.int k m)) (hy : ev env y = some (.int k l)) (h0 : l ≠ 0) (hr : k.wrap (m.tdiv l) = r) : Pv P n env ⟨some d,.binOp .quo t x y u,ty,pos,aft,g⟩ (.int k r) :=
  Pv.bin hx hy fun w => by simp [binOp,Op.intDiv,h0,hr]
theorem p_rem {r : Int} (hx : ev env x = some (.int k m)) (hy : ev env y = some (.int k l)) (h0 : l ≠ 0) (hr : m.tmod l = r) : Pv P n env ⟨some d,.binOp .rem t x y u,ty,pos,aft,g⟩ (.int k r) :=
  Pv.bin hx hy fun w => by simp [binOp,Op.intDiv,h0,hr]
theorem p_and (hx : ev env x = some (.int k m)) (hy : ev env y = some (.int k l)) : Pv P n env ⟨some d,.binOp .and t x y u,ty,pos,aft,g⟩ (.int k (k.wrap ((BitVec.ofInt k.bits m &&& BitVec.ofInt k.bits l).toNat : Int))) :=
  Pv.bin hx hy fun w => by simp [binOp,Op.intBits]
theorem p_or (hx : ev env x = some (.int k m)) (hy : ev env y = some (.int k l)) : Pv P n env ⟨some d,.binOp .or t x y u,ty,pos,aft,g⟩ (.int k (k.wrap ((BitVec.ofInt k.bits m ||| BitVec.ofInt k.bits l).toNat : Int))) :=
  Pv.bin hx hy fun w => by simp [binOp,Op.intBits]
theorem p_xor (hx : ev env x = some (.int k m)) (hy : ev env y = some (.int k l)) : Pv P n env ⟨some d,.binOp .xor t x y u,ty,pos,aft,g⟩ (.int k (k.wrap ((BitVec.ofInt k.bits m ^^^ BitVec.ofInt k.bits l).toNat : Int))) :=
  Pv.bin hx hy fun w => by simp [binOp,Op.intBits]
theorem p_eql (hx : ev env x = some (.int k m)) (hy : ev env y = some (.int k l)) : Pv P n env ⟨some d,.binOp .eql t x y u,ty,pos,aft,g⟩ (.bool (decide (m = l))) :=
  Pv.bin hx hy fun w => by simp only [binOp,Op.intCmp,ne_eq,not_true_eq_false,if_false,ibeq,Sem.run_pure]
theorem p_neq (hx : ev env x = some (.int k m)) (hy : ev env y = some (.int k l)) : Pv P n env ⟨some d,.binOp .neq t x y u,ty,pos,aft,g⟩ (.bool (decide (m ≠ l))) :=
  Pv.bin hx hy fun w => by simp only [binOp,Op.intCmp,ne_eq,not_true_eq_false,if_false,ibne,Sem.run_pure]
theorem p_lss (hx : ev env x = some (.int k m)) (hy : ev env y = some (.int k l)) : Pv P n env ⟨some d,.binOp .lss t x y u,ty,pos,aft,g⟩ (.bool (decide (m < l))) :=
  Pv.bin hx hy fun w => by simp [binOp,Op.intCmp]
theorem p_leq (hx : ev env x = some (.int k m)) (hy : ev env y = some (.int k l)) : Pv P n env ⟨some d,.binOp .leq t x y u,ty,pos,aft,g⟩ (.bool (decide (m ≤ l))) :=
  Pv.bin hx hy fun w => by simp [binOp,Op.intCmp]
theorem p_gtr (hx : ev env x = some (.int k m)) (hy : ev env y = some (.int k l)) : Pv P n env ⟨some d,.binOp .gtr t x y u,ty,pos,aft,g⟩ (.bool (decide (m > l))) :=
  Pv.bin hx hy fun w => by simp [binOp,Op.intCmp]
theorem p_geq (hx : ev env x = some (.int k m)) (hy : ev env y = some (.int k l)) : Pv P n env ⟨some d,.binOp .geq t x y u,ty,pos,aft,g⟩ (.bool (decide (m ≥ l))) :=
  Pv.bin hx hy fun w => by simp [binOp,Op.intCmp]
theorem p_shl {yk : IntKind} (hx : ev env x = some (.int k m)) (hy : ev env y = some (.int yk l)) (h0 : 0 ≤ l) : Pv P n env ⟨some d,.binOp .shl t x y u,ty,pos,aft,g⟩ (.int k (k.wrap (m * 2 ^ (min l.toNat k.bits)))) :=
  fun a w he => by simp only [execOp,he.eval hx,he.eval hy,Sem.run_bind,eqGuard_int,Result.andThen_ok,binOp,Op.shift,if_neg (by omega : ¬ l < 0),Sem.run_pure]
theorem p_shr {yk : IntKind} (hx : ev env x = some (.int k m)) (hy : ev env y = some (.int yk l)) (h0 : 0 ≤ l) : Pv P n env ⟨some d,.binOp .shr t x y u,ty,pos,aft,g⟩ (.int k (m.fdiv (2 ^ (min l.toNat k.bits)))) :=
  fun a w he => by simp only [execOp,he.eval hx,he.eval hy,Sem.run_bind,eqGuard_int,Result.andThen_ok,binOp,Op.shift,if_neg (by omega : ¬ l < 0),Sem.run_pure]
theorem p_min2 {ts : Array TypeId} (hx : ev env x = some (.int k m)) (hy : ev env y = some (.int k l)) : Pv P n env ⟨some d,.call { callee := .builtin .min,args := #[x,y],argTypes := ts },ty,pos,aft,g⟩ (.int k (min m l)) :=
  fun a w he => by
    have e : (if l < m then l else m) = min m l := by split <;> omega
    simp [execOp,resolve,invoke,builtin,Builtin.min_,Builtin.min2,he.eval hx,he.eval hy,e]
theorem p_max2 {ts : Array TypeId} (hx : ev env x = some (.int k m)) (hy : ev env y = some (.int k l)) : Pv P n env ⟨some d,.call { callee := .builtin .max,args := #[x,y],argTypes := ts },ty,pos,aft,g⟩ (.int k (max m l)) :=
  fun a w he => by
    have e : (if l > m then l else m) = max m l := by split <;> omega
    simp [execOp,resolve,invoke,builtin,Builtin.max_,Builtin.max2,he.eval hx,he.eval hy,e]
theorem p_conv {k' : IntKind} (ht : P.underlying t ≠ none) (hu : P.underlying u = some (.int k')) (hx : ev env x = some (.int k m)) : Pv P n env ⟨some d,.convert t u x,ty,pos,aft,g⟩ (.int k' (k'.wrap m)) :=
  fun a w he => by
    cases htt : P.underlying t with
    | none => exact absurd htt ht
    | some td => simp [execOp,he.eval hx,convert,run_underlying htt,run_underlying hu,Conv.intToInt]
end
end
end Go.Sx
namespace Go.Sx
open Go
section
variable {P : Program} {c : Cx} {n : Nat} {env : List (Nat × Value)} {G : List Own} {Q : List Pers} {d : Nat} {ty : TypeId} {pos : String} {aft : Array Edge} {g : Option (Nat × Bool)}
section
variable {x y : Operand} {t u : TypeId}
theorem toList_inj (s r : ByteArray) : (s.toList == r.toList) = decide (s = r) := by
  rw [Bool.eq_iff_iff]
  simp only [beq_iff_eq,decide_eq_true_eq]
  constructor
  · intro h
    rw [ByteArray.toList_eq,ByteArray.toList_eq] at h
    cases s; cases r
    exact congrArg ByteArray.mk (Array.toList_inj.1 h)
  · rintro rfl; rfl
theorem p_seql {s r : ByteArray} (hx : ev env x = some (.string s)) (hy : ev env y = some (.string r)) : Pv P n env ⟨some d,.binOp .eql t x y u,ty,pos,aft,g⟩ (.bool (decide (s = r))) :=
  fun a w he => by simp only [execOp,he.eval hx,he.eval hy,eqGuard_string,binOp,Op.stringOp,toList_inj,Sem.run_bind,Result.andThen_ok,Sem.run_pure]
theorem p_sneq {s r : ByteArray} (hx : ev env x = some (.string s)) (hy : ev env y = some (.string r)) : Pv P n env ⟨some d,.binOp .neq t x y u,ty,pos,aft,g⟩ (.bool (!decide (s = r))) :=
  fun a w he => by simp only [execOp,he.eval hx,he.eval hy,eqGuard_string,binOp,Op.stringOp,toList_inj,Sem.run_bind,Result.andThen_ok,Sem.run_pure]
theorem eqIn_bool {t : TypeId} (ht : P.underlying t = some .bool) (e : Nat) (s r : Bool) (w : World) : (Op.equalIn (e + 1) t (.bool s) (.bool r)).run P w = .ok (s == r) w := by
  simp only [Op.equalIn,Sem.run_bind,run_underlying ht,Result.andThen_ok,Sem.run_pure]
theorem eqIn_pnil {t el : TypeId} (ht : P.underlying t = some (.pointer el)) (e : Nat) (p : Option Addr) (w : World) : (Op.equalIn (e + 1) t (.pointer p) (.pointer none)).run P w = .ok p.isNone w := by
  cases p <;> simp only [Op.equalIn,Sem.run_bind,run_underlying ht,Result.andThen_ok,Sem.run_pure,Option.isNone]
theorem eqIn_slnil {t el : TypeId} (ht : P.underlying t = some (.slice el)) (e : Nat) (p : Option Addr) (l cp l' cp' : Nat) (w : World) : (Op.equalIn (e + 1) t (.slice p l cp) (.slice none l' cp')).run P w = .ok p.isNone w := by
  cases p <;> simp only [Op.equalIn,Sem.run_bind,run_underlying ht,Result.andThen_ok,Sem.run_pure,Option.isNone]
theorem eqIn_mapnil {t ke el : TypeId} (ht : P.underlying t = some (.map ke el)) (e : Nat) (p : Option Nat) (w : World) : (Op.equalIn (e + 1) t (.map p) (.map none)).run P w = .ok p.isNone w := by
  cases p <;> simp only [Op.equalIn,Sem.run_bind,run_underlying ht,Result.andThen_ok,Sem.run_pure,Option.isNone]
theorem eqGuard_map {op : BinOp} {t : TypeId} {x y : Operand} {b : Option Nat} {v : Value} (w : World) : (eqGuard op t x y (.map b) v).run P w = .ok () w := by
  unfold eqGuard
  cases op <;> simp
theorem run_equal {t : TypeId} {x y : Value} {b : Bool} {w : World} (h : ∀ e,(Op.equalIn (e + 1) t x y).run P w = .ok b w) : (Op.equal t x y).run P w = .ok b w := h 9999
theorem p_beql {s r : Bool} (ht : P.underlying t = some .bool) (hx : ev env x = some (.bool s)) (hy : ev env y = some (.bool r)) : Pv P n env ⟨some d,.binOp .eql t x y u,ty,pos,aft,g⟩ (.bool (s == r)) :=
  fun a w he => by simp only [execOp,he.eval hx,he.eval hy,eqGuard_bool,binOp,Sem.run_bind,Result.andThen_ok,run_equal (fun e => eqIn_bool ht e s r w),Sem.run_pure]
theorem p_bneq {s r : Bool} (ht : P.underlying t = some .bool) (hx : ev env x = some (.bool s)) (hy : ev env y = some (.bool r)) : Pv P n env ⟨some d,.binOp .neq t x y u,ty,pos,aft,g⟩ (.bool (!(s == r))) :=
  fun a w he => by simp only [execOp,he.eval hx,he.eval hy,eqGuard_bool,binOp,Sem.run_bind,Result.andThen_ok,run_equal (fun e => eqIn_bool ht e s r w),Sem.run_pure]
theorem p_pnil_eql {p : Option Addr} {el : TypeId} (ht : P.underlying t = some (.pointer el)) (hx : ev env x = some (.pointer p)) (hy : ev env y = some (.pointer none)) : Pv P n env ⟨some d,.binOp .eql t x y u,ty,pos,aft,g⟩ (.bool p.isNone) :=
  fun a w he => by simp only [execOp,he.eval hx,he.eval hy,eqGuard_pointer,binOp,Sem.run_bind,Result.andThen_ok,run_equal (fun e => eqIn_pnil ht e p w),Sem.run_pure]
theorem p_pnil_neq {p : Option Addr} {el : TypeId} (ht : P.underlying t = some (.pointer el)) (hx : ev env x = some (.pointer p)) (hy : ev env y = some (.pointer none)) : Pv P n env ⟨some d,.binOp .neq t x y u,ty,pos,aft,g⟩ (.bool (!p.isNone)) :=
  fun a w he => by simp only [execOp,he.eval hx,he.eval hy,eqGuard_pointer,binOp,Sem.run_bind,Result.andThen_ok,run_equal (fun e => eqIn_pnil ht e p w),Sem.run_pure]
theorem p_slnil_eql {p : Option Addr} {l cp l' cp' : Nat} {el : TypeId} (ht : P.underlying t = some (.slice el)) (hx : ev env x = some (.slice p l cp)) (hy : ev env y = some (.slice none l' cp')) : Pv P n env ⟨some d,.binOp .eql t x y u,ty,pos,aft,g⟩ (.bool p.isNone) :=
  fun a w he => by simp only [execOp,he.eval hx,he.eval hy,eqGuard_slice,binOp,Sem.run_bind,Result.andThen_ok,run_equal (fun e => eqIn_slnil ht e p l cp l' cp' w),Sem.run_pure]
theorem p_slnil_neq {p : Option Addr} {l cp l' cp' : Nat} {el : TypeId} (ht : P.underlying t = some (.slice el)) (hx : ev env x = some (.slice p l cp)) (hy : ev env y = some (.slice none l' cp')) : Pv P n env ⟨some d,.binOp .neq t x y u,ty,pos,aft,g⟩ (.bool (!p.isNone)) :=
  fun a w he => by simp only [execOp,he.eval hx,he.eval hy,eqGuard_slice,binOp,Sem.run_bind,Result.andThen_ok,run_equal (fun e => eqIn_slnil ht e p l cp l' cp' w),Sem.run_pure]
theorem p_mapnil_neq {p : Option Nat} {ke el : TypeId} (ht : P.underlying t = some (.map ke el)) (hx : ev env x = some (.map p)) (hy : ev env y = some (.map none)) : Pv P n env ⟨some d,.binOp .neq t x y u,ty,pos,aft,g⟩ (.bool (!p.isNone)) :=
  fun a w he => by simp only [execOp,he.eval hx,he.eval hy,eqGuard_map,binOp,Sem.run_bind,Result.andThen_ok,run_equal (fun e => eqIn_mapnil ht e p w),Sem.run_pure]
end
end
end Go.Sx
namespace Go.Sx
open Go
section
variable {P : Program} {c : Cx} {n : Nat} {env : List (Nat × Value)} {G : List Own} {Q : List Pers} {d : Nat} {ty : TypeId} {pos : String} {aft : Array Edge} {g : Option (Nat × Bool)}
def fieldOff (P : Program) (t : TypeId) (i : Nat) : Option Nat :=
  match P.underlying t with
  | some (.struct fs) => match fs[i]? with
    | some f => match P.info? f.type with
      | some ti => if ti.size = 0 then none else some f.offset
      | none => none
    | none => none
  | _ => none
def aggB (P : Program) (t : TypeId) : Option Bool :=
  match P.underlying t with
  | some (.struct _) | some (.array _ _) => some true
  | some _ => some false
  | none => none
def sizeB (P : Program) (t : TypeId) : Option Nat := (P.info? t).map (·.size)
def zeroB (P : Program) (t : TypeId) : Option Value := (P.info? t).bind (·.zero)
theorem run_aggB {t : TypeId} {b : Bool} (h : aggB P t = some b) (w : World) : (isAgg t).run P w = .ok b w := by
  unfold aggB at h
  unfold isAgg
  cases hu : P.underlying t with
  | none => simp [hu] at h
  | some u => cases u <;> simp [hu] at h <;> subst h <;> simp [run_underlying hu]
theorem run_sizeB {t : TypeId} {m : Nat} (h : sizeB P t = some m) (w : World) : (sizeOf t).run P w = .ok m w := by
  unfold sizeB at h
  obtain ⟨i,hi,rfl⟩ := Option.map_eq_some_iff.1 h
  simp [sizeOf,typeInfo,hi]
theorem run_zeroB {t : TypeId} {z : Value} (h : zeroB P t = some z) (w : World) : (zeroValue t).run P w = .ok z w := by
  unfold zeroB at h
  obtain ⟨i,hi,hz⟩ := Option.bind_eq_some_iff.1 h
  simp [zeroValue,typeInfo,hi,hz]
end
end Go.Sx
namespace Go.Sx
open Go
section
variable {P : Program} {c : Cx} {n : Nat} {env : List (Nat × Value)} {G : List Own} {Q : List Pers} {d : Nat} {ty : TypeId} {pos : String} {aft : Array Edge} {g : Option (Nat × Bool)}
section
variable {x y : Operand} {t u : TypeId}
theorem run_fieldAt {a : Addr} {i off : Nat} (h : fieldOff P t i = some off) (w : World) : (Instr.fieldAt t (.pointer (some a)) i).run P w = .ok (.pointer (some (a.add off))) w := by
  unfold fieldOff at h
  cases hu : P.underlying t with
  | none => simp [hu] at h
  | some td =>
    cases td <;> simp [hu] at h
    rename_i fs
    cases hf : fs[i]? with
    | none => simp [hf] at h
    | some f =>
      cases hi : P.info? f.type with
      | none => simp [hf,hi] at h
      | some ti =>
        simp [hf,hi] at h
        obtain ⟨h0,rfl⟩ := h
        simp [Instr.fieldAt,run_underlying hu,hf,Instr.sureAddr,fieldPlace,sizeOf,typeInfo,hi,h0]
theorem p_fieldAddr {b o off : Nat} {i : Nat} (hf : fieldOff P t i = some off) (hx : ev env x = some (.pointer (some ⟨b,o,none⟩))) : Pv P n env ⟨some d,.fieldAddr t x i,ty,pos,aft,g⟩ (.pointer (some ⟨b,o + off,none⟩)) :=
  fun a w he => by simp [execOp,he.eval hx,run_fieldAt hf,add_lit]
theorem p_fieldAddr' {p : Addr} {j off : Nat} {i : Nat} (hf : fieldOff P t i = some off) (hx : ev env x = some (.pointer (some (p.add j)))) : Pv P n env ⟨some d,.fieldAddr t x i,ty,pos,aft,g⟩ (.pointer (some (p.add (j + off)))) :=
  fun a w he => by simp [execOp,he.eval hx,run_fieldAt hf,add_add]
theorem p_len {A : Option Addr} {l cp : Nat} {e : TypeId} (ht : P.underlying t = some (.slice e)) (hx : ev env x = some (.slice A l cp)) : Pv P n env ⟨some d,.call { callee := .builtin .len,args := #[x],argTypes := #[t] },ty,pos,aft,g⟩ (.int .i64 (l : Int)) :=
  fun a w he => by simp [execOp,resolve,invoke,builtin,Builtin.len_,he.eval hx,run_underlying ht,goInt]
end
end
end Go.Sx
namespace Go.Sx
open Go
section
variable {P : Program} {c : Cx} {n : Nat} {env : List (Nat × Value)} {G : List Own} {Q : List Pers} {d : Nat} {ty : TypeId} {pos : String} {aft : Array Edge} {g : Option (Nat × Bool)}
section
variable {x y : Operand} {t u : TypeId}
theorem part_one {t : TypeId} {l : List Value} {o : Nat} {v : Value} (hg : aggB P t = some false) (h : nth l o = some v) (w : World) : (part t l.toArray o).run P w = .ok v w := by
  rw [nth_eq] at h
  simp [part,run_aggB hg,h]
end
end
end Go.Sx
namespace Go.Sx
open Go
section
variable {P : Program} {c : Cx} {n : Nat} {env : List (Nat × Value)} {G : List Own} {Q : List Pers} {d : Nat} {ty : TypeId} {pos : String} {aft : Array Edge} {g : Option (Nat × Bool)}
def vcells : Value → List Value
  | .agg cs => cs.toList
  | v => [v]
theorem vcells_eq (v : Value) : v.cells.toList = vcells v := by cases v <;> rfl
def nthP : List (Nat × Nat) → Nat → Option (Nat × Nat)
  | [],_ => none
  | x :: _,0 => some x
  | _ :: r,n + 1 => nthP r n
theorem nthP_eq : ∀ (l : List (Nat × Nat)) (n : Nat),nthP l n = l[n]?
  | [],n => by simp [nthP]
  | x :: r,0 => rfl
  | x :: r,n + 1 => by simp [nthP,nthP_eq r n]
def fillF (place : Nat → Option (Nat × Nat)) : List Value → List (Nat × Value) → Option (List Value)
  | z,[] => some z
  | z,(i,v) :: r => match place i with
    | none => none
    | some (o,s) => bif Nat.beq (vcells v).length s then (match upd z o (vcells v) with
      | none => none
      | some z' => fillF place z' r) else none
def fillL (z : List Value) (offs : List (Nat × Nat)) (parts : List (Nat × Value)) : Option (List Value) := fillF (nthP offs) z parts
theorem foldl_set (off : Nat) : ∀ (vs : List Value) (j : Nat) (cs : List Value),off + j + vs.length ≤ cs.length →
    ((vs.zipIdx j).foldl (fun (cs : Array Value) (p : Value × Nat) => cs.setIfInBounds (off + p.2) p.1) cs.toArray) = (cs.take (off + j) ++ vs ++ cs.drop (off + j + vs.length)).toArray
  | [],j,cs,h => by simp
  | v :: vs,j,cs,h => by
    simp only [List.zipIdx_cons,List.foldl_cons]
    rw [show cs.toArray.setIfInBounds (off + j) v = (cs.set (off + j) v).toArray by simp]
    rw [foldl_set off vs (j + 1) _ (by simp at h ⊢; omega)]
    congr 1
    apply List.ext_getElem?
    intro i
    simp only [List.length_cons] at h
    have h1 : (cs.set (off + j) v).take (off + (j + 1)) = cs.take (off + j) ++ [v] := by
      rw [show off + (j + 1) = off + j + 1 by omega,List.take_succ_eq_append_getElem (by simp; omega)]
      simp [List.take_set_of_le]
    have h2 : (cs.set (off + j) v).drop (off + (j + 1) + vs.length) = cs.drop (off + j + (v :: vs).length) := by
      rw [List.drop_set_of_lt (by omega)]
      congr 1
      simp
      omega
    rw [h1,h2]
    simp
theorem fill_fillF (place : Nat → Option (Nat × Nat)) : ∀ (parts : List (Nat × Value)) (z l : List Value),fillF place z parts = some l → Instr.fill place z.toArray parts = some l.toArray
  | [],z,l,h => by simp only [fillF,Option.some.injEq] at h; subst h; rfl
  | (i,v) :: r,z,l,h => by
    simp only [fillF] at h
    simp only [Instr.fill]
    cases ho : place i with
    | none => simp [ho] at h
    | some os =>
      obtain ⟨o,s⟩ := os
      simp only [ho] at h ⊢
      cases hb : Nat.beq (vcells v).length s with
      | false => simp [hb] at h
      | true =>
        rw [hb] at h
        simp only [cond_true] at h
        have hlen : v.cells.size = s := by rw [← Array.length_toList,vcells_eq]; exact Nat.eq_of_beq_eq_true hb
        cases hu : upd z o (vcells v) with
        | none => simp [hu] at h
        | some z' =>
          simp only [hu] at h
          obtain ⟨hz',hfit⟩ := upd_eq hu
          have hsz : v.cells.size = (vcells v).length := by rw [← Array.length_toList,vcells_eq]
          rw [if_neg (by simp [hlen]; omega)]
          have hf := foldl_set o (vcells v) 0 z (by omega)
          have : v.cells.zipIdx.foldl (fun cs (c,j) => cs.setIfInBounds (o + j) c) z.toArray = z'.toArray := by
            rw [← Array.foldl_toList,Array.toList_zipIdx,vcells_eq,hz']
            simpa using hf
          rw [this]
          exact fill_fillF place r z' l h
theorem fill_fillL (offs : List (Nat × Nat)) (place : Nat → Option (Nat × Nat)) (hp : ∀ i,place i = offs[i]?) (parts : List (Nat × Value)) (z l : List Value) (h : fillL z offs parts = some l) : Instr.fill place z.toArray parts = some l.toArray := by
  have : place = nthP offs := funext fun i => by rw [hp,nthP_eq]
  rw [this]
  exact fill_fillF _ _ _ _ h
def norm : List Value → Option (List Value)
  | [] => some []
  | x :: r => (norm r).map (x :: ·)
theorem norm_eq : ∀ {l l' : List Value},norm l = some l' → l' = l
  | [],l',h => by simp only [norm,Option.some.injEq] at h; exact h.symm
  | x :: r,l',h => by
    simp only [norm,Option.map_eq_some_iff] at h
    obtain ⟨m,hm,rfl⟩ := h
    rw [norm_eq hm]
def reps (z : List Value) : Nat → List Value
  | 0 => []
  | n + 1 => z ++ reps z n
theorem reps_length (z : List Value) : ∀ n,(reps z n).length = n * z.length
  | 0 => by simp [reps]
  | n + 1 => by rw [reps,List.length_append,reps_length z n,Nat.add_mul]; omega
theorem reps_get (z : List Value) (hz : 0 < z.length) : ∀ n i,i < n * z.length → (reps z n)[i]? = z[i % z.length]?
  | 0,i,h => by simp at h
  | n + 1,i,h => by
    rw [reps]
    by_cases hi : i < z.length
    · rw [List.getElem?_append_left hi,Nat.mod_eq_of_lt hi]
    · rw [List.getElem?_append_right (by omega),reps_get z hz n _ (by rw [Nat.add_mul] at h; omega)]
      congr 1
      rw [← Nat.mod_eq_sub_mod (by omega)]
def offsB (P : Program) (t : TypeId) : Option (List (Nat × Nat)) :=
  match P.underlying t with
  | some (.struct fs) => fs.toList.mapM fun f => (P.info? f.type).map fun i => (f.offset,i.size)
  | _ => none
def zeroL (P : Program) (t : TypeId) : Option (List Value) := (zeroB P t).map vcells
theorem run_build' {t : TypeId} {z l : List Value} {offs : List (Nat × Nat)} {parts : List (Nat × Value)} (hz : zeroL P t = some z) (ho : offsB P t = some offs) (hf : fillL z offs parts = some l) (w : World) :
    (Instr.build t parts.toArray).run P w = .ok (.agg l.toArray) w := by
  unfold zeroL at hz
  obtain ⟨zv,hzv,rfl⟩ := Option.map_eq_some_iff.1 hz
  unfold offsB at ho
  cases hu : P.underlying t with
  | none => simp [hu] at ho
  | some td =>
    cases td <;> simp [hu] at ho
    rename_i fs
    have hpl : (fs.mapM fun f => do pure (f.offset,← sizeOf f.type) : Sem (Array (Nat × Nat))).run P w = .ok offs.toArray w := by
      rw [← Array.toArray_toList (xs := fs)] 
      simp only [List.mapM_toArray,Sem.run_map]
      have key : ∀ (l : List Field) (offs : List (Nat × Nat)),l.mapM (fun f => (P.info? f.type).map fun i => (f.offset,i.size)) = some offs → (l.mapM fun f => do pure (f.offset,← sizeOf f.type) : Sem (List (Nat × Nat))).run P w = .ok offs w := fun l offs h => run_places w l offs h
      rw [key fs.toList offs (by simpa using ho)]
      rfl
    have hfill : Instr.fill (fun i => offs.toArray[i]?) zv.cells parts = some l.toArray := by
      have := fill_fillL offs (fun i => offs.toArray[i]?) (fun i => by simp) parts (vcells zv) l hf
      rwa [← vcells_eq,Array.toArray_toList] at this
    simp only [Instr.build,Sem.run_bind,run_zeroB hzv,Result.andThen_ok,run_underlying hu,hpl,hfill,Sem.run_pure]
def evP (env : List (Nat × Value)) : List (Nat × Operand) → Option (List (Nat × Value))
  | [] => some []
  | (i,x) :: r => match ev env x,evP env r with
    | some v,some vs => some ((i,v) :: vs)
    | _,_ => none
theorem Env.evPs {a : Act} (h : Env n env a) : ∀ {xs : List (Nat × Operand)} {vs : List (Nat × Value)},evP env xs = some vs → xs.map (fun p => (p.1,a.eval p.2)) = vs
  | [],vs,hx => by simp only [evP,Option.some.injEq] at hx; subst hx; rfl
  | (i,x) :: r,vs,hx => by
    simp only [evP] at hx
    split at hx
    · rename_i v ws h1 h2
      simp only [Option.some.injEq] at hx
      subst hx
      simp [h.eval h1,Env.evPs h h2]
    · cases hx
theorem p_build {t : TypeId} {ps : List (Nat × Operand)} {z l : List Value} {offs : List (Nat × Nat)} {parts : List (Nat × Value)} (hz : zeroL P t = some z) (ho : offsB P t = some offs) (hp : evP env ps = some parts) (hf : fillL z offs parts = some l) : Pv P n env ⟨some d,.build t ps.toArray,ty,pos,aft,g⟩ (.agg l.toArray) :=
  fun a w he => by
    have : (ps.toArray.map fun (p : Nat × Operand) => (p.1,a.eval p.2)) = parts.toArray := by rw [List.map_toArray,he.evPs hp]
    simp only [execOp,this,Sem.run_bind,run_build' hz ho hf,Result.andThen_ok,Sem.run_pure]
end
end Go.Sx
namespace Go.Sx
open Go
def nthO {α : Type} : List α → Nat → Option α
  | [],_ => none
  | x :: _,0 => some x
  | _ :: r,n + 1 => nthO r n
theorem nthO_mem {α : Type} : ∀ {l : List α} {i : Nat} {x : α},nthO l i = some x → x ∈ l
  | [],i,x,h => by simp [nthO] at h
  | y :: r,0,x,h => by simp only [nthO,Option.some.injEq] at h; subst h; exact List.mem_cons_self
  | y :: r,i + 1,x,h => List.mem_cons_of_mem _ (nthO_mem (l := r) (i := i) h)
def repl {α : Type} : List α → Nat → α → Option (List α)
  | [],_,_ => none
  | _ :: r,0,x => some (x :: r)
  | y :: r,i + 1,x => (repl r i x).map (y :: ·)
theorem repl_split {α : Type} : ∀ {l l' : List α} {i : Nat} {x y : α},nthO l i = some x → repl l i y = some l' → ∃ a b,l = a ++ x :: b ∧ l' = a ++ y :: b
  | [],l',i,x,y,h,_ => by simp [nthO] at h
  | z :: r,l',0,x,y,h,h' => by
    simp only [nthO,Option.some.injEq] at h
    simp only [repl,Option.some.injEq] at h'
    exact ⟨[],r,by simp [h],by simp [← h']⟩
  | z :: r,l',i + 1,x,y,h,h' => by
    simp only [repl,Option.map_eq_some_iff] at h'
    obtain ⟨m,hm,rfl⟩ := h'
    obtain ⟨a,b,rfl,rfl⟩ := repl_split (l := r) (i := i) h hm
    exact ⟨z :: a,b,rfl,rfl⟩
def takeO {α : Type} : List α → Nat → Option (α × List α)
  | [],_ => none
  | x :: r,0 => some (x,r)
  | y :: r,i + 1 => (takeO r i).map fun p => (p.1,y :: p.2)
theorem takeO_perm {α : Type} : ∀ {l r : List α} {i : Nat} {x : α},takeO l i = some (x,r) → l.Perm (x :: r)
  | [],r,i,x,h => by simp [takeO] at h
  | y :: t,r,0,x,h => by simp only [takeO,Option.some.injEq,Prod.mk.injEq] at h; obtain ⟨rfl,rfl⟩ := h; exact .refl _
  | y :: t,r,i + 1,x,h => by
    simp only [takeO,Option.map_eq_some_iff] at h
    obtain ⟨⟨z,s⟩,hs,he⟩ := h
    simp only [Prod.mk.injEq] at he
    obtain ⟨rfl,rfl⟩ := he
    exact ((takeO_perm hs).cons y).trans (.swap _ _ _)
def sel {α : Type} : List α → List Nat → Option (List α × List α)
  | l,[] => some ([],l)
  | l,i :: is => match takeO l i with
    | none => none
    | some (x,r) => (sel r is).map fun p => (x :: p.1,p.2)
theorem sel_perm {α : Type} : ∀ {is : List Nat} {l a b : List α},sel l is = some (a,b) → l.Perm (a ++ b)
  | [],l,a,b,h => by simp only [sel,Option.some.injEq,Prod.mk.injEq] at h; obtain ⟨rfl,rfl⟩ := h; exact .refl _
  | i :: is,l,a,b,h => by
    simp only [sel] at h
    cases ht : takeO l i with
    | none => simp [ht] at h
    | some p =>
      obtain ⟨x,r⟩ := p
      simp only [ht,Option.map_eq_some_iff] at h
      obtain ⟨⟨a',b'⟩,hs,he⟩ := h
      simp only [Prod.mk.injEq] at he
      obtain ⟨rfl,rfl⟩ := he
      exact (takeO_perm ht).trans ((sel_perm hs).cons x)
def pickQ {α : Type} (l : List α) : List Nat → Option (List α)
  | [] => some []
  | i :: is => match nthO l i,pickQ l is with
    | some x,some r => some (x :: r)
    | _,_ => none
theorem pickQ_mem {α : Type} {l : List α} : ∀ {is : List Nat} {r : List α},pickQ l is = some r → ∀ x ∈ r,x ∈ l
  | [],r,h => by simp only [pickQ,Option.some.injEq] at h; subst h; simp
  | i :: is,r,h => by
    simp only [pickQ] at h
    split at h
    · rename_i x s h1 h2
      simp only [Option.some.injEq] at h
      subst h
      intro y hy
      rcases List.mem_cons.1 hy with rfl | hy
      · exact nthO_mem h1
      · exact pickQ_mem h2 y hy
    · cases h
theorem mem_keys_split {a b : List Own} {x : Own} {k : Nat} : k ∈ keysOf (a ++ x :: b) ↔ k ∈ keysOf a ∨ k ∈ x.keys ∨ k ∈ keysOf b := by simp [keysOf]
theorem Heap.write {S : Blocks} {G G' : List Own} {Q : List Pers} {w w' : World} {i : Nat} {o o' : Own} (h : Heap S G Q w) (hi : nthO G i = some o) (hr : repl G i o' = some G')
    (hf : Fr o.keys w w') (ho : o'.holds w') (hfresh : ∀ k ∈ o'.keys,k ∈ o.keys ∨ w.heap.size ≤ k) (hn : o'.keys.Nodup) : Heap (fun k => S k ∧ k ∉ o'.keys) G' Q w' := by
  obtain ⟨a,b,rfl,rfl⟩ := repl_split hi hr
  have hn0 : (keysOf a ++ (o.keys ++ keysOf b)).Nodup := by have := h.nod; simpa [keysOf] using this
  rw [List.nodup_append] at hn0
  obtain ⟨na,nob,dab⟩ := hn0
  rw [List.nodup_append] at nob
  obtain ⟨no,nb,dob⟩ := nob
  have lta : ∀ k ∈ keysOf a,k < w.heap.size := fun k hk => h.lt (mem_keys_split.2 (.inl hk))
  have ltb : ∀ k ∈ keysOf b,k < w.heap.size := fun k hk => h.lt (mem_keys_split.2 (.inr (.inr hk)))
  have naO : ∀ k ∈ keysOf a,k ∉ o.keys := fun k hk ho => dab k hk k (List.mem_append_left _ ho) rfl
  have nbO : ∀ k ∈ keysOf b,k ∉ o.keys := fun k hk ho => dob k ho k hk rfl
  have other : ∀ k,k ∈ keysOf a ∨ k ∈ keysOf b → k ∉ o'.keys := by
    intro k hk ho'
    have hlt : k < w.heap.size := hk.elim (lta k) (ltb k)
    rcases hfresh k ho' with h1 | h1
    · exact hk.elim (fun x => naO k x h1) (fun x => nbO k x h1)
    · omega
  constructor
  · intro x hx
    rcases List.mem_append.1 hx with hx | hx
    · exact Own.move (h.own x (by simp [hx])) fun k hkk => hf.block k (Own.lt (h.own x (by simp [hx])) hkk) (naO k (mem_keysOf.2 ⟨x,hx,hkk⟩))
    · rcases List.mem_cons.1 hx with rfl | hx
      · exact ho
      · exact Own.move (h.own x (by simp [hx])) fun k hkk => hf.block k (Own.lt (h.own x (by simp [hx])) hkk) (nbO k (mem_keysOf.2 ⟨x,hx,hkk⟩))
  · have : (keysOf a ++ (o'.keys ++ keysOf b)).Nodup := by
      rw [List.nodup_append]
      refine ⟨na,?_,fun k hk l hl e => ?_⟩
      · rw [List.nodup_append]
        exact ⟨hn,nb,fun k hk l hl e => other l (.inr hl) (e ▸ hk)⟩
      · subst e
        rcases List.mem_append.1 hl with hl | hl
        · exact other k (.inl hk) hl
        · exact dab k hk k (List.mem_append_right _ hl) rfl
    simpa [keysOf] using this
  · intro k hkk hS
    rcases mem_keys_split.1 hkk with hkk | hkk | hkk
    · exact h.out k (mem_keys_split.2 (.inl hkk)) hS.1
    · exact hS.2 hkk
    · exact h.out k (mem_keys_split.2 (.inr (.inr hkk))) hS.1
  · intro q hq
    refine q.st (h.per q hq) fun k hS hlt => ?_
    have hno : k ∉ o.keys := fun hko => h.out k (mem_keys_split.2 (.inr (.inl hko))) hS
    refine ⟨⟨hS,fun hko' => ?_⟩,hf.block k hlt hno⟩
    rcases hfresh k hko' with h1 | h1
    · exact hno h1
    · omega
theorem Rel.step {c : Cx} {S S' : Blocks} {G G' : List Own} {w w' : World} {L : List Nat} (h : Rel c S G w) (hf : Fr L w w') (hL : ∀ k ∈ L,k ∈ keysOf G)
    (hS : ∀ k,k < w.heap.size → k ∉ L → (S' k ↔ S k)) (hG : ∀ k ∈ keysOf G',k ∈ keysOf G ∨ w.heap.size ≤ k) : Rel c S' G' w' := by
  have key : ∀ k,k < c.w0.heap.size → k ∉ c.L0 → k ∉ L := fun k hlt hn hl => by
    rcases h.key k (hL k hl) with h1 | h1
    · exact hn h1
    · omega
  have le := h.fr.size
  exact {
    fr := ⟨hf.os.trans h.fr.os,hf.tape.trans h.fr.tape,hf.output.trans h.fr.output,Nat.le_trans le hf.size,fun k hlt hn => (hf.block k (by omega) (key k hlt hn)).trans (h.fr.block k hlt hn)⟩
    old := fun k hlt hn => (hS k (by omega) (key k hlt hn)).trans (h.old k hlt hn)
    key := fun k hk => by
      rcases hG k hk with h1 | h1
      · exact h.key k h1
      · exact .inr (by omega) }
end Go.Sx
namespace Go.Sx
open Go
section
variable {P : Program} {c : Cx} {n : Nat} {env env' : List (Nat × Value)} {G G' : List Own} {Q : List Pers} {a a' : Act} {w w' : World}
theorem St.write {i : Nat} {o o' : Own} (h : St c n env G Q a w) (hi : nthO G i = some o) (hr : repl G i o' = some G')
    (hf : Fr o.keys w w') (ho : o'.holds w') (hk : ∀ k ∈ o'.keys,k ∈ o.keys ∨ w.heap.size ≤ k) (hn : o'.keys.Nodup) (he : EnvD c.D n env' a') : St c n env' G' Q a' w' := by
  obtain ⟨S,_,hh,hrel⟩ := h
  refine ⟨fun k => S k ∧ k ∉ o'.keys,he,hh.write hi hr hf ho hk hn,?_⟩
  have hin : ∀ k ∈ o.keys,k ∈ keysOf G := fun k hko => mem_keysOf.2 ⟨o,nthO_mem hi,hko⟩
  refine hrel.step hf hin (fun k hlt hko => ⟨fun hs => hs.1,fun hs => ⟨hs,fun hko' => ?_⟩⟩) fun k hkk => ?_
  · rcases hk k hko' with h1 | h1
    · exact hko h1
    · omega
  · obtain ⟨x,y,rfl,rfl⟩ := repl_split hi hr
    rcases mem_keys_split.1 hkk with h1 | h1 | h1
    · exact .inl (mem_keys_split.2 (.inl h1))
    · exact (hk k h1).imp (fun h2 => mem_keys_split.2 (.inr (.inl h2))) id
    · exact .inl (mem_keys_split.2 (.inr (.inr h1)))
theorem St.new (h : St c n env G Q a w) (o : Obj) (he : EnvD c.D n env' a') : St c n env' (.blk w.heap.size o :: G) Q a' (w.alloc o) := by
  obtain ⟨S,_,hh,hrel⟩ := h
  refine ⟨_,he,hh.alloc o,hrel.step (Fr.alloc [] w o) (by simp) (fun k hlt _ => ⟨fun hs => hs.1,fun hs => ⟨hs,Nat.ne_of_lt hlt⟩⟩) fun k hk => ?_⟩
  rcases List.mem_cons.1 (show k ∈ w.heap.size :: keysOf G from hk) with rfl | hk
  · exact .inr (Nat.le_refl _)
  · exact .inl hk
theorem St.keep (h : St c n env G Q a w) (hf : Fr [] w w') (he : EnvD c.D n env' a') : St c n env' G Q a' w' := by
  obtain ⟨S,_,hh,hrel⟩ := h
  exact ⟨S,he,hh.move fun k hlt _ => hf.block k hlt (by simp),hrel.step hf (by simp) (fun _ _ _ => Iff.rfl) fun k hk => .inl hk⟩
theorem St.en (h : St c n env G Q a w) : EnvD c.D n env a := by obtain ⟨S,he,_⟩ := h; exact he
theorem St.own {i : Nat} {o : Own} (h : St c n env G Q a w) (hi : nthO G i = some o) : o.holds w := by obtain ⟨S,he,hh,_⟩ := h; exact hh.own o (nthO_mem hi)
theorem St.per {i : Nat} {q : Pers} (h : St c n env G Q a w) (hi : nthO Q i = some q) : ∃ S,q.h w S := by obtain ⟨S,he,hh,_⟩ := h; exact ⟨S,hh.per q (nthO_mem hi)⟩
end
end Go.Sx
namespace Go.Sx
open Go
section
variable {P : Program} {c : Cx} {n : Nat} {env : List (Nat × Value)} {G : List Own} {Q : List Pers} {d : Nat} {ty : TypeId} {pos : String} {aft : Array Edge} {g : Option (Nat × Bool)} {x y : Operand} {t : TypeId}
theorem t_alloc {z : List Value} (hd : Nat.blt d n = true) (hz : zeroL P t = some z) : Tr P ⟨some d,.alloc t,ty,pos,aft,g⟩ (St c n env G Q)
    (fun a w => ∃ b,St c n ((d,.pointer (some ⟨b,0,none⟩)) :: env) (.cells b z t :: G) Q a w) := by
  intro a w h K R hk
  obtain ⟨zv,hzv,rfl⟩ := Option.map_eq_some_iff.1 hz
  have hrun : (execOp a.eval ⟨some d,.alloc t,ty,pos,aft,g⟩).run P w = .ok (.value (.pointer (some ⟨w.heap.size,0,none⟩))) (w.alloc (.cells (vcells zv).toArray t (0,0))) := by
    have e : (vcells zv).toArray = zv.cells := by rw [← vcells_eq]
    rw [e]
    simp [execOp,Instr.alloc,run_zeroB hzv,newVar,newRow]
  unfold Oper.wp
  rw [hrun]
  exact hk _ _ ⟨w.heap.size,h.new _ (h.en.put hd _)⟩
theorem t_box {v : Value} {l : List Value} (hd : Nat.blt d n = true) (hx : ev env x = some v) (hv : v.cells.toList = l) : Tr P ⟨some d,.box t x,ty,pos,aft,g⟩ (St c n env G Q)
    (fun a w => ∃ b,St c n ((d,.pointer (some ⟨b,0,none⟩)) :: env) (.cells b l t :: G) Q a w) := by
  intro a w h K R hk
  have hrun : (execOp a.eval ⟨some d,.box t x,ty,pos,aft,g⟩).run P w = .ok (.value (.pointer (some ⟨w.heap.size,0,none⟩))) (w.alloc (.cells l.toArray t (0,0))) := by
    have e : l.toArray = v.cells := by rw [← hv]
    rw [e]
    simp [execOp,h.en.eval hx,Instr.box,newVar,newRow]
  unfold Oper.wp
  rw [hrun]
  exact hk _ _ ⟨w.heap.size,h.new _ (h.en.put hd _)⟩
theorem run_loadVar_one {p : Addr} {v : Value} (hg : aggB P t = some false) {w : World} (hc : w.cell? p = some v) : (loadVar t p).run P w = .ok v w := by
  simp [loadVar,run_aggB hg,hc]
theorem run_loadVar_agg {p : Addr} {vs : List Value} (hg : aggB P t = some true) (hs : sizeB P t = some vs.length) {w : World} (hc : CellsAt w p vs) : (loadVar t p).run P w = .ok (.agg vs.toArray) w := by
  simp only [loadVar,Sem.run_bind,run_aggB hg,Result.andThen_ok,if_true,run_sizeB hs,run_loadCells_list w p vs hc,Sem.run_pure]
theorem Tr.load {p : Addr} {v : Value} (hd : Nat.blt d n = true) (hx : ev env x = some (.pointer (some p))) (h : ∀ a w,St c n env G Q a w → (loadVar t p).run P w = .ok v w) : Tr P ⟨some d,.load t x,ty,pos,aft,g⟩ (St c n env G Q) (St c n ((d,v) :: env) G Q) := by
  intro a w hs K R hk
  have hrun : (execOp a.eval ⟨some d,.load t x,ty,pos,aft,g⟩).run P w = .ok (.value v) w := by
    simp only [execOp,hs.en.eval hx,Instr.loadAt,Instr.sureAddr,Sem.run_bind,Sem.run_pure,Result.andThen_ok,h a w hs]
  unfold Oper.wp
  rw [hrun]
  exact hk _ _ (hs.keep (Fr.refl _ _) (hs.en.put hd _))
theorem Fr.setRow (w : World) (b : Nat) (cs : Array Value) : Fr [b] w (w.setRow b cs) :=
  ⟨rfl,rfl,rfl,by simp,fun k hk hn => setRow_other w b k cs (by simpa using hn)⟩
theorem Tr.store {i b o : Nat} {l l' vs : List Value} {e : TypeId} {v : Value} {G' : List Own} (hi : nthO G i = some (.cells b l e)) (hx : ev env x = some (.pointer (some ⟨b,o,none⟩))) (hy : ev env y = some v) (hv : v.cells.toList = vs) (hs : sizeB P t = some vs.length) (h1 : allOne vs = true)
    (hu : upd l o vs = some l') (hr : repl G i (.cells b l' e) = some G') : Tr P ⟨none,.store t x y,ty,pos,aft,g⟩ (St c n env G Q) (St c n env G' Q) := by
  intro a w hst K R hk
  have hb : w.heap[b]? = some (.cells l.toArray e (0,0)) := hst.own hi
  obtain ⟨he,hfit⟩ := upd_eq hu
  have hsz : v.cells.size = vs.length := by rw [← hv,Array.length_toList]
  have hrun : (execOp a.eval ⟨none,.store t x y,ty,pos,aft,g⟩).run P w = .ok .skip (w.setRow b l'.toArray) := by
    have hst' := run_storeCells_at (P := P) b o e vs 0 l.toArray w hb (by simpa using hfit) (allOne_mem h1)
    rw [Nat.add_zero] at hst'
    subst he
    simp only [execOp,hst.en.eval hx,hst.en.eval hy,Instr.storeAt,Instr.sureAddr,storeVar,Sem.run_bind,Sem.run_pure,Result.andThen_ok,run_sizeB hs,hsz,ne_eq,not_true_eq_false,if_false,hv]
    simpa using congrArg (fun r => Result.andThen r fun _ w' => Result.ok Next.skip w') hst'
  unfold Oper.wp
  rw [hrun]
  refine hk _ _ (hst.write hi hr (Fr.setRow w b _) (setRow_heap w b _ _ _ _ hb) (fun k hk => .inl hk) (by simp [Own.keys]) ?_)
  exact hst.en
theorem t_store {i b o : Nat} {l l' : List Value} {e : TypeId} {v : Value} {G' : List Own} (hi : nthO G i = some (.cells b l e)) (hx : ev env x = some (.pointer (some ⟨b,o,none⟩))) (hy : ev env y = some v) (hv : v.cells.toList = [v]) (hs : sizeB P t = some 1) (h1 : v.oneCell' = true)
    (hu : upd l o [v] = some l') (hr : repl G i (.cells b l' e) = some G') : Tr P ⟨none,.store t x y,ty,pos,aft,g⟩ (St c n env G Q) (St c n env G' Q) :=
  Tr.store hi hx hy hv hs (by simp [allOne,h1]) hu hr
theorem t_storeN {i b o : Nat} {l l' vs : List Value} {e : TypeId} {G' : List Own} (hi : nthO G i = some (.cells b l e)) (hx : ev env x = some (.pointer (some ⟨b,o,none⟩))) (hy : ev env y = some (.agg vs.toArray)) (hs : sizeB P t = some vs.length) (h1 : allOne vs = true)
    (hu : upd l o vs = some l') (hr : repl G i (.cells b l' e) = some G') : Tr P ⟨none,.store t x y,ty,pos,aft,g⟩ (St c n env G Q) (St c n env G' Q) :=
  Tr.store hi hx hy rfl hs h1 hu hr
theorem run_indexAt {p : Addr} {len cap sz : Nat} {k : IntKind} {m : Int} {e : TypeId} (ht : P.underlying t = some (.slice e)) (hs : sizeB P e = some sz) (h0 : 0 ≤ m) (h1 : m < len) (w : World) :
    (Instr.indexAt t (.slice (some p) len cap) (.int k m)).run P w = .ok (.pointer (some (p.add (m.toNat * sz)))) w := by
  simp [Instr.indexAt,asIntOf,run_underlying ht,h0,h1,run_sizeB hs]
theorem t_index {α : Type} {kd : Kd α} {i cap : Nat} {A : Option Addr} {xs : List α} {z : α} {k : IntKind} {m : Int} {e : TypeId} (hd : Nat.blt d n = true) (hi : nthO Q i = some (Pers.row kd A xs)) (hx : ev env x = some (.slice A xs.length cap)) (hy : ev env y = some (.int k m))
    (ht : P.underlying t = some (.slice e)) (hs : sizeB P e = some kd.sz) (h0 : 0 ≤ m) (hz : xs[m.toNat]? = some z) :
    Tr P ⟨some d,.indexAddr t x y,ty,pos,aft,g⟩ (St c n env G Q)
      (fun a w => ∃ p,∃ r,kd.ok z r ∧ St c n ((d,.pointer (some (Addr.add p 0))) :: env) G (Pers.at p (kd.cells z r) :: (kd.pers z r ++ Q)) a w) := by
  intro a w h K R hk
  obtain ⟨S,he,hh,hrel⟩ := h
  have hlt : m.toNat < xs.length := (List.getElem?_eq_some_iff.1 hz).1
  rcases hh.per _ (nthO_mem hi) with h1 | ⟨p,rfl,hS,hb,hrow⟩
  · subst h1; simp at hlt
  · obtain ⟨cs,⟨r,hok,rfl,hper⟩,hc⟩ := hrow _ _ hz
    have hrun : (execOp a.eval ⟨some d,.indexAddr t x y,ty,pos,aft,g⟩).run P w = .ok (.value (.pointer (some ((p.add (m.toNat * kd.sz)).add 0)))) w := by
      have hm : m < (xs.length : Int) := by omega
      rw [add_zero]
      simp only [execOp,he.eval hx,he.eval hy,run_indexAt ht hs h0 hm,Sem.run_bind,Result.andThen_ok,Sem.run_pure]
    unfold Oper.wp
    rw [hrun]
    refine hk _ _ ⟨p.add (m.toNat * kd.sz),r,hok,S,he.put hd _,⟨hh.own,hh.nod,hh.out,fun q hq => ?_⟩,hrel⟩
    rcases List.mem_cons.1 hq with rfl | hq
    · exact ⟨by rw [add_block]; exact hS,by rw [add_block]; exact hb,hc⟩
    · rcases List.mem_append.1 hq with hq | hq
      · exact hper q hq
      · exact hh.per q hq
theorem p_indexB {b o len cap sz : Nat} {k : IntKind} {m : Int} {e : TypeId} (hx : ev env x = some (.slice (some ⟨b,o,none⟩) len cap)) (hy : ev env y = some (.int k m)) (ht : P.underlying t = some (.slice e)) (hs : sizeB P e = some sz) (h0 : 0 ≤ m) (h1 : m < len) :
    Pv P n env ⟨some d,.indexAddr t x y,ty,pos,aft,g⟩ (.pointer (some ⟨b,o + m.toNat * sz,none⟩)) := fun a w he => by
  simp only [execOp,he.eval hx,he.eval hy,run_indexAt ht hs h0 h1,Sem.run_bind,Result.andThen_ok,Sem.run_pure,add_lit]
theorem range_map_reps (z : List Value) (hz : 0 < z.length) (m : Nat) : (Array.range (m * z.length)).map (fun i => z.toArray[i % z.toArray.size]!) = (reps z m).toArray := by
  apply Array.toList_inj.1
  apply List.ext_getElem?
  intro i
  simp only [Array.toList_map,Array.toList_range,List.getElem?_map]
  by_cases hi : i < m * z.length
  · rw [List.getElem?_range hi,reps_get z hz m i hi]
    have : i % z.length < z.length := Nat.mod_lt _ hz
    simp [this]
  · have h1 : (List.range (m * z.length))[i]? = none := by simp; omega
    have h2 : (reps z m)[i]? = none := by rw [List.getElem?_eq_none_iff,reps_length]; omega
    rw [h1,h2]; rfl
theorem t_buildSlice {e : TypeId} {len sz : Nat} {ps : List (Nat × Operand)} {parts : List (Nat × Value)} {z z0 l : List Value} (hd : Nat.blt d n = true) (ht : P.underlying t = some (.slice e)) (hs : sizeB P e = some sz) (hz : zeroL P e = some z) (hzs : Nat.beq z.length sz = true) (h0 : Nat.blt 0 sz = true) (hp : evP env ps = some parts)
    (hsm : Nat.ble (len * sz) 16777216 = true) (hn : norm (reps z len) = some z0) (hl : fillF (fun i => some (i * sz,sz)) z0 parts = some l) :
    Tr P ⟨some d,.buildSlice t len ps.toArray,ty,pos,aft,g⟩ (St c n env G Q)
      (fun a w => ∃ b,St c n ((d,.slice (some ⟨b,0,none⟩) len len) :: env) (.cells b l e :: G) Q a w) := by
  intro a w h K R hk
  have hzs := Nat.eq_of_beq_eq_true hzs
  have h0 : 0 < sz := Nat.le_of_ble_eq_true h0
  have hsm := Nat.le_of_ble_eq_true hsm
  obtain ⟨zv,hzv,hzz⟩ := Option.map_eq_some_iff.1 hz
  have hpm : (ps.toArray.map fun (p : Nat × Operand) => (p.1,a.eval p.2)) = parts.toArray := by rw [List.map_toArray,h.en.evPs hp]
  have hn := norm_eq hn
  have hcells : zv.cells = z.toArray := by rw [← hzz,← vcells_eq]
  have hfill := fill_fillF (fun i => some (i * sz,sz)) parts z0 l hl
  have hrun : (execOp a.eval ⟨some d,.buildSlice t len ps.toArray,ty,pos,aft,g⟩).run P w = .ok (.value (.slice (some ⟨w.heap.size,0,none⟩) len len)) (w.alloc (.cells l.toArray e (0,0))) := by
    by_cases hl0 : len * sz = 0
    · have hl1 : len = 0 := by rcases Nat.mul_eq_zero.1 hl0 with h1 | h1 <;> omega
      have hz0 : z0 = [] := by rw [hn,hl1]; rfl
      rw [hz0] at hfill
      have ha : ∀ f : Nat → Value,(Array.range (len * sz)).map f = #[] := fun f => by rw [hl0]; simp
      simp only [execOp,hpm,Instr.buildSlice,Sem.run_bind,run_underlying ht,Result.andThen_ok,run_sizeB hs,if_neg (by omega : ¬ len * sz > 2 ^ 24),if_pos hl0,Sem.run_pure,ha,hfill,newRow,run_newObj]
      rfl
    · have harr : (Array.range (len * sz)).map (fun i => z.toArray[i % z.toArray.size]!) = z0.toArray := by
        rw [hn,← hzs]
        exact range_map_reps z (by omega) len
      simp only [execOp,hpm,Instr.buildSlice,Sem.run_bind,run_underlying ht,Result.andThen_ok,run_sizeB hs,if_neg (by omega : ¬ len * sz > 2 ^ 24),if_neg hl0,Sem.run_pure,run_zeroB hzv,hcells,harr,hfill,newRow,run_newObj]
      rfl
  unfold Oper.wp
  rw [hrun]
  exact hk _ _ ⟨w.heap.size,h.new _ (h.en.put hd _)⟩
end
end Go.Sx
namespace Go.Sx
open Go
def Ct (P : Program) (f : FuncId) (args : List Value) (G : List Own) (Q : List Pers) (R : Value → List Own → List Pers → Prop) : Prop :=
  ∀ w S,Heap S G Q w → Calls P f args.toArray w fun e w' => ∃ v G' Q' S',e = .returned v ∧ R v G' Q' ∧ Heap S' G' Q' w' ∧ Fr (keysOf G) w w' ∧
    (∀ k,k < w.heap.size → k ∉ keysOf G → (S' k ↔ S k)) ∧ (∀ k ∈ keysOf G',k ∈ keysOf G ∨ w.heap.size ≤ k)
theorem Ct.mono {P : Program} {f : FuncId} {args : List Value} {G : List Own} {Q : List Pers} {R R' : Value → List Own → List Pers → Prop} (h : Ct P f args G Q R) (hr : ∀ v G' Q',R v G' Q' → R' v G' Q') : Ct P f args G Q R' :=
  fun w S hh => (h w S hh).mono fun e w' ⟨v,G',Q',S',h1,h2,h3⟩ => ⟨v,G',Q',S',h1,hr _ _ _ h2,h3⟩
end Go.Sx
namespace Go.Sx
open Go
section
variable {P : Program} {c : Cx} {n : Nat} {env env' : List (Nat × Value)} {G G' Gr : List Own} {Q Q' : List Pers} {d : Nat} {ty : TypeId} {pos : String} {aft : Array Edge} {g : Option (Nat × Bool)} {x y : Operand} {t : TypeId} {a a' : Act} {w w' : World}
theorem keysOf_append (a b : List Own) : keysOf (a ++ b) = keysOf a ++ keysOf b := by simp [keysOf]
theorem mem_keysOf_perm {a b : List Own} (h : a.Perm b) {k : Nat} : k ∈ keysOf a ↔ k ∈ keysOf b := (List.Perm.flatMap_right Own.keys h).mem_iff
theorem Rel.perm {S : Blocks} (h : Rel c S G w) (hp : G.Perm G') : Rel c S G' w := ⟨h.fr,h.old,fun k hk => h.key k ((mem_keysOf_perm hp).2 hk)⟩
theorem heap_frame {S S' : Blocks} {G1 G2 Gr : List Own} {Q1 Q2 : List Pers} (h : Heap S (G1 ++ Gr) Q1 w) (h' : Heap S' G2 Q2 w') (hf : Fr (keysOf G1) w w') (hS : ∀ k,k < w.heap.size → k ∉ keysOf G1 → (S' k ↔ S k)) (hk : ∀ k ∈ keysOf G2,k ∈ keysOf G1 ∨ w.heap.size ≤ k) :
    Heap S' (G2 ++ Gr) (Q2 ++ Q1) w' := by
  have hn : (keysOf G1 ++ keysOf Gr).Nodup := by rw [← keysOf_append]; exact h.nod
  rw [List.nodup_append] at hn
  obtain ⟨n1,nr,d1r⟩ := hn
  have ltr : ∀ k ∈ keysOf Gr,k < w.heap.size := fun k hk => h.lt (by rw [keysOf_append]; exact List.mem_append_right _ hk)
  have nr1 : ∀ k ∈ keysOf Gr,k ∉ keysOf G1 := fun k hk h1 => d1r k h1 k hk rfl
  constructor
  · intro o ho
    rcases List.mem_append.1 ho with ho | ho
    · exact h'.own o ho
    · refine Own.move (h.own o (List.mem_append_right _ ho)) fun k hko => ?_
      have hkr : k ∈ keysOf Gr := mem_keysOf.2 ⟨o,ho,hko⟩
      exact hf.block k (ltr k hkr) (nr1 k hkr)
  · rw [keysOf_append,List.nodup_append]
    refine ⟨h'.nod,nr,fun k hk2 l hl e => ?_⟩
    subst e
    rcases hk k hk2 with h1 | h1
    · exact nr1 k hl h1
    · have := ltr k hl; omega
  · intro k hkk
    rw [keysOf_append] at hkk
    rcases List.mem_append.1 hkk with hkk | hkk
    · exact h'.out k hkk
    · intro hs
      exact h.out k (by rw [keysOf_append]; exact List.mem_append_right _ hkk) ((hS k (ltr k hkk) (nr1 k hkk)).1 hs)
  · intro q hq
    rcases List.mem_append.1 hq with hq | hq
    · exact h'.per q hq
    · refine q.st (h.per q hq) fun k hs hlt => ?_
      have hn1 : k ∉ keysOf G1 := fun h1 => h.out k (by rw [keysOf_append]; exact List.mem_append_left _ h1) hs
      exact ⟨(hS k hlt hn1).2 hs,hf.block k hlt hn1⟩
theorem St.called {S' : Blocks} {G1 G2 : List Own} {Q2 : List Pers} {S : Blocks} (hh : Heap S (G1 ++ Gr) Q w) (hrel : Rel c S (G1 ++ Gr) w) (h' : Heap S' G2 Q2 w') (hf : Fr (keysOf G1) w w') (hS : ∀ k,k < w.heap.size → k ∉ keysOf G1 → (S' k ↔ S k)) (hk : ∀ k ∈ keysOf G2,k ∈ keysOf G1 ∨ w.heap.size ≤ k) (he : EnvD c.D n env a') :
    St c n env (G2 ++ Gr) (Q2 ++ Q) a' w' :=
  ⟨S',he,heap_frame hh h' hf hS hk,hrel.step hf (fun k hk => by rw [keysOf_append]; exact List.mem_append_left _ hk) hS fun k hkk => by
    rw [keysOf_append] at hkk ⊢
    rcases List.mem_append.1 hkk with hkk | hkk
    · exact (hk k hkk).imp (List.mem_append_left _) id
    · exact .inl (List.mem_append_right _ hkk)⟩
theorem Tr.calls {op : Op} {f : FuncId} {vs : List Value} {is js : List Nat} {G1 : List Own} {Q1 : List Pers} {R : Value → List Own → List Pers → Prop} (hd : Nat.blt d n = true) (hrun : ∀ a w,Env n env a → (execOp a.eval ⟨some d,op,ty,pos,aft,g⟩).run P w = .ok (.enter f vs.toArray) w)
    (hsel : sel G is = some (G1,Gr)) (hq : pickQ Q js = some Q1) (h : Ct P f vs G1 Q1 R) :
    Tr P ⟨some d,op,ty,pos,aft,g⟩ (St c n env G Q) (fun a w => ∃ v G2 Q2,R v G2 Q2 ∧ St c n ((d,v) :: env) (G2 ++ Gr) (Q2 ++ Q) a w) := by
  rintro a w ⟨S,he,hh,hrel⟩ K Q' hk
  have hp := sel_perm hsel
  have hh1 := hh.perm hp
  have hrel1 := hrel.perm hp
  have hin : Heap S G1 Q1 w := hh1.sub (List.sublist_append_left _ _) (pickQ_mem hq)
  unfold Oper.wp
  rw [hrun a w he.toEnv]
  rw [Oper.upon_enter]
  refine (h w S hin).mono ?_
  rintro e w' ⟨v,G2,Q2,S',rfl,hR,h',hf,hS,hkk⟩
  exact hk _ _ ⟨v,G2,Q2,hR,St.called hh1 hrel1 h' hf hS hkk (he.put hd v)⟩
theorem Tr.lends {op : Op} {f : FuncId} {vs : List Value} {is ls js : List Nat} {G1 GL G3 : List Own} {Q1 QL : List Pers} {R : Value → List Own → List Pers → Prop} (hd : Nat.blt d n = true) (hrun : ∀ a w,Env n env a → (execOp a.eval ⟨some d,op,ty,pos,aft,g⟩).run P w = .ok (.enter f vs.toArray) w)
    (hsel : sel G is = some (G1,G3)) (hlen : sel G3 ls = some (GL,Gr)) (hq : pickQ Q js = some Q1) (hl : ∀ w S,(∀ o ∈ GL,o.holds w) → (∀ k ∈ keysOf GL,S k) → (∀ q ∈ Q,q.h w S) → ∀ q ∈ QL,q.h w S) (h : Ct P f vs G1 (QL ++ Q1) R) (hR : ∀ v G2 Q2,R v G2 Q2 → Q2 = []) :
    Tr P ⟨some d,op,ty,pos,aft,g⟩ (St c n env G Q) (fun a w => ∃ v G2,R v G2 [] ∧ St c n ((d,v) :: env) (G2 ++ (GL ++ Gr)) Q a w) := by
  rintro a w ⟨S,he,hh,hrel⟩ K Q' hk
  have hp : G.Perm (G1 ++ (GL ++ Gr)) := (sel_perm hsel).trans ((List.Perm.refl _).append (sel_perm hlen))
  have hh1 := hh.perm hp
  have hrel1 := hrel.perm hp
  let S1 : Blocks := fun k => S k ∨ k ∈ keysOf GL
  have hn := hh1.nod
  rw [keysOf_append,keysOf_append,List.nodup_append] at hn
  obtain ⟨n1,n2,dis⟩ := hn
  have hin : Heap S1 G1 (QL ++ Q1) w := by
    refine ⟨fun o ho => hh1.own o (List.mem_append_left _ ho),n1,fun k hk1 hs => ?_,fun q hq' => ?_⟩
    · rcases hs with hs | hs
      · exact hh1.out k (by rw [keysOf_append]; exact List.mem_append_left _ hk1) hs
      · exact dis k hk1 k (List.mem_append_left _ hs) rfl
    · have up : ∀ q ∈ Q,q.h w S1 := fun q hq => q.st (hh1.per q hq) fun k hs _ => ⟨.inl hs,rfl⟩
      rcases List.mem_append.1 hq' with hq' | hq'
      · exact hl w S1 (fun o ho => hh1.own o (List.mem_append_right _ (List.mem_append_left _ ho))) (fun k hk => .inr hk) up q hq'
      · exact up q (pickQ_mem hq q hq')
  unfold Oper.wp
  rw [hrun a w he.toEnv]
  rw [Oper.upon_enter]
  refine (h w S1 hin).mono ?_
  rintro e w' ⟨v,G2,Q2,S',rfl,hR',h',hf,hS,hkk⟩
  have := hR v G2 Q2 hR'
  subst this
  have ltL : ∀ k ∈ keysOf GL,k < w.heap.size := fun k hk => hh1.lt (by rw [keysOf_append,keysOf_append]; exact List.mem_append_right _ (List.mem_append_left _ hk))
  have nL1 : ∀ k ∈ keysOf GL,k ∉ keysOf G1 := fun k hk h1 => dis k h1 k (List.mem_append_left _ hk) rfl
  have h2 : Heap (fun k => S' k ∧ k ∉ keysOf GL) G2 [] w' := ⟨h'.own,h'.nod,fun k hk hs => h'.out k hk hs.1,fun q hq => by cases hq⟩
  have hS2 : ∀ k,k < w.heap.size → k ∉ keysOf G1 → ((S' k ∧ k ∉ keysOf GL) ↔ S k) := by
    intro k hlt hn1
    constructor
    · rintro ⟨hs,hnl⟩
      exact ((hS k hlt hn1).1 hs).resolve_right hnl
    · intro hs
      refine ⟨(hS k hlt hn1).2 (.inl hs),fun hl => hh1.out k ?_ hs⟩
      rw [keysOf_append,keysOf_append]
      exact List.mem_append_right _ (List.mem_append_left _ hl)
  have := St.called (n := n) (env := (d,v) :: env) hh1 hrel1 h2 hf hS2 hkk (he.put hd v)
  rw [List.nil_append] at this
  exact hk _ _ ⟨v,G2,hR',this⟩
def Ent (P : Program) (f : FuncId) : Prop := ∀ (args : Array Value) (w : World),(callFunc f args).run P w = .ok (.enter f args) w
theorem run_call {f : FuncId} {xs : List Operand} {vs : List Value} {ts : Array TypeId} {dst : Option Tmp} (hf : Ent P f) (hx : evs env xs = some vs) (a : Act) (w : World) (he : Env n env a) :
    (execOp a.eval ⟨dst,.call { callee := .value (.func f),args := xs.toArray,argTypes := ts },ty,pos,aft,g⟩).run P w = .ok (.enter f vs.toArray) w := by
  have hm : xs.toArray.map a.eval = vs.toArray := by rw [List.map_toArray,he.evals hx]
  have hc := hf vs.toArray w
  simp only [execOp,resolve,Deferred.ofValue,invoke,hm,Act.eval,Sem.run_bind,Sem.run_pure,Result.andThen_ok,Array.empty_append,Array.append_empty,hc]
theorem run_callv {f : FuncId} {x : Operand} {xs : List Operand} {vs us : List Value} {ts : Array TypeId} {dst : Option Tmp} (hf : Ent P f) (hv : ev env x = some (.func (.func f) #[] us.toArray)) (hx : evs env xs = some vs) (a : Act) (w : World) (he : Env n env a) :
    (execOp a.eval ⟨dst,.call { callee := .value x,args := xs.toArray,argTypes := ts },ty,pos,aft,g⟩).run P w = .ok (.enter f (vs ++ us).toArray) w := by
  have hm : xs.toArray.map a.eval = vs.toArray := by rw [List.map_toArray,he.evals hx]
  have hc := hf (vs ++ us).toArray w
  simp only [execOp,resolve,Deferred.ofValue,invoke,hm,he.eval hv,Sem.run_bind,Sem.run_pure,Result.andThen_ok,Array.empty_append,List.append_toArray,List.nil_append,hc]
theorem t_call {f : FuncId} {xs : List Operand} {vs : List Value} {ts : Array TypeId} {is js : List Nat} {G1 : List Own} {Q1 : List Pers} {R : Value → List Own → List Pers → Prop} (hd : Nat.blt d n = true) (hf : Ent P f) (hx : evs env xs = some vs)
    (hsel : sel G is = some (G1,Gr)) (hq : pickQ Q js = some Q1) (h : Ct P f vs G1 Q1 R) :
    Tr P ⟨some d,.call { callee := .value (.func f),args := xs.toArray,argTypes := ts },ty,pos,aft,g⟩ (St c n env G Q) (fun a w => ∃ v G2 Q2,R v G2 Q2 ∧ St c n ((d,v) :: env) (G2 ++ Gr) (Q2 ++ Q) a w) :=
  Tr.calls hd (fun a w he => run_call hf hx a w he) hsel hq h
theorem t_callv {f : FuncId} {xs : List Operand} {vs us : List Value} {ts : Array TypeId} {is js : List Nat} {G1 : List Own} {Q1 : List Pers} {R : Value → List Own → List Pers → Prop} (hd : Nat.blt d n = true) (hf : Ent P f) (hv : ev env x = some (.func (.func f) #[] us.toArray)) (hx : evs env xs = some vs)
    (hsel : sel G is = some (G1,Gr)) (hq : pickQ Q js = some Q1) (h : Ct P f (vs ++ us) G1 Q1 R) :
    Tr P ⟨some d,.call { callee := .value x,args := xs.toArray,argTypes := ts },ty,pos,aft,g⟩ (St c n env G Q) (fun a w => ∃ v G2 Q2,R v G2 Q2 ∧ St c n ((d,v) :: env) (G2 ++ Gr) (Q2 ++ Q) a w) :=
  Tr.calls hd (fun a w he => run_callv hf hv hx a w he) hsel hq h
theorem t_lend {f : FuncId} {xs : List Operand} {vs : List Value} {ts : Array TypeId} {is ls js : List Nat} {G1 GL G3 : List Own} {Q1 QL : List Pers} {R : Value → List Own → List Pers → Prop} (hd : Nat.blt d n = true) (hf : Ent P f) (hx : evs env xs = some vs)
    (hsel : sel G is = some (G1,G3)) (hlen : sel G3 ls = some (GL,Gr)) (hq : pickQ Q js = some Q1) (hl : ∀ w S,(∀ o ∈ GL,o.holds w) → (∀ k ∈ keysOf GL,S k) → (∀ q ∈ Q,q.h w S) → ∀ q ∈ QL,q.h w S) (h : Ct P f vs G1 (QL ++ Q1) R) (hR : ∀ v G2 Q2,R v G2 Q2 → Q2 = []) :
    Tr P ⟨some d,.call { callee := .value (.func f),args := xs.toArray,argTypes := ts },ty,pos,aft,g⟩ (St c n env G Q) (fun a w => ∃ v G2,R v G2 [] ∧ St c n ((d,v) :: env) (G2 ++ (GL ++ Gr)) Q a w) :=
  Tr.lends hd (fun a w he => run_call hf hx a w he) hsel hlen hq hl h hR
def retOf (c : Cx) (R : Value → List Own → List Pers → Prop) (e : Ending) (w' : World) : Prop :=
  ∃ v G' Q' S',e = .returned v ∧ R v G' Q' ∧ Heap S' G' Q' w' ∧ Fr c.L0 c.w0 w' ∧ (∀ k,k < c.w0.heap.size → k ∉ c.L0 → (S' k ↔ c.S0 k)) ∧ (∀ k ∈ keysOf G',k ∈ c.L0 ∨ c.w0.heap.size ≤ k)
def Fin (P : Program) (fn : Func) (c : Cx) (R : Value → List Own → List Pers → Prop) : Exit → Asr := fun e a w => c.D = [] → bodyPost P fn (retOf c R) e a w
def enum (i : Nat) : List Value → List (Nat × Value)
  | [] => []
  | v :: r => (i,v) :: enum (i + 1) r
theorem look_enum : ∀ (l : List Value) (i j : Nat) (v : Value),look (enum i l) j = some v → ∃ k,j = i + k ∧ l[k]? = some v
  | [],i,j,v,h => by simp [enum,look] at h
  | u :: r,i,j,v,h => by
    simp only [enum,look] at h
    cases hb : Nat.beq i j with
    | true =>
      rw [hb] at h
      simp only [cond_true,Option.some.injEq] at h
      exact ⟨0,by have := Nat.eq_of_beq_eq_true hb; omega,by simp [h]⟩
    | false =>
      rw [hb] at h
      obtain ⟨k,h1,h2⟩ := look_enum r (i + 1) j v h
      exact ⟨k + 1,by omega,by simpa using h2⟩
theorem Ct.intro {f : FuncId} {fn : Func} {code : Code} {args : List Value} {R : Value → List Own → List Pers → Prop} (hf : P.funcs[f]? = some fn) (hb : fn.body = some code) (hn : fn.ntmps = n) (hl : Nat.ble args.length n = true)
    (h : ∀ c : Cx,c.L0 = keysOf G → GC P (Fin P fn c R) code (St c n (enum 0 args) G Q)) : Ct P f args G Q R := by
  intro w S hh
  refine calls_of_wp hf hb ?_
  have hl := Nat.le_of_ble_eq_true hl
  let c : Cx := ⟨w,S,keysOf G,[]⟩
  refine Code.wp_mono ?_ (h c rfl _ w ⟨S,?_,hh,?_⟩)
  · intro e a w' he
    exact he rfl
  · refine ⟨⟨by simp [hn]; omega,fun i v hi => ?_⟩,rfl⟩
    obtain ⟨k,rfl,hk⟩ := look_enum args 0 i v hi
    rw [Nat.zero_add]
    have hlt : k < args.length := (List.getElem?_eq_some_iff.1 hk).1
    simp only [List.size_toArray]
    rw [Array.getElem?_append_left (by simpa using hlt)]
    simpa using hk
  · exact ⟨Fr.refl _ _,fun _ _ _ => Iff.rfl,fun k hk => .inl hk⟩
def ldV (P : Program) (env : List (Nat × Value)) (G : List Own) (a : Tmp) (t : TypeId) (v : Value) : Prop :=
  ∃ i b o l e,nthO G i = some (.cells b l e) ∧ look env a = some (.pointer (some ⟨b,o,none⟩)) ∧
    ((aggB P t = some false ∧ nth l o = some v) ∨ ∃ vs,v = .agg vs.toArray ∧ aggB P t = some true ∧ sizeB P t = some vs.length ∧ at_ l o vs)
def resV (P : Program) (env : List (Nat × Value)) (G : List Own) : List ResultVar → List Value → Prop
  | [],[] => True
  | .tmp t :: r,v :: vs => look env t = some v ∧ resV P env G r vs
  | .cell a t :: r,v :: vs => ldV P env G a t v ∧ resV P env G r vs
  | _,_ => False
theorem run_resV (h : St c n env G Q a w) : ∀ {rs : List ResultVar} {vs : List Value},resV P env G rs vs →
    (rs.mapM fun | .tmp t => pure (a.tmps.getD t undef) | .cell b t => do loadVar t (← asAddr (a.tmps.getD b undef)) : Sem (List Value)).run P w = .ok vs w
  | [],[],_ => rfl
  | .tmp t :: r,v :: vs,hv => by
    obtain ⟨h1,h2⟩ := hv
    have e : a.tmps.getD t undef = v := by have := h.en.has t v h1; simp [this]
    simp only [List.mapM_cons,Sem.run_bind,Sem.run_pure,Result.andThen_ok,e,run_resV h h2]
  | .cell b t :: r,v :: vs,hv => by
    obtain ⟨⟨i,bb,o,l,e,hi,hb,hld⟩,h2⟩ := hv
    have eb : a.tmps.getD b undef = .pointer (some ⟨bb,o,none⟩) := by have := h.en.has b _ hb; simp [this]
    have hblk : w.heap[bb]? = some (.cells l.toArray e (0,0)) := h.own hi
    have hadr : (asAddr (a.tmps.getD b undef)).run P w = .ok ⟨bb,o,none⟩ w := by rw [eb]; rfl
    have hrun : (loadVar t ⟨bb,o,none⟩).run P w = .ok v w := by
      rcases hld with ⟨hg,hn⟩ | ⟨us,rfl,hg,hs,hat⟩
      · rw [nth_eq] at hn
        exact run_loadVar_one hg (by simp [World.cell?,hblk,hn])
      · exact run_loadVar_agg hg hs (cellsAt_blk hblk (at_get hat))
    simp only [List.mapM_cons,Sem.run_bind,Sem.run_pure,Result.andThen_ok,hadr,hrun,run_resV h h2]
  | [],_ :: _,hv => hv.elim
  | .tmp _ :: _,[],hv => hv.elim
  | .cell _ _ :: _,[],hv => hv.elim
def tupV : List Value → Value
  | [v] => v
  | vs => .tuple vs.toArray
theorem Fin.back {fn : Func} {rs : List ResultVar} {vs : List Value} {is js : List Nat} {R : Value → List Own → List Pers → Prop} (hr : fn.results = rs.toArray) (hv : resV P env G rs vs) (hsel : sel G is = some (G',Gr)) (hq : pickQ Q js = some Q') (hR : R (tupV vs) G' Q') (h : St c n env G Q a w) : Fin P fn c R .ret a w := by
  have hrun : (results fn a.tmps).run P w = .ok (tupV vs) w := by
    have h0 := run_resV (P := P) h hv
    have h1 : (rs.toArray.mapM fun | .tmp t => pure (a.tmps.getD t undef) | .cell b t => do loadVar t (← asAddr (a.tmps.getD b undef)) : Sem (Array Value)).run P w = .ok vs.toArray w := by
      rw [List.mapM_toArray,Sem.run_map]
      exact congrArg (fun r => Result.andThen r fun a w' => Result.ok (List.toArray a) w') h0
    simp only [results,hr,Sem.run_bind]
    refine (congrArg (fun r => Result.andThen r _) h1).trans ?_
    cases vs with
    | nil => rfl
    | cons v r => cases r <;> simp [tupV]
  obtain ⟨S,he,hh,hrel⟩ := h
  have hp := sel_perm hsel
  have hh1 := hh.perm hp
  have hrel1 := hrel.perm hp
  intro hD
  exact ⟨he.defers.trans hD,_,hrun,_,G',Q',S,rfl,hR,hh1.sub (List.sublist_append_left _ _) (pickQ_mem hq),hrel.fr,hrel.old,fun k hk => hrel1.key k (by rw [keysOf_append]; exact List.mem_append_left _ hk)⟩
theorem Fin.back0 {fn : Func} {is js : List Nat} {R : Value → List Own → List Pers → Prop} (hr : fn.results = #[]) (hsel : sel G is = some (G',Gr)) (hq : pickQ Q js = some Q') (hR : R (.tuple #[]) G' Q') (h : St c n env G Q a w) : Fin P fn c R .normal a w :=
  Fin.back (rs := []) (vs := []) (by rw [hr]) trivial hsel hq hR h
theorem St.sub (h : St c n env G Q a w) (hs : sub env env') : St c n env' G Q a w := by
  obtain ⟨S,he,hh,hrel⟩ := h
  exact ⟨S,he.sub hs,hh,hrel⟩
theorem St.cut {is js : List Nat} (h : St c n env G Q a w) (hs : Sx.sub env env') (hsel : sel G is = some (G',Gr)) (hq : pickQ Q js = some Q') : St c n env' G' Q' a w := by
  obtain ⟨S,he,hh,hrel⟩ := h
  have hp := sel_perm hsel
  exact ⟨S,he.sub hs,(hh.perm hp).sub (List.sublist_append_left _ _) (pickQ_mem hq),(hrel.perm hp).fr,hrel.old,fun k hk => (hrel.perm hp).key k (by rw [keysOf_append]; exact List.mem_append_left _ hk)⟩
theorem St.know {q : Pers} (h : St c n env G Q a w) (hq : ∀ w S,(∀ p ∈ Q,p.h w S) → q.h w S) : St c n env G (q :: Q) a w := by
  obtain ⟨S,he,hh,hrel⟩ := h
  exact ⟨S,he,⟨hh.own,hh.nod,hh.out,fun p hp => by
    rcases List.mem_cons.1 hp with rfl | hp
    · exact hq w S hh.per
    · exact hh.per p hp⟩,hrel⟩
theorem St.freeze {i : Nat} {o : Own} {QN : List Pers} (h : St c n env G Q a w) (ht : takeO G i = some (o,G')) (hq : ∀ w S,o.holds w → (∀ k ∈ o.keys,S k) → (∀ p ∈ Q,p.h w S) → ∀ q ∈ QN,q.h w S) : St c n env G' (QN ++ Q) a w := by
  obtain ⟨S,he,hh,hrel⟩ := h
  have hp := takeO_perm ht
  have hh1 := hh.perm hp
  have hrel1 := hrel.perm hp
  have hn : (o.keys ++ keysOf G').Nodup := hh1.nod
  rw [List.nodup_append] at hn
  have up : ∀ q ∈ Q,q.h w (fun k => S k ∨ k ∈ o.keys) := fun q hq => q.st (hh.per q hq) fun k hs _ => ⟨.inl hs,rfl⟩
  refine ⟨fun k => S k ∨ k ∈ o.keys,he,⟨fun x hx => hh1.own x (List.mem_cons_of_mem _ hx),hn.2.1,fun k hk hs => ?_,fun q hq' => ?_⟩,⟨hrel.fr,fun k hlt hL => ⟨fun hs => ?_,fun hs => .inl ((hrel.old k hlt hL).2 hs)⟩,fun k hk => hrel1.key k (by exact List.mem_append_right _ hk)⟩⟩
  · rcases hs with hs | hs
    · exact hh1.out k (List.mem_append_right _ hk) hs
    · exact hn.2.2 k hs k hk rfl
  · rcases List.mem_append.1 hq' with hq' | hq'
    · exact hq w _ (hh1.own o (List.mem_cons_self)) (fun k hk => .inr hk) up q hq'
    · exact up q hq'
  · rcases hs with hs | hs
    · exact (hrel.old k hlt hL).1 hs
    · rcases hrel1.key k (List.mem_append_left _ hs) with h1 | h1
      · exact absurd h1 hL
      · omega
theorem St.recast {i : Nat} {o o' : Own} (h : St c n env G Q a w) (hi : nthO G i = some o) (hr : repl G i o' = some G') (hk : o'.keys = o.keys) (ho : ∀ w,o.holds w → o'.holds w) : St c n env G' Q a w := by
  obtain ⟨S,he,hh,hrel⟩ := h
  have hn : o'.keys.Nodup := by
    rw [hk]
    obtain ⟨x,y,rfl,_⟩ := repl_split hi hr
    have := hh.nod
    simp only [keysOf,List.flatMap_append,List.flatMap_cons,List.nodup_append] at this
    exact this.2.1.1
  exact St.write ⟨S,he,hh,hrel⟩ hi hr (Fr.refl _ _) (ho w (hh.own o (nthO_mem hi))) (fun k hkk => .inl (hk ▸ hkk)) hn he
theorem GC.cond {R : Exit → Asr} {z : Operand} {b : Bool} {thn els : Code} (hz : ev env z = some (.bool b)) (ht : b = true → GC P R thn (St c n env G Q)) (hf : b = false → GC P R els (St c n env G Q)) : GC P R (.cond z thn els) (St c n env G Q) :=
  fun a w h => wp_cond_split (h.en.eval hz) (fun e => ht e a w h) (fun e => hf e a w h)
theorem GC.cond_true {R : Exit → Asr} {z : Operand} {thn els : Code} (hz : ev env z = some (.bool true)) (ht : GC P R thn (St c n env G Q)) : GC P R (.cond z thn els) (St c n env G Q) :=
  fun a w h => wp_cond_true (h.en.eval hz) (ht a w h)
theorem GC.cond_false {R : Exit → Asr} {z : Operand} {thn els : Code} (hz : ev env z = some (.bool false)) (ht : GC P R els (St c n env G Q)) : GC P R (.cond z thn els) (St c n env G Q) :=
  fun a w h => wp_cond_false (h.en.eval hz) (ht a w h)
theorem GL.split {ops : Array Oper} {R : Exit → Asr} {rest : List Oper} {i : Nat} {b : Bool} (hi : look env i = some (.bool b)) (ht : b = true → GL P ops R rest (St c n ((i,.bool true) :: env) G Q)) (hf : b = false → GL P ops R rest (St c n ((i,.bool false) :: env) G Q)) : GL P ops R rest (St c n env G Q) := by
  rintro a w ⟨S,he,hh,hrel⟩
  cases b
  · exact hf rfl a w ⟨S,he.over hi,hh,hrel⟩
  · exact ht rfl a w ⟨S,he.over hi,hh,hrel⟩
theorem wanted_yes {ops : Array Oper} {o : Oper} {j s : Nat} {want : Bool} (hg : o.guard = some (j,want)) (hj : (ops[j]?).bind (·.dst) = some s) (hs : look env s = some (.bool want)) (he : Env n env a) : Region.wanted o (yielded ops a.tmps) = true := by
  have := he.has s _ hs
  simp [Region.wanted,hg,yielded,hj,this]
theorem wanted_no {ops : Array Oper} {o : Oper} {j s : Nat} {want : Bool} (hg : o.guard = some (j,want)) (hj : (ops[j]?).bind (·.dst) = some s) (hs : look env s = some (.bool (!want))) (he : Env n env a) : Region.wanted o (yielded ops a.tmps) = false := by
  have := he.has s _ hs
  cases want <;> simp [Region.wanted,hg,yielded,hj,this]
theorem wanted_undef {ops : Array Oper} {o : Oper} {j s : Nat} {want : Bool} (hg : o.guard = some (j,want)) (hj : (ops[j]?).bind (·.dst) = some s) (hs : look env s = some undef) (he : Env n env a) : Region.wanted o (yielded ops a.tmps) = false := by
  have := he.has s _ hs
  cases want <;> simp [Region.wanted,hg,yielded,hj,this,undef]
theorem GL.stepG {ops : Array Oper} {R : Exit → Asr} {rest : List Oper} {o : Oper} {B : Asr} {j s : Nat} {want : Bool} (hg : o.guard = some (j,want)) (hj : (ops[j]?).bind (·.dst) = some s) (hs : look env s = some (.bool want)) (h : Tr P o (St c n env G Q) B) (k : GL P ops R rest B) : GL P ops R (o :: rest) (St c n env G Q) :=
  fun a w ha => wpList_step fun K hK => by
    rw [if_pos (wanted_yes hg hj hs ha.en.toEnv)]
    exact h a w ha K R fun a' w' hb => hK a' w' (k a' w' hb)
theorem GL.pureG {ops : Array Oper} {R : Exit → Asr} {rest : List Oper} {op : Op} {v : Value} {j s : Nat} {want : Bool} (hj : (ops[j]?).bind (·.dst) = some s) (hs : look env s = some (.bool want)) (hd : Nat.blt d n = true) (h : Pv P n env ⟨some d,op,ty,pos,aft,some (j,want)⟩ v) (k : GL P ops R rest (St c n ((d,v) :: env) G Q)) :
    GL P ops R (⟨some d,op,ty,pos,aft,some (j,want)⟩ :: rest) (St c n env G Q) := GL.stepG rfl hj hs (Tr.val hd h) k
theorem GL.pass {ops : Array Oper} {R : Exit → Asr} {rest : List Oper} {op : Op} {j s : Nat} {want : Bool} (hj : (ops[j]?).bind (·.dst) = some s) (hs : look env s = some (.bool (!want))) (hd : Nat.blt d n = true) (k : GL P ops R rest (St c n ((d,undef) :: env) G Q)) :
    GL P ops R (⟨some d,op,ty,pos,aft,some (j,want)⟩ :: rest) (St c n env G Q) := fun a w ha =>
  wpList_skip (wanted_no rfl hj hs ha.en.toEnv) (k _ w (ha.keep (Fr.refl _ _) (ha.en.put hd _)))
theorem GL.passU {ops : Array Oper} {R : Exit → Asr} {rest : List Oper} {op : Op} {j s : Nat} {want : Bool} (hj : (ops[j]?).bind (·.dst) = some s) (hs : look env s = some undef) (hd : Nat.blt d n = true) (k : GL P ops R rest (St c n ((d,undef) :: env) G Q)) :
    GL P ops R (⟨some d,op,ty,pos,aft,some (j,want)⟩ :: rest) (St c n env G Q) := fun a w ha =>
  wpList_skip (wanted_undef rfl hj hs ha.en.toEnv) (k _ w (ha.keep (Fr.refl _ _) (ha.en.put hd _)))
end
end Go.Sx
namespace Go.Sx
open Go
def Mem (c : Cx) (G : List Own) (Q : List Pers) (w : World) : Prop := ∃ S,Heap S G Q w ∧ Rel c S G w
theorem Mem.of {c : Cx} {n : Nat} {env : List (Nat × Value)} {G : List Own} {Q : List Pers} {a : Act} {w : World} (h : St c n env G Q a w) : Mem c G Q w := by obtain ⟨S,_,hh,hr⟩ := h; exact ⟨S,hh,hr⟩
theorem Mem.st {c : Cx} {n : Nat} {env : List (Nat × Value)} {G : List Own} {Q : List Pers} {a : Act} {w : World} (h : Mem c G Q w) (he : EnvD c.D n env a) : St c n env G Q a w := by obtain ⟨S,hh,hr⟩ := h; exact ⟨S,he,hh,hr⟩
theorem Mem.keep {c : Cx} {G : List Own} {Q : List Pers} {w w' : World} (h : Mem c G Q w) (hf : Fr [] w w') : Mem c G Q w' := by
  obtain ⟨S,hh,hrel⟩ := h
  exact ⟨S,hh.move fun k hlt _ => hf.block k hlt (by simp),hrel.step hf (by simp) (fun _ _ _ => Iff.rfl) fun k hk => .inl hk⟩
theorem Mem.own {c : Cx} {G : List Own} {Q : List Pers} {w : World} {i : Nat} {o : Own} (h : Mem c G Q w) (hi : nthO G i = some o) : o.holds w := by obtain ⟨S,hh,_⟩ := h; exact hh.own o (nthO_mem hi)
theorem Mem.per {c : Cx} {G : List Own} {Q : List Pers} {w : World} {i : Nat} {q : Pers} (h : Mem c G Q w) (hi : nthO Q i = some q) : ∃ S,q.h w S := by obtain ⟨S,hh,_⟩ := h; exact ⟨S,hh.per q (nthO_mem hi)⟩
end Go.Sx
namespace Go.Sx
open Go
section
variable {P : Program} {c : Cx} {n : Nat} {env env' : List (Nat × Value)} {G G' Gr : List Own} {Q Q' : List Pers} {d : Nat} {ty : TypeId} {pos : String} {aft : Array Edge} {g : Option (Nat × Bool)} {x y : Operand} {t : TypeId} {a a' : Act} {w w' : World}
def GQ (P : Program) (c : Cx) (n : Nat) (G : List Own) (Q : List Pers) (ops : Array Oper) (l : List Oper) (env : List (Nat × Value)) (M : List (Nat × Value) → Prop) : Prop :=
  ∀ a,EnvD c.D n env a → wpQuiet P ops (Mem c G Q) (fun a' => ∃ env',EnvD c.D n env' a' ∧ M env') l a
theorem GQ.nil {ops : Array Oper} {M : List (Nat × Value) → Prop} (h : M env) : GQ P c n G Q ops [] env M := fun a ha => wpQuiet_nil ⟨env,ha,h⟩
def Pq (P : Program) (c : Cx) (n : Nat) (G : List Own) (Q : List Pers) (env : List (Nat × Value)) (o : Oper) (v : Value) : Prop := ∀ a w,Env n env a → Mem c G Q w → o.quietAt P a (Mem c G Q) w v
theorem GQ.step {ops : Array Oper} {rest : List Oper} {op : Op} {v : Value} {M : List (Nat × Value) → Prop} (hd : Nat.blt d n = true) (h : Pq P c n G Q env ⟨some d,op,ty,pos,aft,none⟩ v) (k : GQ P c n G Q ops rest ((d,v) :: env) M) : GQ P c n G Q ops (⟨some d,op,ty,pos,aft,none⟩ :: rest) env M := fun a ha =>
  wpQuiet_step fun K hK => by
    rw [if_pos (by simp [Region.wanted])]
    exact ⟨v,fun w hw => h a w ha.toEnv hw,hK _ (k _ (ha.put hd v))⟩
theorem GQ.stepG {ops : Array Oper} {rest : List Oper} {op : Op} {v : Value} {M : List (Nat × Value) → Prop} {j s : Nat} {want : Bool} (hj : (ops[j]?).bind (·.dst) = some s) (hs : look env s = some (.bool want)) (hd : Nat.blt d n = true) (h : Pq P c n G Q env ⟨some d,op,ty,pos,aft,some (j,want)⟩ v) (k : GQ P c n G Q ops rest ((d,v) :: env) M) :
    GQ P c n G Q ops (⟨some d,op,ty,pos,aft,some (j,want)⟩ :: rest) env M := fun a ha =>
  wpQuiet_step fun K hK => by
    rw [if_pos (wanted_yes rfl hj hs ha.toEnv)]
    exact ⟨v,fun w hw => h a w ha.toEnv hw,hK _ (k _ (ha.put hd v))⟩
theorem GQ.pass {ops : Array Oper} {rest : List Oper} {op : Op} {M : List (Nat × Value) → Prop} {j s : Nat} {want : Bool} (hj : (ops[j]?).bind (·.dst) = some s) (hs : look env s = some (.bool (!want))) (hd : Nat.blt d n = true) (k : GQ P c n G Q ops rest ((d,undef) :: env) M) :
    GQ P c n G Q ops (⟨some d,op,ty,pos,aft,some (j,want)⟩ :: rest) env M := fun a ha =>
  wpQuiet_step fun K hK => by
    rw [if_neg (by rw [wanted_no rfl hj hs ha.toEnv]; simp)]
    exact hK _ (k _ (ha.put hd undef))
theorem GQ.passU {ops : Array Oper} {rest : List Oper} {op : Op} {M : List (Nat × Value) → Prop} {j s : Nat} {want : Bool} (hj : (ops[j]?).bind (·.dst) = some s) (hs : look env s = some undef) (hd : Nat.blt d n = true) (k : GQ P c n G Q ops rest ((d,undef) :: env) M) :
    GQ P c n G Q ops (⟨some d,op,ty,pos,aft,some (j,want)⟩ :: rest) env M := fun a ha =>
  wpQuiet_step fun K hK => by
    rw [if_neg (by rw [wanted_undef rfl hj hs ha.toEnv]; simp)]
    exact hK _ (k _ (ha.put hd undef))
theorem GQ.split {ops : Array Oper} {rest : List Oper} {M : List (Nat × Value) → Prop} {i : Nat} {b : Bool} (hi : look env i = some (.bool b)) (ht : b = true → GQ P c n G Q ops rest ((i,.bool true) :: env) M) (hf : b = false → GQ P c n G Q ops rest ((i,.bool false) :: env) M) : GQ P c n G Q ops rest env M := by
  intro a he
  cases b
  · exact hf rfl a (he.over hi)
  · exact ht rfl a (he.over hi)
theorem q_pure {o : Oper} {v : Value} (h : Pv P n env o v) : Pq P c n G Q env o v := fun a w he hm => by
  unfold Oper.quietAt
  rw [h a w he]
  exact ⟨rfl,rfl⟩
def Pm (P : Program) (c : Cx) (n : Nat) (G : List Own) (Q : List Pers) (env : List (Nat × Value)) (o : Oper) (v : Value) : Prop := ∀ a w,Env n env a → Mem c G Q w → (execOp a.eval o).run P w = .ok (.value v) w
theorem q_mem {o : Oper} {v : Value} (h : Pm P c n G Q env o v) : Pq P c n G Q env o v := fun a w he hm => by
  unfold Oper.quietAt
  rw [h a w he hm]
  exact ⟨rfl,rfl⟩
theorem t_mem {op : Op} {v : Value} (hd : Nat.blt d n = true) (h : Pm P c n G Q env ⟨some d,op,ty,pos,aft,g⟩ v) : Tr P ⟨some d,op,ty,pos,aft,g⟩ (St c n env G Q) (St c n ((d,v) :: env) G Q) := fun a w hs K R hk => by
  unfold Oper.wp
  rw [h a w hs.en.toEnv (Mem.of hs)]
  exact hk _ _ (hs.keep (Fr.refl _ _) (hs.en.put hd _))
theorem Pm.load {p : Addr} {v : Value} (hx : ev env x = some (.pointer (some p))) (h : ∀ w,Mem c G Q w → (loadVar t p).run P w = .ok v w) : Pm P c n G Q env ⟨some d,.load t x,ty,pos,aft,g⟩ v := fun a w he hm => by
  simp only [execOp,he.eval hx,Instr.loadAt,Instr.sureAddr,Sem.run_bind,Sem.run_pure,Result.andThen_ok,h w hm]
theorem m_load {i b o : Nat} {l : List Value} {e : TypeId} {v : Value} (hi : nthO G i = some (.cells b l e)) (hx : ev env x = some (.pointer (some ⟨b,o,none⟩))) (hg : aggB P t = some false) (hv : nth l o = some v) : Pm P c n G Q env ⟨some d,.load t x,ty,pos,aft,g⟩ v :=
  Pm.load hx fun w hs => run_loadVar_one hg (by
    have hb : w.heap[b]? = some (.cells l.toArray e (0,0)) := hs.own hi
    rw [nth_eq] at hv
    simp [World.cell?,hb,hv])
theorem m_loadN {i b o : Nat} {l vs : List Value} {e : TypeId} (hi : nthO G i = some (.cells b l e)) (hx : ev env x = some (.pointer (some ⟨b,o,none⟩))) (hg : aggB P t = some true) (hs : sizeB P t = some vs.length) (hv : at_ l o vs) : Pm P c n G Q env ⟨some d,.load t x,ty,pos,aft,g⟩ (.agg vs.toArray) :=
  Pm.load hx fun w hst => run_loadVar_agg hg hs (cellsAt_blk (hst.own hi) (at_get hv))
theorem m_loadP {i o : Nat} {p : Addr} {l : List Value} {v : Value} (hi : nthO Q i = some (Pers.at p l)) (hx : ev env x = some (.pointer (some (p.add o)))) (hg : aggB P t = some false) (hv : nth l o = some v) : Pm P c n G Q env ⟨some d,.load t x,ty,pos,aft,g⟩ v :=
  Pm.load hx fun w hs => run_loadVar_one hg (by
    obtain ⟨S,_,_,hc⟩ := hs.per hi
    rw [nth_eq] at hv
    exact hc o v hv)
theorem m_loadPN {i o : Nat} {p : Addr} {l vs : List Value} (hi : nthO Q i = some (Pers.at p l)) (hx : ev env x = some (.pointer (some (p.add o)))) (hg : aggB P t = some true) (hs : sizeB P t = some vs.length) (hv : at_ l o vs) : Pm P c n G Q env ⟨some d,.load t x,ty,pos,aft,g⟩ (.agg vs.toArray) :=
  Pm.load hx fun w hst => run_loadVar_agg hg hs (by
    obtain ⟨S,_,_,hc⟩ := hst.per hi
    intro j u hj
    rw [add_add]
    exact hc _ u (at_get hv j u hj))
theorem q_call {f : FuncId} {xs : List Operand} {vs : List Value} {ts : Array TypeId} {js : List Nat} {Q1 : List Pers} {v : Value} (hf : Ent P f) (hx : evs env xs = some vs) (hq : pickQ Q js = some Q1) (h : Ct P f vs [] Q1 (fun u G2 Q2 => u = v ∧ G2 = [] ∧ Q2 = [])) :
    Pq P c n G Q env ⟨some d,.call { callee := .value (.func f),args := xs.toArray,argTypes := ts },ty,pos,aft,g⟩ v := fun a w he hm => by
  unfold Oper.quietAt
  rw [run_call hf hx a w he]
  refine ⟨rfl,?_⟩
  obtain ⟨S,hh,hrel⟩ := hm
  refine (h w S ⟨by simp,by simp [keysOf],by simp [keysOf],fun q hq' => hh.per q (pickQ_mem hq q hq')⟩).mono ?_
  rintro e w' ⟨u,G2,Q2,S',rfl,⟨rfl,rfl,rfl⟩,_,hfr,_⟩
  exact ⟨rfl,Mem.keep ⟨S,hh,hrel⟩ hfr⟩
theorem q_callO {f : FuncId} {xs : List Operand} {vs : List Value} {ts : Array TypeId} {is js : List Nat} {G1 : List Own} {Q1 : List Pers} {v : Value} (hf : Ent P f) (hx : evs env xs = some vs) (hsel : sel G is = some (G1,Gr)) (hq : pickQ Q js = some Q1) (h : Ct P f vs G1 Q1 (fun u G2 Q2 => u = v ∧ G2 = G1 ∧ Q2 = [])) :
    Pq P c n G Q env ⟨some d,.call { callee := .value (.func f),args := xs.toArray,argTypes := ts },ty,pos,aft,g⟩ v := fun a w he hm => by
  unfold Oper.quietAt
  rw [run_call hf hx a w he]
  refine ⟨rfl,?_⟩
  obtain ⟨S,hh,hrel⟩ := hm
  have hp := sel_perm hsel
  have hh1 := hh.perm hp
  have hrel1 := hrel.perm hp
  refine (h w S (hh1.sub (List.sublist_append_left _ _) (pickQ_mem hq))).mono ?_
  rintro e w' ⟨u,G2,Q2,S',rfl,⟨rfl,rfl,rfl⟩,h',hfr,hS,hk⟩
  refine ⟨rfl,?_⟩
  have h1 := St.called (n := n) (env := env) (a' := { a with defers := c.D }) hh1 hrel1 h' hfr hS hk ⟨⟨he.size,he.has⟩,rfl⟩
  obtain ⟨S2,_,h2,h3⟩ := h1
  exact ⟨S2,by rw [List.nil_append] at h2; exact h2.perm hp.symm,h3.perm hp.symm⟩
theorem GC.regionQ {R : Exit → Asr} {id : Nat} {l : List Oper} (hm : P.follows .mixedOrders = true) (hB : Region.lexB .any l.toArray = true) (h : GQ P c n G Q l.toArray l env (fun env' => ∀ a w,St c n env' G Q a w → R .normal a w)) : GC P R (.region id l.toArray true) (St c n env G Q) := fun a w ha => by
  refine wp_region_quiet (C := Mem c G Q) hm hB ((Mem.of ha).keep (Fr.drew [] w)) ?_
  have := h a ha.en
  simp only
  have key : ∀ (l' : List Oper) (a : Act) (F F' : Act → Prop),(∀ a,F a → F' a) → wpQuiet P l.toArray (Mem c G Q) F l' a → wpQuiet P l.toArray (Mem c G Q) F' l' a := by
    intro l'
    induction l' with
    | nil => exact fun a F F' hF h => hF a h
    | cons o r ih =>
      intro a F F' hF h
      simp only [wpQuiet] at h ⊢
      split
      · rename_i hw; rw [if_pos hw] at h; exact Oper.quiet_mono (fun a => ih a F F' hF) h
      · rename_i hw; rw [if_neg hw] at h; exact ih _ F F' hF h
  exact key l a _ _ (fun a' ⟨env',he',hM⟩ w' hw' => hM a' w' (hw'.st he')) this
def onlyN (M : Asr) : Exit → Asr
  | .normal => M
  | _ => fun _ _ => False
def GA (P : Program) (ops : Array Oper) (M : Asr) (I : World → Prop) (fuel : Nat) (listed : Array Bool) (A : Asr) : Prop := ∀ a w,A a w → wpAnyH P .any ops (onlyN M) I fuel listed a w
theorem GC.regionA {R : Exit → Asr} {A M : Asr} {I : World → Prop} {id m : Nat} {l : List Oper} (hm : P.follows .mixedOrders = true) (hsz : l.length = m) (hA : ∀ a w,A a w → A a w.drew) (h : GA P l.toArray M I m (Array.replicate m false) A) (k : ∀ a w,M a w → R .normal a w) : GC P R (.region id l.toArray true) A := fun a w ha => by
  refine Code.wp_mono (fun e a w he => ?_) (wp_region_held (Q := onlyN M) (S := I) hm ?_)
  · cases e <;> first | exact k _ _ he | exact he.elim
  · subst hsz
    have := h a _ (hA a w ha)
    simpa using this
theorem St.drew (h : St c n env G Q a w) : St c n env G Q a w.drew := h.keep (Fr.drew [] w) h.en
theorem GC.regionM {R : Exit → Asr} {M : Asr} {id m : Nat} {l : List Oper} {is js : List Nat} {GI : List Own} {QI : List Pers} (hm : P.follows .mixedOrders = true) (hsz : l.length = m) (hsel : sel G is = some (GI,Gr)) (hq : pickQ Q js = some QI) (h : GA P l.toArray M (Mem c GI QI) m (Array.replicate m false) (St c n env G Q)) (k : ∀ a w,M a w → R .normal a w) : GC P R (.region id l.toArray true) (St c n env G Q) :=
  GC.regionA hm hsz (fun a w h => h.drew) h k
end
end Go.Sx
namespace Go.Sx
open Go
section
variable {P : Program} {c : Cx} {n : Nat} {env env' : List (Nat × Value)} {G G' Gr : List Own} {Q Q' : List Pers} {d : Nat} {ty : TypeId} {pos : String} {aft : Array Edge} {g : Option (Nat × Bool)} {x y : Operand} {t : TypeId} {a a' : Act} {w w' : World}
variable {ops : Array Oper} {M A B : Asr} {I : World → Prop} {fuel : Nat} {listed : Array Bool}
theorem GA.done (hr : Region.ready .any ops listed = []) (h : ∀ a w,A a w → M a w) : GA P ops M I fuel listed A := fun a w ha => wpAnyH_done hr (h a w ha) fuel
theorem GA.ex {α : Type} {F : α → Asr} (k : ∀ x,GA P ops M I fuel listed (F x)) : GA P ops M I fuel listed (fun a w => ∃ x,F x a w) := fun a w ⟨x,hx⟩ => k x a w hx
theorem GA.imp (h : ∀ a w,A a w → B a w) (k : GA P ops M I fuel listed B) : GA P ops M I fuel listed A := fun a w ha => k a w (h a w ha)
theorem GA.split {i : Nat} {b : Bool} (hi : look env i = some (.bool b)) (ht : b = true → GA P ops M I fuel listed (St c n ((i,.bool true) :: env) G Q)) (hf : b = false → GA P ops M I fuel listed (St c n ((i,.bool false) :: env) G Q)) : GA P ops M I fuel listed (St c n env G Q) := by
  rintro a w ⟨S,he,hh,hrel⟩
  cases b
  · exact hf rfl a w ⟨S,he.over hi,hh,hrel⟩
  · exact ht rfl a w ⟨S,he.over hi,hh,hrel⟩
def Pi (P : Program) (n : Nat) (I : World → Prop) (env : List (Nat × Value)) (o : Oper) (v : Value) : Prop := ∀ a w,Env n env a → I w → (execOp a.eval o).run P w = .ok (.value v) w
theorem i_pure {o : Oper} {v : Value} (h : Pv P n env o v) : Pi P n I env o v := fun a w he _ => h a w he
theorem i_mem {c' : Cx} {GI : List Own} {QI : List Pers} {v : Value} {o : Oper} (h : Pm P c' n GI QI env o v) : Pi P n (Mem c' GI QI) env o v := fun a w he hI => h a w he hI
theorem GA.take {op : Op} {v : Value} (i : Nat) (hi : ops[i]? = some ⟨some d,op,ty,pos,aft,none⟩) (hs : Region.noSelect ops = true) (hf : Region.free .any ops listed i = true) (hr : (Region.ready .any ops listed).contains i = true) (hd : Nat.blt d n = true) (hI : ∀ a w,St c n env G Q a w → I w)
    (h : Pi P n I env ⟨some d,op,ty,pos,aft,none⟩ v) (k : GA P ops M I fuel (listed.setIfInBounds i true) (St c n ((d,v) :: env) G Q)) : GA P ops M I (fuel + 1) listed (St c n env G Q) := fun a w ha =>
  wpAnyH_take hi hs hf hr (fun _ _ _ h => h) (.inl ⟨by simp [Region.wanted],fun w' hw' => h a w' ha.en.toEnv hw'⟩) (hI a w ha) (k _ w (ha.keep (Fr.refl _ _) (ha.en.put hd v)))
def GAs (P : Program) (ops : Array Oper) (M : Asr) (I : World → Prop) (fuel : Nat) (listed : Array Bool) (A : Asr) (rs : List Nat) : Prop :=
  ∀ i ∈ rs,∀ a w,A a w → wpOp P ops (onlyN M) i (fun a' w' => I w' ∧ wpAnyH P .any ops (onlyN M) I fuel (listed.setIfInBounds i true) a' w') a w
theorem GA.all {rs : List Nat} (hr : Region.ready .any ops listed = rs) (hne : rs ≠ []) (h : GAs P ops M I fuel listed A rs) : GA P ops M I (fuel + 1) listed A := fun a w ha => wpAnyH_all hr hne fun i hi => h i hi a w ha
theorem GAs.nil : GAs P ops M I fuel listed A [] := fun i hi => by cases hi
theorem GAs.cons {o : Oper} {i : Nat} {rs : List Nat} (hi : ops[i]? = some o) (hg : o.guard = none) (h : Tr P o A B) (hI : ∀ a w,B a w → I w) (k : GA P ops M I fuel (listed.setIfInBounds i true) B) (r : GAs P ops M I fuel listed A rs) : GAs P ops M I fuel listed A (i :: rs) := by
  intro j hj a w ha
  rcases List.mem_cons.1 hj with rfl | hj
  · unfold wpOp
    rw [hi]
    simp only [Region.wanted,hg,if_true]
    exact .inl (h a w ha _ _ fun a' w' hb => ⟨hI _ _ hb,k a' w' hb⟩)
  · exact r j hj a w ha
end
end Go.Sx
namespace Go.Sx
open Go
def bytesB (P : Program) (t : TypeId) : Option Nat := (P.info? t).map (·.bytes)
structure El (P : Program) (t e : TypeId) (sz by_ : Nat) (z : List Value) : Prop where
  und : P.underlying t = some (.slice e)
  size : sizeB P e = some sz
  byt : bytesB P e = some by_
  zero : zeroL P e = some z
  zlen : z.length = sz
  spos : 0 < sz
  bpos : 0 < by_
end Go.Sx
namespace Go.Sx
open Go
section
variable {P : Program} {c : Cx} {n : Nat} {env env' : List (Nat × Value)} {G G' Gr : List Own} {Q Q' : List Pers} {d : Nat} {ty : TypeId} {pos : String} {aft : Array Edge} {g : Option (Nat × Bool)} {x y : Operand} {t : TypeId} {a a' : Act} {w w' : World}
theorem St.nilrow (h : St c n env G Q a w) (e : TypeId) (sz : Nat) : St c n env (.row (.slice none 0 0) e sz 0 [] :: G) Q a w := by
  obtain ⟨S,he,hh,hrel⟩ := h
  refine ⟨S,he,⟨fun o ho => ?_,?_,?_,hh.per⟩,hrel.fr,hrel.old,?_⟩
  · rcases List.mem_cons.1 ho with rfl | ho
    · exact World.ownsRow_nil w 0 e sz
    · exact hh.own o ho
  · simpa [keysOf,Own.keys,Value.ownBlock] using hh.nod
  · simpa [keysOf,Own.keys,Value.ownBlock] using hh.out
  · simpa [keysOf,Own.keys,Value.ownBlock] using hrel.key
theorem Tr.append {i n0 m cp sz by_ : Nat} {e : TypeId} {z : List Value} {v : Value} {cs : List Value} {A : Option Addr} {F : List Value → Prop} {QN : List Value → List Pers} {GN : Value → List Value → List Own} (hd : Nat.blt d n = true) (hel : El P t e sz by_ z)
    (hi : nthO G i = some (.row v e sz n0 cs)) (hx : ev env x = some v) (hy : ev env y = some (.slice A m cp))
    (hsrc : ∀ w S,Heap S G Q w → ∃ news,news.length = m * sz ∧ (∀ u ∈ news,u.oneCell' = true) ∧ (m = 0 ∨ ∃ ad,A = some ad ∧ CellsAt w ad news) ∧ F news ∧ ∀ q ∈ QN news,q.h w S)
    (hb : (n0 + m) * by_ ≤ 140737488355328) (hr : ∀ v' news,repl G i (.row v' e sz (n0 + m) (cs ++ news)) = some (GN v' news)) :
    Tr P ⟨some d,.call { callee := .builtin .append,args := #[x,y],argTypes := #[t,t] },ty,pos,aft,g⟩ (St c n env G Q)
      (fun a w => ∃ v' news,F news ∧ St c n ((d,v') :: env) (GN v' news) (QN news ++ Q) a w) := by
  intro a w h K R hk
  obtain ⟨S,he,hh,hrel⟩ := h
  obtain ⟨news,hl,h1,hcell,hF,hQN⟩ := hsrc w S hh
  have hown : w.ownsRow 0 e sz v n0 cs := hh.own _ (nthO_mem hi)
  obtain ⟨ie,hie,hsz⟩ := Option.map_eq_some_iff.1 hel.size
  obtain ⟨ie',hie',hby⟩ := Option.map_eq_some_iff.1 hel.byt
  rw [hie] at hie'
  obtain rfl : ie = ie' := by simpa using hie'
  obtain ⟨zv,hzv,hzz⟩ := Option.map_eq_some_iff.1 hel.zero
  have hz : ie.zero = some zv := by simpa [zeroB,hie] using hzv
  have hzs : zv.cells.size = sz := by rw [← Array.length_toList,vcells_eq,hzz]; exact hel.zlen
  have hbp := hel.bpos
  have hnm : n0 + m ≤ 140737488355328 := Nat.le_trans (Nat.le_mul_of_pos_right _ hbp) hb
  have key : ∃ v' w',(Builtin.append_ #[t,t] ty #[v,.slice A m cp]).run P w = .ok v' w' ∧ w'.ownsRow 0 e sz v' (n0 + m) (cs ++ news) ∧ w.grownBy w' v.ownBlock ∧ (v'.ownBlock = v.ownBlock ∨ v'.ownBlock = some w.heap.size) := by
    rcases A with _ | ad
    · have hm : m = 0 := by
        rcases hcell with h | ⟨_,h,_⟩
        · exact h
        · cases h
      subst hm
      have hnews : news = [] := List.eq_nil_of_length_eq_zero (by simpa using hl)
      subst hnews
      refine ⟨v,w,?_,by simpa using hown,⟨rfl,rfl,rfl,Nat.le_refl _,fun _ _ _ => rfl⟩,.inl rfl⟩
      rcases hown.2 with ⟨rfl,rfl⟩ | ⟨g',cap,cur,rfl,_,hg,hnc,_⟩
      · simp [Builtin.append_,run_underlying hel.und,run_sizeB hel.size,Builtin.lenOf,Builtin.firstCells]
      · simp [Builtin.append_,run_underlying hel.und,run_sizeB hel.size,Builtin.lenOf,Builtin.firstCells,hnc,storeCells]
    · have hc : CellsAt w ad news := by
        rcases hcell with h | ⟨ad',h,hc⟩
        · subst h
          have : news = [] := List.eq_nil_of_length_eq_zero (by simpa using hl)
          subst this
          exact CellsAt.nil w ad
        · simp only [Option.some.injEq] at h; subst h; exact hc
      obtain ⟨v',w',h2,h3,h4,_,h5⟩ := run_append_own_at (P := P) w 0 t ty e ie zv sz by_ hel.und hie hz hsz hby hzs hel.spos v n0 cs hown ad m cp news hl hc h1 (by simp only [maxLen]; omega) hb (Nat.zero_le _)
      exact ⟨v',w',h2,h3,h4,h5⟩
  obtain ⟨v',w',hrun,hown',hgrow,hat⟩ := key
  have hop : (execOp a.eval ⟨some d,.call { callee := .builtin .append,args := #[x,y],argTypes := #[t,t] },ty,pos,aft,g⟩).run P w = .ok (.value v') w' := by
    simp only [execOp,resolve,invoke,builtin,Sem.run_bind,Sem.run_pure,Result.andThen_ok,List.map_toArray,List.map_cons,List.map_nil,he.eval hx,he.eval hy,hrun]
  unfold Oper.wp
  rw [hop]
  refine hk _ _ ⟨v',news,hF,?_⟩
  have hfr : Fr (Own.row v e sz n0 cs).keys w w' := ⟨hgrow.os,hgrow.tape,hgrow.output,hgrow.size,fun k hlt hnk => hgrow.block k hlt (fun e => hnk (by simp [Own.keys,← e]))⟩
  have hkeys : ∀ k ∈ (Own.row v' e sz (n0 + m) (cs ++ news)).keys,k ∈ (Own.row v e sz n0 cs).keys ∨ w.heap.size ≤ k := by
    intro k hk'
    simp only [Own.keys] at hk' ⊢
    rcases hat with h | h
    · rw [h] at hk'; exact .inl hk'
    · rw [h] at hk'; simp at hk'; exact .inr (by omega)
  have hnd : (Own.row v' e sz (n0 + m) (cs ++ news)).keys.Nodup := by
    simp only [Own.keys]; cases v'.ownBlock <;> simp
  have base : St c n env G (QN news ++ Q) a w := ⟨S,he,⟨hh.own,hh.nod,hh.out,fun q hq => by
    rcases List.mem_append.1 hq with hq | hq
    · exact hQN q hq
    · exact hh.per q hq⟩,hrel⟩
  exact base.write hi (hr v' news) hfr hown' hkeys hnd (he.put hd v')
theorem t_append {i k n0 m cp sz by_ b : Nat} {e e' : TypeId} {z l : List Value} {v : Value} {cs : List Value} {GN : Value → List Own} (hd : Nat.blt d n = true) (hel : El P t e sz by_ z)
    (hi : nthO G i = some (.row v e sz n0 cs)) (hk : nthO G k = some (.cells b l e')) (hx : ev env x = some v) (hy : ev env y = some (.slice (some ⟨b,0,none⟩) m cp)) (hl : l.length = m * sz) (h1 : ∀ u ∈ l,u.oneCell' = true)
    (hb : (n0 + m) * by_ ≤ 140737488355328) (hr : ∀ v',repl G i (.row v' e sz (n0 + m) (cs ++ l)) = some (GN v')) :
    Tr P ⟨some d,.call { callee := .builtin .append,args := #[x,y],argTypes := #[t,t] },ty,pos,aft,g⟩ (St c n env G Q) (fun a w => ∃ v',St c n ((d,v') :: env) (GN v') Q a w) := by
  refine (Tr.append (F := fun news => news = l) (QN := fun _ => []) (GN := fun v' news => (repl G i (.row v' e sz (n0 + m) (cs ++ news))).getD []) hd hel hi hx hy (fun w S hh => ?_) hb (fun v' news => ?_)).mono (fun a w h => h) ?_
  · refine ⟨l,hl,h1,.inr ⟨_,rfl,?_⟩,rfl,fun q hq => by cases hq⟩
    exact cellsAt_blk (hh.own _ (nthO_mem hk)) (o := 0) (fun j u hj => by rwa [Nat.zero_add])
  · have : ∃ G2,repl G i (.row v' e sz (n0 + m) (cs ++ news)) = some G2 := by
      have key : ∀ (G : List Own) (i : Nat) (o o' : Own),nthO G i = some o → ∃ G2,repl G i o' = some G2 := by
        intro G
        induction G with
        | nil => intro i o o' h; simp [nthO] at h
        | cons p r ih =>
          intro i o o' h
          cases i with
          | zero => exact ⟨_,rfl⟩
          | succ i =>
            obtain ⟨G2,h2⟩ := ih i o o' h
            exact ⟨p :: G2,by simp [repl,h2]⟩
      exact key G i _ _ hi
    obtain ⟨G2,h2⟩ := this
    simp [h2]
  · rintro a w ⟨v',news,rfl,h⟩
    refine ⟨v',?_⟩
    rw [hr v'] at h
    exact h
theorem t_appendS {α : Type} {enc : α → Value} {h1 : ∀ x,(enc x).oneCell' = true} {xs : List α} {i k n0 cp by_ : Nat} {e : TypeId} {z : List Value} {v : Value} {cs : List Value} {A : Option Addr} {GN : Value → List Own} (hd : Nat.blt d n = true) (hel : El P t e 1 by_ z)
    (hi : nthO G i = some (.row v e 1 n0 cs)) (hk : nthO Q k = some (Pers.row (Kd.sc enc h1) A xs)) (hx : ev env x = some v) (hy : ev env y = some (.slice A xs.length cp))
    (hb : (n0 + xs.length) * by_ ≤ 140737488355328) (hr : ∀ v',repl G i (.row v' e 1 (n0 + xs.length) (cs ++ xs.map enc)) = some (GN v')) :
    Tr P ⟨some d,.call { callee := .builtin .append,args := #[x,y],argTypes := #[t,t] },ty,pos,aft,g⟩ (St c n env G Q) (fun a w => ∃ v',St c n ((d,v') :: env) (GN v') Q a w) := by
  have key : ∀ (G : List Own) (i : Nat) (o o' : Own),nthO G i = some o → ∃ G2,repl G i o' = some G2 := by
    intro G
    induction G with
    | nil => intro i o o' h; simp [nthO] at h
    | cons p r ih =>
      intro i o o' h
      cases i with
      | zero => exact ⟨_,rfl⟩
      | succ i =>
        obtain ⟨G2,h2⟩ := ih i o o' h
        exact ⟨p :: G2,by simp [repl,h2]⟩
  refine (Tr.append (F := fun news => news = xs.map enc) (QN := fun _ => []) (GN := fun v' news => (repl G i (.row v' e 1 (n0 + xs.length) (cs ++ news))).getD []) hd hel hi hx hy (fun w S hh => ?_) hb (fun v' news => ?_)).mono (fun a w h => h) ?_
  · refine ⟨xs.map enc,by simp,fun u hu => ?_,?_,rfl,fun q hq => by cases hq⟩
    · obtain ⟨x,_,rfl⟩ := List.mem_map.1 hu; exact h1 x
    · rcases row_scalar (hh.per _ (nthO_mem hk)) with h | ⟨ad,h,_,_,hc⟩
      · left; rw [h]; rfl
      · exact .inr ⟨ad,h,hc⟩
  · obtain ⟨G2,h2⟩ := key G i _ (.row v' e 1 (n0 + xs.length) (cs ++ news)) hi
    simp [h2]
  · rintro a w ⟨v',news,rfl,h⟩
    refine ⟨v',?_⟩
    rw [hr v'] at h
    exact h
def slA (A : Option Addr) (sz lo mx : Nat) : Option Addr := if mx = lo then A else A.map (·.add (lo * sz))
end
end Go.Sx
namespace Go.Sx
open Go
def gt {α : Type} [Inhabited α] (xs : List α) (i : Int) : α := xs.getD i.toNat default
theorem gt_ok {α : Type} [Inhabited α] {xs : List α} {i : Int} (h0 : 0 ≤ i) (h : i < (xs.length : Int)) : xs[i.toNat]? = some (gt xs i) := by
  have : i.toNat < xs.length := by omega
  simp [gt,List.getD_eq_getElem?_getD,this]
theorem w64 {x : Int} (h0 : -9223372036854775808 ≤ x) (h1 : x ≤ 9223372036854775807) : IntKind.i64.wrap x = x := IntWalk.i64_in _ ⟨h0,h1⟩
end Go.Sx
namespace Go.Sx
open Go
section
variable {P : Program} {c : Cx} {n : Nat} {env env' : List (Nat × Value)} {G G' Gr : List Own} {Q Q' : List Pers} {d : Nat} {ty : TypeId} {pos : String} {aft : Array Edge} {g : Option (Nat × Bool)} {x y : Operand} {t : TypeId} {a a' : Act} {w w' : World}
variable {ops : Array Oper} {R : Exit → Asr} {rest : List Oper} {A B : Asr} {cd : Code}
theorem GL.and {p : Prop} (k : p → GL P ops R rest A) : GL P ops R rest (fun a w => p ∧ A a w) := fun a w ⟨hp,ha⟩ => k hp a w ha
theorem GC.and {p : Prop} (k : p → GC P R cd A) : GC P R cd (fun a w => p ∧ A a w) := fun a w ⟨hp,ha⟩ => k hp a w ha
theorem GA.and {M : Asr} {I : World → Prop} {fuel : Nat} {listed : Array Bool} {p : Prop} (k : p → GA P ops M I fuel listed A) : GA P ops M I fuel listed (fun a w => p ∧ A a w) := fun a w ⟨hp,ha⟩ => k hp a w ha
theorem GL.ret {F : Value → List Own → List Pers → Prop} {Z : Value → List Own → List Pers → Asr} (k : ∀ v G2 Q2,F v G2 Q2 → GL P ops R rest (Z v G2 Q2)) : GL P ops R rest (fun a w => ∃ v G2 Q2,F v G2 Q2 ∧ Z v G2 Q2 a w) := fun a w ⟨v,G2,Q2,hF,hZ⟩ => k v G2 Q2 hF a w hZ
theorem GL.retL {F : Value → List Own → List Pers → Prop} {Z : Value → List Own → Asr} (k : ∀ v G2,F v G2 [] → GL P ops R rest (Z v G2)) : GL P ops R rest (fun a w => ∃ v G2,F v G2 [] ∧ Z v G2 a w) := fun a w ⟨v,G2,hF,hZ⟩ => k v G2 hF a w hZ
theorem GA.ret {M : Asr} {I : World → Prop} {fuel : Nat} {listed : Array Bool} {F : Value → List Own → List Pers → Prop} {Z : Value → List Own → List Pers → Asr} (k : ∀ v G2 Q2,F v G2 Q2 → GA P ops M I fuel listed (Z v G2 Q2)) : GA P ops M I fuel listed (fun a w => ∃ v G2 Q2,F v G2 Q2 ∧ Z v G2 Q2 a w) := fun a w ⟨v,G2,Q2,hF,hZ⟩ => k v G2 Q2 hF a w hZ
theorem GC.st (h : ∀ a w,St c n env G Q a w → St c n env' G' Q' a w) (k : GC P R cd (St c n env' G' Q')) : GC P R cd (St c n env G Q) := GC.imp h k
theorem GL.st (h : ∀ a w,St c n env G Q a w → St c n env' G' Q' a w) (k : GL P ops R rest (St c n env' G' Q')) : GL P ops R rest (St c n env G Q) := GL.imp h k
theorem GC.know {q : Pers} (hq : ∀ w S,(∀ p ∈ Q,p.h w S) → q.h w S) (k : GC P R cd (St c n env G (q :: Q))) : GC P R cd (St c n env G Q) := GC.imp (fun a w h => h.know hq) k
theorem GL.know {q : Pers} (hq : ∀ w S,(∀ p ∈ Q,p.h w S) → q.h w S) (k : GL P ops R rest (St c n env G (q :: Q))) : GL P ops R rest (St c n env G Q) := GL.imp (fun a w h => h.know hq) k
theorem GC.freeze {i : Nat} {o : Own} {QN : List Pers} (ht : takeO G i = some (o,G')) (hq : ∀ w S,o.holds w → (∀ k ∈ o.keys,S k) → (∀ p ∈ Q,p.h w S) → ∀ q ∈ QN,q.h w S) (k : GC P R cd (St c n env G' (QN ++ Q))) : GC P R cd (St c n env G Q) := GC.imp (fun a w h => h.freeze ht hq) k
theorem GL.freeze {i : Nat} {o : Own} {QN : List Pers} (ht : takeO G i = some (o,G')) (hq : ∀ w S,o.holds w → (∀ k ∈ o.keys,S k) → (∀ p ∈ Q,p.h w S) → ∀ q ∈ QN,q.h w S) (k : GL P ops R rest (St c n env G' (QN ++ Q))) : GL P ops R rest (St c n env G Q) := GL.imp (fun a w h => h.freeze ht hq) k
theorem GC.nilrow (e : TypeId) (sz : Nat) (k : GC P R cd (St c n env (.row (.slice none 0 0) e sz 0 [] :: G) Q)) : GC P R cd (St c n env G Q) := GC.imp (fun a w h => h.nilrow e sz) k
theorem GL.nilrow (e : TypeId) (sz : Nat) (k : GL P ops R rest (St c n env (.row (.slice none 0 0) e sz 0 [] :: G) Q)) : GL P ops R rest (St c n env G Q) := GL.imp (fun a w h => h.nilrow e sz) k
theorem St.shape {i e sz m : Nat} {v : Value} {cs : List Value} (h : St c n env G Q a w) (hi : nthO G i = some (.row v e sz m cs)) : ∃ A cp,v = .slice A m cp ∧ m ≤ cp ∧ cp ≤ 9223372036854775807 := by
  have := h.own hi
  rcases this.2 with ⟨rfl,rfl⟩ | ⟨g,cap,cur,rfl,_,_,h1,h2,_⟩
  · exact ⟨none,0,rfl,by omega,by omega⟩
  · exact ⟨_,cap,rfl,h1,by simpa [maxLen] using h2⟩
theorem GC.shape {i e sz m : Nat} {v : Value} {cs : List Value} (hi : nthO G i = some (.row v e sz m cs)) (k : ∀ A cp,v = .slice A m cp → m ≤ cp → cp ≤ 9223372036854775807 → GC P R cd (St c n env G Q)) : GC P R cd (St c n env G Q) := fun a w h => by
  obtain ⟨A,cp,h1,h2,h3⟩ := h.shape hi
  exact k A cp h1 h2 h3 a w h
theorem GL.shape {i e sz m : Nat} {v : Value} {cs : List Value} (hi : nthO G i = some (.row v e sz m cs)) (k : ∀ A cp,v = .slice A m cp → m ≤ cp → cp ≤ 9223372036854775807 → GL P ops R rest (St c n env G Q)) : GL P ops R rest (St c n env G Q) := fun a w h => by
  obtain ⟨A,cp,h1,h2,h3⟩ := h.shape hi
  exact k A cp h1 h2 h3 a w h
theorem row_pers {α : Type} {kd : Kd α} {e m cp : Nat} {A : Option Addr} {xs : List α} {cs : List Value} {w : World} {S : Blocks} (h : (Own.row (.slice A m cp) e kd.sz m cs).holds w) (hS : ∀ k ∈ (Own.row (.slice A m cp) e kd.sz m cs).keys,S k) (hr : Reps kd w S xs cs) (hp : 0 < kd.sz) : (Pers.row kd A xs).h w S := by
  obtain ⟨hl,h⟩ := h
  rcases h with ⟨hv,hn⟩ | ⟨g,cap,cur,hv,_,hg,hnc,_,hcs,htk⟩
  · left
    have : xs.length * kd.sz = 0 := by rw [← hr.length,hl,hn,Nat.zero_mul]
    have h0 := hr.length
    rcases Nat.mul_eq_zero.1 this with h1 | h1
    · exact List.eq_nil_of_length_eq_zero h1
    · omega
  · right
    simp only [Value.slice.injEq] at hv
    obtain ⟨rfl,_,_⟩ := hv
    refine ⟨_,rfl,rowAt_of hr (hS g (by simp [Own.keys,Value.ownBlock])) (Array.getElem?_eq_some_iff.1 hg).1 ?_⟩
    refine cellsAt_blk (l := cur.toList) (by simpa using hg) fun j u hj => ?_
    rw [← htk,List.getElem?_take] at hj
    split at hj
    · simpa using hj
    · cases hj
theorem cells_row {b e sz m : Nat} {l : List Value} (hl : l.length = m * sz) (hm : m ≤ 9223372036854775807) : ∀ w,(Own.cells b l e).holds w → (Own.row (.slice (some ⟨b,0,none⟩) m m) e sz m l).holds w := fun w h =>
  ⟨hl,.inr ⟨b,m,l.toArray,rfl,Nat.zero_le _,h,Nat.le_refl _,by simpa [maxLen] using hm,by simpa using hl,by simp [← hl]⟩⟩
theorem GL.torow {i b e m sz : Nat} {l : List Value} (hi : nthO G i = some (.cells b l e)) (hl : l.length = m * sz) (hm : m ≤ 9223372036854775807) (hr : repl G i (.row (.slice (some ⟨b,0,none⟩) m m) e sz m l) = some G') (k : GL P ops R rest (St c n env G' Q)) : GL P ops R rest (St c n env G Q) :=
  GL.imp (fun a w h => h.recast hi hr rfl (cells_row hl hm)) k
theorem GA.torow {M : Asr} {I : World → Prop} {fuel : Nat} {listed : Array Bool} {i b e m sz : Nat} {l : List Value} (hi : nthO G i = some (.cells b l e)) (hl : l.length = m * sz) (hm : m ≤ 9223372036854775807) (hr : repl G i (.row (.slice (some ⟨b,0,none⟩) m m) e sz m l) = some G') (k : GA P ops M I fuel listed (St c n env G' Q)) : GA P ops M I fuel listed (St c n env G Q) :=
  GA.imp (fun a w h => h.recast hi hr rfl (cells_row hl hm)) k
theorem GA.nilrow {M : Asr} {I : World → Prop} {fuel : Nat} {listed : Array Bool} (e : TypeId) (sz : Nat) (k : GA P ops M I fuel listed (St c n env (.row (.slice none 0 0) e sz 0 [] :: G) Q)) : GA P ops M I fuel listed (St c n env G Q) := GA.imp (fun a w h => h.nilrow e sz) k
theorem GC.torow {i b e m sz : Nat} {l : List Value} (hi : nthO G i = some (.cells b l e)) (hl : l.length = m * sz) (hm : m ≤ 9223372036854775807) (hr : repl G i (.row (.slice (some ⟨b,0,none⟩) m m) e sz m l) = some G') (k : GC P R cd (St c n env G' Q)) : GC P R cd (St c n env G Q) :=
  GC.imp (fun a w h => h.recast hi hr rfl (cells_row hl hm)) k
theorem St.freezeB {i e m cp : Nat} {A : Option Addr} {xs : List UInt8} (h : St c n env G Q a w) (ht : takeO G i = some (.row (.slice A m cp) e 1 m (xs.map fun b => Value.int .u8 (b.toNat : Int)),G')) : St c n env G' (Pers.row Kd.u8 A xs :: Q) a w :=
  h.freeze (QN := [Pers.row Kd.u8 A xs]) ht fun w S ho hS _ q hq => by
    rw [List.mem_singleton.1 hq]
    exact row_pers (kd := Kd.u8) ho hS (scalar_reps xs) (by decide)
theorem GL.freezeB {i e m cp : Nat} {A : Option Addr} {xs : List UInt8} (ht : takeO G i = some (.row (.slice A m cp) e 1 m (xs.map fun b => Value.int .u8 (b.toNat : Int)),G')) (k : GL P ops R rest (St c n env G' (Pers.row Kd.u8 A xs :: Q))) : GL P ops R rest (St c n env G Q) := GL.imp (fun a w h => h.freezeB ht) k
theorem GC.freezeB {i e m cp : Nat} {A : Option Addr} {xs : List UInt8} (ht : takeO G i = some (.row (.slice A m cp) e 1 m (xs.map fun b => Value.int .u8 (b.toNat : Int)),G')) (k : GC P R cd (St c n env G' (Pers.row Kd.u8 A xs :: Q))) : GC P R cd (St c n env G Q) := GC.imp (fun a w h => h.freezeB ht) k
theorem GA.freezeB {M : Asr} {I : World → Prop} {fuel : Nat} {listed : Array Bool} {i e m cp : Nat} {A : Option Addr} {xs : List UInt8} (ht : takeO G i = some (.row (.slice A m cp) e 1 m (xs.map fun b => Value.int .u8 (b.toNat : Int)),G')) (k : GA P ops M I fuel listed (St c n env G' (Pers.row Kd.u8 A xs :: Q))) : GA P ops M I fuel listed (St c n env G Q) := GA.imp (fun a w h => h.freezeB ht) k
theorem St.mem {is js : List Nat} (h : St c n env G Q a w) (hsel : sel G is = some (G',Gr)) (hq : pickQ Q js = some Q') : Mem c G' Q' w := by
  obtain ⟨S,he,hh,hrel⟩ := h
  have hp := sel_perm hsel
  exact ⟨S,(hh.perm hp).sub (List.sublist_append_left _ _) (pickQ_mem hq),(hrel.perm hp).fr,hrel.old,fun k hk => (hrel.perm hp).key k (by rw [keysOf_append]; exact List.mem_append_left _ hk)⟩
theorem run_str {src dst e : TypeId} {A : Option Addr} {cp : Nat} {xs : List UInt8} (hs : P.underlying src = some (.slice e)) (he : P.underlying e = some (.int .u8)) (hd : P.underlying dst = some .string) (h : xs = [] ∨ ∃ p,A = some p ∧ CellsAt w p (xs.map fun b => Value.int .u8 (b.toNat : Int))) :
    (convert src dst (.slice A xs.length cp)).run P w = .ok (.string ⟨xs.toArray⟩) w := by
  rcases A with _ | p
  · have hx : xs = [] := by
      rcases h with h | ⟨p,h,_⟩
      · exact h
      · cases h
    subst hx
    exact run_convert_bytes_nil w src e hs he 0 cp dst hd
  · have hc : CellsAt w p (xs.map fun b => Value.int .u8 (b.toNat : Int)) := by
      rcases h with h | ⟨p',h,hc⟩
      · subst h; exact CellsAt.nil w p
      · simp only [Option.some.injEq] at h; subst h; exact hc
    have hl := run_loadCells_list (P := P) w p _ hc
    rw [List.length_map] at hl
    have hm : (xs.map fun b => Value.int .u8 (b.toNat : Int)) = (xs.map fun b => (b.toNat : Int)).map (Value.int .u8) := by simp
    rw [hm] at hl
    rw [run_convert_bytes_string w src dst e _ xs.length cp hs he hd,run_bytesToString w p xs.length cp (xs.map fun b => (b.toNat : Int)) hl,foldl_push_bytes]
    have hx : (xs.map fun b => (b.toNat : Int)).map (fun n => UInt8.ofNat n.toNat) = xs := by
      rw [List.map_map]
      conv => rhs; rw [← List.map_id xs]
      exact List.map_congr_left fun b _ => by simp
    rw [hx]
    simp [ByteArray.empty,ByteArray.emptyWithCapacity]
    rfl
theorem m_str {i : Nat} {src dst e : TypeId} {A : Option Addr} {cp : Nat} {xs : List UInt8} (hi : nthO Q i = some (Pers.row Kd.u8 A xs)) (hx : ev env x = some (.slice A xs.length cp)) (hs : P.underlying src = some (.slice e)) (he : P.underlying e = some (.int .u8)) (hd : P.underlying dst = some .string) :
    Pm P c n G Q env ⟨some d,.convert src dst x,ty,pos,aft,g⟩ (.string ⟨xs.toArray⟩) := fun a w hen hm => by
  obtain ⟨S,hq⟩ := hm.per hi
  have h : xs = [] ∨ ∃ p,A = some p ∧ CellsAt w p (xs.map fun b => Value.int .u8 (b.toNat : Int)) := by
    rcases row_scalar hq with h | ⟨p,h,_,_,hc⟩
    · exact .inl h
    · exact .inr ⟨p,h,hc⟩
  simp only [execOp,hen.eval hx,Sem.run_bind,run_str hs he hd h,Result.andThen_ok,Sem.run_pure]
theorem Ct.pure {f : FuncId} {args : List Value} {F : Value → List Own → List Pers → Prop} {p : Prop} (hp : ∀ w S,Heap S G Q w → p) (h : p → Ct P f args G Q F) : Ct P f args G Q F := fun w S hh => h (hp w S hh) w S hh
theorem row_none {α : Type} {kd : Kd α} {xs : List α} {w : World} {S : Blocks} (h : (Pers.row kd none xs).h w S) : xs = [] := by
  rcases h with h | ⟨a,h,_⟩
  · exact h
  · cases h
theorem bool_true_eq_ (b : Bool) : (true = b) = (b = true) := by cases b <;> simp
theorem bool_false_eq_ (b : Bool) : (false = b) = (b = false) := by cases b <;> simp
theorem tst_ : (∀ (p : Prop) [Decidable p],(decide p = true) = p) ∧ (∀ (p : Prop) [Decidable p],(decide p = false) = ¬ p) ∧ (∀ b : Bool,((!b) = true) = (b = false)) ∧ (∀ b : Bool,((!b) = false) = (b = true)) ∧ ((!true) = false) ∧ ((!false) = true) ∧ (∀ b : Bool,(!!b) = b) ∧ (∀ (α : Type) (a b : α),(a ≠ b) = ¬ a = b) ∧ (∀ (p : Prop) [Decidable p],(¬¬ p) = p) ∧ (∀ a b : Int,(¬ a < b) = (b ≤ a)) ∧ (∀ a b : Int,(¬ a ≤ b) = (b < a)) ∧ (∀ a b : Int,(a > b) = (b < a)) ∧ (∀ a b : Int,(a ≥ b) = (b ≤ a)) ∧ (∀ a b : Nat,(a > b) = (b < a)) ∧ (∀ a b : Nat,(a ≥ b) = (b ≤ a)) ∧ (∀ b : Bool,(true = b) = (b = true)) ∧ (∀ b : Bool,(false = b) = (b = false)) :=
  ⟨fun p _ => by simp,fun p _ => by simp,fun b => by simp,fun b => by simp,rfl,rfl,fun b => by simp,fun α a b => rfl,fun p _ => by simp,fun a b => by simp,fun a b => by simp,fun a b => rfl,fun a b => rfl,fun a b => rfl,fun a b => rfl,fun b => bool_true_eq_ b,fun b => bool_false_eq_ b⟩
end
end Go.Sx
namespace Go.Sx
open Go
def mget {α : Type} : List (Int × α) → Int → Option α
  | [],_ => none
  | (k,x) :: r,j => if k = j then some x else mget r j
def mput {α : Type} : List (Int × α) → Int → α → List (Int × α)
  | [],j,y => [(j,y)]
  | (k,x) :: r,j,y => if k = j then (j,y) :: r else (k,x) :: mput r j y
theorem mget_mput_same {α : Type} (T : List (Int × α)) (j : Int) (y : α) : mget (mput T j y) j = some y := by
  induction T with
  | nil => simp [mput,mget]
  | cons p r ih =>
    obtain ⟨k,x⟩ := p
    by_cases h : k = j <;> simp [mput,mget,h,ih]
theorem mget_mput_other {α : Type} (T : List (Int × α)) {i j : Int} (y : α) (h : i ≠ j) : mget (mput T j y) i = mget T i := by
  induction T with
  | nil => simp [mput,mget]; omega
  | cons p r ih =>
    obtain ⟨k,x⟩ := p
    by_cases hk : k = j
    · subst hk
      have : ¬ k = i := fun e => h e.symm
      simp [mput,mget,this]
    · by_cases hi : k = i
      · simp only [mput,if_neg hk,mget,if_pos hi]
      · simp only [mput,if_neg hk,mget,if_neg hi,ih]
def mkV (agg : Bool) (cs : List Value) : Value := if agg then .agg cs.toArray else cs.headD undef
def MapReps {α : Type} (d : Kd α) (agg : Bool) (w : World) (S : Blocks) : List (Int × α) → List MapEntry → Prop
  | [],[] => True
  | (k,x) :: T,e :: es => e.key = .int .i64 k ∧ (∃ cs,e.val = mkV agg cs ∧ d.K w S x cs) ∧ MapReps d agg w S T es
  | _,_ => False
theorem MapReps.st {α : Type} {d : Kd α} {agg : Bool} {w w' : World} {S S' : Blocks} (hm : ∀ k,S k → k < w.heap.size → S' k ∧ w'.heap[k]? = w.heap[k]?) : ∀ {T : List (Int × α)} {es : List MapEntry},MapReps d agg w S T es → MapReps d agg w' S' T es
  | [],[],h => trivial
  | (k,x) :: T,e :: es,⟨h1,⟨cs,h2,h3⟩,h4⟩ => ⟨h1,⟨cs,h2,Kd.K_st h3 hm⟩,MapReps.st hm h4⟩
  | [],_ :: _,h => h.elim
  | _ :: _,[],h => h.elim
theorem MapReps.length {α : Type} {d : Kd α} {agg : Bool} {w : World} {S : Blocks} : ∀ {T : List (Int × α)} {es : List MapEntry},MapReps d agg w S T es → es.length = T.length
  | [],[],h => rfl
  | (k,x) :: T,e :: es,⟨_,_,h4⟩ => by simp [MapReps.length h4]
  | [],_ :: _,h => h.elim
  | _ :: _,[],h => h.elim
def Stamped (es : Array MapEntry) (ck : Nat) : Prop := (∀ x ∈ es.toList,x.born < ck) ∧ (es.toList.map (·.born)).Nodup
theorem Stamped.nil : Stamped #[] 0 := ⟨by simp,by simp⟩
theorem Stamped.push {es : Array MapEntry} {ck : Nat} (h : Stamped es ck) (k v : Value) : Stamped (es.push { key := k,val := v,born := ck }) (ck + 1) := by
  constructor
  · intro x hx
    simp only [Array.toList_push,List.mem_append,List.mem_singleton] at hx
    rcases hx with hx | rfl
    · exact Nat.lt_succ_of_lt (h.1 x hx)
    · exact Nat.lt_succ_self _
  · rw [Array.toList_push,List.map_append,List.nodup_append]
    refine ⟨h.2,by simp,fun a ha b hb e => ?_⟩
    obtain ⟨x,hx,rfl⟩ := List.mem_map.1 ha
    simp only [List.map_cons,List.map_nil,List.mem_singleton] at hb
    have := h.1 x hx
    omega
theorem Stamped.modify {es : Array MapEntry} {ck : Nat} (h : Stamped es ck) (j : Nat) (k v : Value) : Stamped (es.modify j fun e => { e with key := k,val := v }) ck := by
  have e : (es.modify j fun e => { e with key := k,val := v }).toList.map (·.born) = es.toList.map (·.born) := by
    apply List.ext_getElem?
    intro i
    simp only [Array.toList_modify,List.getElem?_map,List.getElem?_modify]
    cases es.toList[i]? with
    | none => rfl
    | some x => by_cases hij : j = i <;> simp [hij]
  refine ⟨fun x hx => ?_,by rw [e]; exact h.2⟩
  have hb : x.born ∈ (es.modify j fun e => { e with key := k,val := v }).toList.map (·.born) := List.mem_map.2 ⟨x,hx,rfl⟩
  rw [e] at hb
  obtain ⟨y,hy,hy2⟩ := List.mem_map.1 hb
  rw [← hy2]
  exact h.1 y hy
def Pers.map {α : Type} (d : Kd α) (agg : Bool) (T : List (Int × α)) (es : Array MapEntry) (ck : Nat) : Pers where
  h := fun w S => MapReps d agg w S T es.toList ∧ Stamped es ck
  st := fun h hm => ⟨MapReps.st hm h.1,h.2⟩
theorem find_none {α : Type} {d : Kd α} {agg : Bool} {w : World} {S : Blocks} {k : Int} : ∀ {T : List (Int × α)} {es : List MapEntry} (i : Nat),MapReps d agg w S T es → mget T k = none → Instr.findNow (.int .i64) (.int .i64 k) es i = some none
  | [],[],i,_,_ => rfl
  | (j,x) :: T,e :: es,i,⟨h1,_,h4⟩,hn => by
    by_cases hj : j = k
    · simp [mget,hj] at hn
    · simp only [mget,if_neg hj] at hn
      have hb : (k == j) = false := by simp; exact fun e => hj e.symm
      simp only [Instr.findNow,h1,Instr.sameNow,if_true,hb]
      exact find_none (i + 1) h4 hn
  | [],_ :: _,_,h,_ => h.elim
  | _ :: _,[],_,h,_ => h.elim
theorem find_some {α : Type} {d : Kd α} {agg : Bool} {w : World} {S : Blocks} {k : Int} {x : α} : ∀ {T : List (Int × α)} {es : List MapEntry} (i : Nat),MapReps d agg w S T es → mget T k = some x →
    ∃ j v cs,Instr.findNow (.int .i64) (.int .i64 k) es i = some (some (i + j,v)) ∧ v = mkV agg cs ∧ d.K w S x cs ∧ (∃ e,es[j]? = some e ∧ e.key = .int .i64 k) ∧
      ∀ (y : α) (cs' : List Value),d.K w S y cs' → MapReps d agg w S (mput T k y) (es.modify j fun e => { e with key := .int .i64 k,val := mkV agg cs' })
  | [],[],i,_,h => by simp [mget] at h
  | (j,z) :: T,e :: es,i,⟨h1,⟨cs,h2,h3⟩,h4⟩,hs => by
    by_cases hj : j = k
    · subst hj
      simp only [mget,if_true,Option.some.injEq] at hs
      subst hs
      refine ⟨0,e.val,cs,?_,h2,h3,⟨e,rfl,h1⟩,fun y cs' hy => ?_⟩
      · simp [Instr.findNow,h1,Instr.sameNow]
      · simp only [mput,if_true,List.modify_zero_cons]
        exact ⟨rfl,⟨cs',rfl,hy⟩,h4⟩
    · simp only [mget,if_neg hj] at hs
      have hb : (k == j) = false := by simp; exact fun e => hj e.symm
      obtain ⟨j',v,cs',h5,h6,h7,⟨e',h8,h9⟩,h10⟩ := find_some (i + 1) h4 hs
      refine ⟨j' + 1,v,cs',?_,h6,h7,⟨e',by simpa using h8,h9⟩,fun y c hy => ?_⟩
      · simp only [Instr.findNow,h1,Instr.sameNow,if_true,hb]
        rw [h5]
        congr 3
        omega
      · simp only [mput,if_neg hj,List.modify_succ_cons]
        exact ⟨h1,⟨cs,h2,h3⟩,h10 y c hy⟩
  | [],_ :: _,_,h,_ => h.elim
  | _ :: _,[],_,h,_ => h.elim
theorem MapReps.push {α : Type} {d : Kd α} {agg : Bool} {w : World} {S : Blocks} {k : Int} {y : α} {cs : List Value} {b : Nat} (hy : d.K w S y cs) : ∀ {T : List (Int × α)} {es : List MapEntry},MapReps d agg w S T es → mget T k = none → MapReps d agg w S (mput T k y) (es ++ [{ key := .int .i64 k,val := mkV agg cs,born := b }])
  | [],[],_,_ => ⟨rfl,⟨cs,rfl,hy⟩,trivial⟩
  | (j,z) :: T,e :: es,⟨h1,h2,h4⟩,hn => by
    by_cases hj : j = k
    · simp [mget,hj] at hn
    · simp only [mget,if_neg hj] at hn
      simp only [mput,if_neg hj,List.cons_append]
      exact ⟨h1,h2,MapReps.push hy h4 hn⟩
  | [],_ :: _,h,_ => h.elim
  | _ :: _,[],h,_ => h.elim
end Go.Sx
namespace Go.Sx
open Go
section
variable {P : Program} {c : Cx} {n : Nat} {env env' : List (Nat × Value)} {G G' Gr : List Own} {Q Q' : List Pers} {d : Nat} {ty : TypeId} {pos : String} {aft : Array Edge} {g : Option (Nat × Bool)} {x y z : Operand} {t kt et : TypeId} {a a' : Act} {w w' : World}
variable {ops : Array Oper} {R : Exit → Asr} {rest : List Oper} {A B : Asr} {cd : Code}
theorem GL.or (h1 : GL P ops R rest A) (h2 : GL P ops R rest B) : GL P ops R rest (fun a w => A a w ∨ B a w) := fun a w h => h.elim (h1 a w) (h2 a w)
theorem GA.or {M : Asr} {I : World → Prop} {fuel : Nat} {listed : Array Bool} (h1 : GA P ops M I fuel listed A) (h2 : GA P ops M I fuel listed B) : GA P ops M I fuel listed (fun a w => A a w ∨ B a w) := fun a w h => h.elim (h1 a w) (h2 a w)
theorem GC.or (h1 : GC P R cd A) (h2 : GC P R cd B) : GC P R cd (fun a w => A a w ∨ B a w) := fun a w h => h.elim (h1 a w) (h2 a w)
theorem run_checkKey {e : Nat} {b : Bool} {k : Int} (hk : P.underlying kt = some (.int .i64)) (w : World) : (Instr.checkKey b (e + 1) kt (.int .i64 k)).run P w = .ok () w := by
  simp only [Instr.checkKey,Sem.run_bind,run_underlying hk,Result.andThen_ok]
  rfl
theorem run_getMap {m : Nat} {es : Array MapEntry} {ck : Nat} (h : w.heap[m]? = some (.map es ck)) : (getObj m).run P w = .ok (.map es ck) w := by
  simp [getObj,Sem.run,h]
theorem t_lookup {α : Type} {kd : Kd α} {i j m ck : Nat} {es : Array MapEntry} {T : List (Int × α)} {k : Int} {zz : List Value} (hd : Nat.blt d n = true) (hi : nthO G i = some (.blk m (.map es ck))) (hj : nthO Q j = some (Pers.map kd true T es ck)) (hx : ev env x = some (.map (some m))) (hy : ev env y = some (.int .i64 k))
    (ht : P.underlying t = some (.map kt et)) (hk : P.underlying kt = some (.int .i64)) (hz : zeroL P et = some zz) (hg : ∃ z,zeroB P et = some (.agg z)) :
    Tr P ⟨some d,.lookup t x y true,ty,pos,aft,g⟩ (St c n env G Q) (fun a w => (mget T k = none ∧ St c n ((d,.tuple #[.agg zz.toArray,.bool false]) :: env) G Q a w) ∨
      (∃ u r,mget T k = some u ∧ kd.ok u r ∧ St c n ((d,.tuple #[.agg (kd.cells u r).toArray,.bool true]) :: env) G (kd.pers u r ++ Q) a w)) := by
  intro a w h K R hk'
  have hblk : w.heap[m]? = some (.map es ck) := h.own hi
  obtain ⟨S,he,hh,hrel⟩ := h
  have hm : MapReps kd true w S T es.toList := (hh.per _ (nthO_mem hj)).1
  obtain ⟨za,hza⟩ := hg
  have hzz : zz = za.toList := by
    obtain ⟨zv,h1,h2⟩ := Option.map_eq_some_iff.1 hz
    rw [hza] at h1
    simp only [Option.some.injEq] at h1
    subst h1
    exact h2.symm
  cases hT : mget T k with
  | none =>
    have hf := find_none 0 hm hT
    have hrun : (execOp a.eval ⟨some d,.lookup t x y true,ty,pos,aft,g⟩).run P w = .ok (.value (.tuple #[.agg zz.toArray,.bool false])) w := by
      simp only [execOp,he.eval hx,he.eval hy,Instr.lookup,Sem.run_bind,run_underlying ht,Result.andThen_ok,run_getMap hblk,Sem.run_pure,run_checkKey (e := 9999) hk,Instr.findKey,run_underlying hk,hf,run_zeroB hza,if_true,hzz,Array.toArray_toList]
    unfold Oper.wp
    rw [hrun]
    exact hk' _ _ (.inl ⟨hT,S,he.put hd _,hh,hrel⟩)
  | some u =>
    obtain ⟨j',v,cs,hf,hv,⟨r,hok,hcs,hper⟩,_,_⟩ := find_some 0 hm hT
    have hrun : (execOp a.eval ⟨some d,.lookup t x y true,ty,pos,aft,g⟩).run P w = .ok (.value (.tuple #[.agg (kd.cells u r).toArray,.bool true])) w := by
      simp only [execOp,he.eval hx,he.eval hy,Instr.lookup,Sem.run_bind,run_underlying ht,Result.andThen_ok,run_getMap hblk,Sem.run_pure,run_checkKey (e := 9999) hk,Instr.findKey,run_underlying hk,hf,if_true,hv,mkV,hcs]
    unfold Oper.wp
    rw [hrun]
    refine hk' _ _ (.inr ⟨u,r,hT,hok,S,he.put hd _,⟨hh.own,hh.nod,hh.out,fun q hq => ?_⟩,hrel⟩)
    rcases List.mem_append.1 hq with hq | hq
    · exact hper q hq
    · exact hh.per q hq
theorem run_setMap {m : Nat} {es es' : Array MapEntry} {ck ck' : Nat} (h : w.heap[m]? = some (.map es ck)) : (setObj m (.map es' ck')).run P w = .ok () { w with heap := w.heap.setIfInBounds m (.map es' ck') } := by
  simp [setObj,Sem.run,h]
theorem Fr.setObj {m : Nat} {o : Obj} (w : World) : Fr [m] w { w with heap := w.heap.setIfInBounds m o } :=
  ⟨rfl,rfl,rfl,by simp,fun k hk hn => by simp only [List.mem_singleton] at hn; exact Array.getElem?_setIfInBounds_ne (fun e => hn e.symm)⟩
theorem t_mapUpdate {α : Type} {kd : Kd α} {i j m ck : Nat} {es : Array MapEntry} {T : List (Int × α)} {k : Int} {u : α} {r : kd.Y} {js : List Nat} {GN : Array MapEntry → Nat → List Own} (hi : nthO G i = some (.blk m (.map es ck))) (hj : nthO Q j = some (Pers.map kd true T es ck)) (hx : ev env x = some (.map (some m))) (hy : ev env y = some (.int .i64 k)) (hv : ev env z = some (.agg (kd.cells u r).toArray))
    (hok : kd.ok u r) (hper : pickQ Q js = some (kd.pers u r)) (ht : P.underlying t = some (.map kt et)) (hk : P.underlying kt = some (.int .i64)) (hr : ∀ es' ck',repl G i (.blk m (.map es' ck')) = some (GN es' ck')) :
    Tr P ⟨none,.mapUpdate t x y z,ty,pos,aft,g⟩ (St c n env G Q) (fun a w => ∃ es' ck',St c n env (GN es' ck') (Pers.map kd true (mput T k u) es' ck' :: Q) a w) := by
  intro a w h K R hk'
  have hblk : w.heap[m]? = some (.map es ck) := h.own hi
  have hlt : m < w.heap.size := (Array.getElem?_eq_some_iff.1 hblk).1
  have he := h.en
  have hK : ∃ S,Heap S G Q w ∧ Rel c S G w ∧ (MapReps kd true w S T es.toList ∧ Stamped es ck) ∧ kd.K w S u (kd.cells u r) := by
    obtain ⟨S,he,hh,hrel⟩ := h
    exact ⟨S,hh,hrel,hh.per _ (nthO_mem hj),r,hok,rfl,fun q hq => hh.per q (pickQ_mem hper q hq)⟩
  obtain ⟨S,hh,hrel,⟨hm,hst⟩,hKu⟩ := hK
  have fin : ∀ es' ck',MapReps kd true w S (mput T k u) es'.toList → Stamped es' ck' → (execOp a.eval ⟨none,.mapUpdate t x y z,ty,pos,aft,g⟩).run P w = .ok .skip { w with heap := w.heap.setIfInBounds m (.map es' ck') } → Oper.wp P ⟨none,.mapUpdate t x y z,ty,pos,aft,g⟩ a w K R := by
    intro es' ck' hm' hst' hrun
    unfold Oper.wp
    rw [hrun]
    refine hk' _ _ ⟨es',ck',?_⟩
    have base : St c n env G (Pers.map kd true (mput T k u) es' ck' :: Q) a w := ⟨S,he,⟨hh.own,hh.nod,hh.out,fun q hq => by
      rcases List.mem_cons.1 hq with rfl | hq
      · exact ⟨hm',hst'⟩
      · exact hh.per q hq⟩,hrel⟩
    refine base.write hi (hr es' ck') (Fr.setObj w) ?_ (fun k hk => .inl hk) (by simp [Own.keys]) he
    show (w.heap.setIfInBounds m _)[m]? = _
    simp [hlt]
  cases hT : mget T k with
  | none =>
    have hf := find_none 0 hm hT
    refine fin (es.push { key := .int .i64 k,val := .agg (kd.cells u r).toArray,born := ck }) (ck + 1) ?_ (hst.push _ _) ?_
    · simpa [mkV] using MapReps.push (b := ck) hKu hm hT
    · simp only [execOp,he.eval hx,he.eval hy,he.eval hv,Instr.mapUpdate,Sem.run_bind,run_underlying ht,Result.andThen_ok,run_getMap hblk,Sem.run_pure,run_checkKey (e := 9999) hk,Instr.findKey,run_underlying hk,hf,run_setMap hblk]
  | some uu =>
    obtain ⟨j',v,cs,hf,hv',_,⟨e,he1,he2⟩,hmod⟩ := find_some 0 hm hT
    refine fin (es.modify j' fun e => { e with key := .int .i64 k,val := .agg (kd.cells u r).toArray }) ck ?_ (hst.modify _ _ _) ?_
    · simpa [mkV] using hmod u _ hKu
    · have hkey : ((es[0 + j']?).map (·.key)).getD (.int .i64 k) = .int .i64 k := by
        rw [Nat.zero_add,← Array.getElem?_toList,he1]
        simp [he2]
      have hstay : (Instr.keyThatStays (.int .i64 k) (.int .i64 k)).run P w = .ok (.int .i64 k) w := by
        simp [Instr.keyThatStays,Instr.sameBits]
      rw [Nat.zero_add] at hf hkey
      simp only [execOp,he.eval hx,he.eval hy,he.eval hv,Instr.mapUpdate,Sem.run_bind,run_underlying ht,Result.andThen_ok,run_getMap hblk,Sem.run_pure,run_checkKey (e := 9999) hk,Instr.findKey,run_underlying hk,hf,hkey,hstay,run_setMap hblk]
theorem m_lenmap {α : Type} {kd : Kd α} {agg : Bool} {i j m ck : Nat} {es : Array MapEntry} {T : List (Int × α)} (hi : nthO G i = some (.blk m (.map es ck))) (hj : nthO Q j = some (Pers.map kd agg T es ck)) (hx : ev env x = some (.map (some m))) (ht : P.underlying t = some (.map kt et)) :
    Pm P c n G Q env ⟨some d,.call { callee := .builtin .len,args := #[x],argTypes := #[t] },ty,pos,aft,g⟩ (.int .i64 (T.length : Int)) := fun a w he hm => by
  have hblk : w.heap[m]? = some (.map es ck) := hm.own hi
  obtain ⟨S,hq⟩ := hm.per hj
  have hl : es.size = T.length := by have := MapReps.length hq.1; simpa using this
  simp [execOp,resolve,invoke,builtin,Builtin.len_,he.eval hx,run_underlying ht,run_getMap hblk,goInt,hl]
theorem t_makeMap (hd : Nat.blt d n = true) : Tr P ⟨some d,.makeMap t none,ty,pos,aft,g⟩ (St c n env G Q) (fun a w => ∃ m,St c n ((d,.map (some m)) :: env) (.blk m (.map #[] 0) :: G) Q a w) := by
  intro a w h K R hk
  have hrun : (execOp a.eval ⟨some d,.makeMap t none,ty,pos,aft,g⟩).run P w = .ok (.value (.map (some w.heap.size))) (w.alloc (.map #[] 0)) := by
    simp [execOp,Instr.makeMap,newObj,Sem.run]
  unfold Oper.wp
  rw [hrun]
  exact hk _ _ ⟨w.heap.size,h.new _ (h.en.put hd _)⟩
end
end Go.Sx
namespace Go.Proofs.YtliacpkblicnhaaGreat
open Go Go.Sx Go.Proofs
theorem ag_3 : aggB Tryz.prog 3 = some false := by kernel_rfl
theorem sz_3 : sizeB Tryz.prog 3 = some 1 := by kernel_rfl
theorem ze_3 : zeroL Tryz.prog 3 = some [.int .i64 (0)] := by kernel_rfl
theorem ag_4 : aggB Tryz.prog 4 = some false := by kernel_rfl
theorem sz_4 : sizeB Tryz.prog 4 = some 1 := by kernel_rfl
theorem ag_5 : aggB Tryz.prog 5 = some false := by kernel_rfl
theorem sz_5 : sizeB Tryz.prog 5 = some 1 := by kernel_rfl
theorem ze_5 : zeroL Tryz.prog 5 = some [.int .u8 (0)] := by kernel_rfl
theorem ze_24 : zeroL Tryz.prog 24 = some [] := by kernel_rfl
theorem of_24 : offsB Tryz.prog 24 = some [] := by kernel_rfl
theorem ag_27 : aggB Tryz.prog 27 = some false := by kernel_rfl
theorem sz_27 : sizeB Tryz.prog 27 = some 1 := by kernel_rfl
theorem fo_29_1 : fieldOff Tryz.prog 29 1 = some 0 := by kernel_rfl
theorem fo_33_1 : fieldOff Tryz.prog 33 1 = some 0 := by kernel_rfl
theorem el_36 : El Tryz.prog 36 102 2 32 [.slice none 0 0,.bool false] := ⟨by kernel_rfl,by kernel_rfl,by kernel_rfl,by kernel_rfl,rfl,by decide,by decide⟩
theorem ze_42 : zeroL Tryz.prog 42 = some [.int .u32 (0),.int .i32 (0),.int .u32 (0),.slice none 0 0,.map none,.int .i64 (0),.int .i64 (0)] := by kernel_rfl
theorem el_43 : El Tryz.prog 43 64 28 352 [.int .u8 (0),.int .i64 (0),.int .i64 (0),.int .i64 (0),.int .i64 (0),.int .i64 (0),.int .i64 (0),.int .i64 (0),.int .u64 (0),.int .i64 (0),.int .i64 (0),.int .u8 (0),.int .i64 (0),.int .i64 (0),.slice none 0 0,.slice none 0 0,.int .u8 (0),.slice none 0 0,.int .i64 (0),.slice none 0 0,.int .i64 (0),.int .i64 (0),.int .i64 (0),.slice none 0 0,.slice none 0 0,.int .i64 (0),.slice none 0 0,.slice none 0 0] := ⟨by kernel_rfl,by kernel_rfl,by kernel_rfl,by kernel_rfl,rfl,by decide,by decide⟩
theorem ag_45 : aggB Tryz.prog 45 = some false := by kernel_rfl
theorem sz_45 : sizeB Tryz.prog 45 = some 1 := by kernel_rfl
theorem ze_45 : zeroL Tryz.prog 45 = some [.int .u64 (0)] := by kernel_rfl
theorem ag_47 : aggB Tryz.prog 47 = some false := by kernel_rfl
theorem sz_47 : sizeB Tryz.prog 47 = some 1 := by kernel_rfl
theorem ze_47 : zeroL Tryz.prog 47 = some [.slice none 0 0] := by kernel_rfl
theorem el_47 : El Tryz.prog 47 5 1 1 [.int .u8 (0)] := ⟨by kernel_rfl,by kernel_rfl,by kernel_rfl,by kernel_rfl,rfl,by decide,by decide⟩
theorem sz_49 : sizeB Tryz.prog 49 = some 5 := by kernel_rfl
theorem ze_49 : zeroL Tryz.prog 49 = some [.int .u8 (0),.int .i64 (0),.int .i64 (0),.slice none 0 0,.slice none 0 0] := by kernel_rfl
theorem fo_49_3 : fieldOff Tryz.prog 49 3 = some 3 := by kernel_rfl
theorem fo_49_4 : fieldOff Tryz.prog 49 4 = some 4 := by kernel_rfl
theorem of_49 : offsB Tryz.prog 49 = some [(0,1),(1,1),(2,1),(3,1),(4,1)] := by kernel_rfl
theorem ag_52 : aggB Tryz.prog 52 = some true := by kernel_rfl
theorem sz_52 : sizeB Tryz.prog 52 = some 2 := by kernel_rfl
theorem ze_52 : zeroL Tryz.prog 52 = some [.int .u8 (0),.slice none 0 0] := by kernel_rfl
theorem of_52 : offsB Tryz.prog 52 = some [(0,1),(1,1)] := by kernel_rfl
theorem ag_53 : aggB Tryz.prog 53 = some false := by kernel_rfl
theorem sz_53 : sizeB Tryz.prog 53 = some 1 := by kernel_rfl
theorem el_53 : El Tryz.prog 53 3 1 8 [.int .i64 (0)] := ⟨by kernel_rfl,by kernel_rfl,by kernel_rfl,by kernel_rfl,rfl,by decide,by decide⟩
theorem ag_55 : aggB Tryz.prog 55 = some true := by kernel_rfl
theorem sz_55 : sizeB Tryz.prog 55 = some 2 := by kernel_rfl
theorem ze_55 : zeroL Tryz.prog 55 = some [.int .i64 (0),.slice none 0 0] := by kernel_rfl
theorem of_55 : offsB Tryz.prog 55 = some [(0,1),(1,1)] := by kernel_rfl
theorem ag_57 : aggB Tryz.prog 57 = some true := by kernel_rfl
theorem sz_57 : sizeB Tryz.prog 57 = some 2 := by kernel_rfl
theorem ze_57 : zeroL Tryz.prog 57 = some [.int .i64 (0),.int .i64 (0)] := by kernel_rfl
theorem of_57 : offsB Tryz.prog 57 = some [(0,1),(1,1)] := by kernel_rfl
theorem ag_58 : aggB Tryz.prog 58 = some false := by kernel_rfl
theorem sz_58 : sizeB Tryz.prog 58 = some 1 := by kernel_rfl
theorem el_58 : El Tryz.prog 58 164 3 40 [.int .i64 (0),.int .i64 (0),.slice none 0 0] := ⟨by kernel_rfl,by kernel_rfl,by kernel_rfl,by kernel_rfl,rfl,by decide,by decide⟩
theorem el_59 : El Tryz.prog 59 166 4 48 [.int .i64 (0),.int .i64 (0),.int .u8 (0),.slice none 0 0] := ⟨by kernel_rfl,by kernel_rfl,by kernel_rfl,by kernel_rfl,rfl,by decide,by decide⟩
theorem ag_61 : aggB Tryz.prog 61 = some true := by kernel_rfl
theorem sz_61 : sizeB Tryz.prog 61 = some 7 := by kernel_rfl
theorem ze_61 : zeroL Tryz.prog 61 = some [.int .i64 (0),.int .i64 (0),.int .i64 (0),.slice none 0 0,.slice none 0 0,.int .i64 (0),.slice none 0 0] := by kernel_rfl
theorem of_61 : offsB Tryz.prog 61 = some [(0,1),(1,2),(3,1),(4,1),(5,2)] := by kernel_rfl
theorem ag_62 : aggB Tryz.prog 62 = some false := by kernel_rfl
theorem el_62 : El Tryz.prog 62 97 12 144 [.int .u8 (0),.int .i64 (0),.int .i64 (0),.int .i64 (0),.int .i64 (0),.int .u8 (0),.int .i64 (0),.int .i64 (0),.slice none 0 0,.slice none 0 0,.int .i64 (0),.slice none 0 0] := ⟨by kernel_rfl,by kernel_rfl,by kernel_rfl,by kernel_rfl,rfl,by decide,by decide⟩
theorem ag_64 : aggB Tryz.prog 64 = some true := by kernel_rfl
theorem sz_64 : sizeB Tryz.prog 64 = some 28 := by kernel_rfl
theorem ze_64 : zeroL Tryz.prog 64 = some [.int .u8 (0),.int .i64 (0),.int .i64 (0),.int .i64 (0),.int .i64 (0),.int .i64 (0),.int .i64 (0),.int .i64 (0),.int .u64 (0),.int .i64 (0),.int .i64 (0),.int .u8 (0),.int .i64 (0),.int .i64 (0),.slice none 0 0,.slice none 0 0,.int .u8 (0),.slice none 0 0,.int .i64 (0),.slice none 0 0,.int .i64 (0),.int .i64 (0),.int .i64 (0),.slice none 0 0,.slice none 0 0,.int .i64 (0),.slice none 0 0,.slice none 0 0] := by kernel_rfl
theorem of_64 : offsB Tryz.prog 64 = some [(0,1),(1,1),(2,1),(3,1),(4,1),(5,1),(6,1),(7,1),(8,1),(9,1),(10,1),(11,5),(16,2),(18,2),(20,7),(27,1)] := by kernel_rfl
theorem ag_66 : aggB Tryz.prog 66 = some true := by kernel_rfl
theorem sz_66 : sizeB Tryz.prog 66 = some 33 := by kernel_rfl
theorem ze_66 : zeroL Tryz.prog 66 = some [.int .i64 (0),.int .u8 (0),.int .i64 (0),.int .i64 (0),.int .i64 (0),.int .i64 (0),.int .i64 (0),.int .i64 (0),.int .i64 (0),.int .u64 (0),.int .i64 (0),.int .i64 (0),.int .u8 (0),.int .i64 (0),.int .i64 (0),.slice none 0 0,.slice none 0 0,.int .u8 (0),.slice none 0 0,.int .i64 (0),.slice none 0 0,.int .i64 (0),.int .i64 (0),.int .i64 (0),.slice none 0 0,.slice none 0 0,.int .i64 (0),.slice none 0 0,.slice none 0 0,.int .i64 (0),.int .i64 (0),.int .u8 (0),.bool false] := by kernel_rfl
theorem ag_68 : aggB Tryz.prog 68 = some false := by kernel_rfl
theorem sz_68 : sizeB Tryz.prog 68 = some 1 := by kernel_rfl
theorem ze_68 : zeroL Tryz.prog 68 = some [.int .i64 (0)] := by kernel_rfl
theorem ag_97 : aggB Tryz.prog 97 = some true := by kernel_rfl
theorem sz_97 : sizeB Tryz.prog 97 = some 12 := by kernel_rfl
theorem ze_97 : zeroL Tryz.prog 97 = some [.int .u8 (0),.int .i64 (0),.int .i64 (0),.int .i64 (0),.int .i64 (0),.int .u8 (0),.int .i64 (0),.int .i64 (0),.slice none 0 0,.slice none 0 0,.int .i64 (0),.slice none 0 0] := by kernel_rfl
theorem fo_97_1 : fieldOff Tryz.prog 97 1 = some 1 := by kernel_rfl
theorem fo_97_5 : fieldOff Tryz.prog 97 5 = some 5 := by kernel_rfl
theorem of_97 : offsB Tryz.prog 97 = some [(0,1),(1,1),(2,1),(3,1),(4,1),(5,5),(10,2)] := by kernel_rfl
theorem sz_102 : sizeB Tryz.prog 102 = some 2 := by kernel_rfl
theorem ze_102 : zeroL Tryz.prog 102 = some [.slice none 0 0,.bool false] := by kernel_rfl
theorem fo_102_0 : fieldOff Tryz.prog 102 0 = some 0 := by kernel_rfl
theorem of_102 : offsB Tryz.prog 102 = some [(0,1),(1,1)] := by kernel_rfl
theorem ze_112 : zeroL Tryz.prog 112 = some [.int .i64 (0),.int .i64 (0)] := by kernel_rfl
theorem of_112 : offsB Tryz.prog 112 = some [(0,1),(1,1)] := by kernel_rfl
theorem sz_121 : sizeB Tryz.prog 121 = some 3 := by kernel_rfl
theorem ze_121 : zeroL Tryz.prog 121 = some [.int .u8 (0),.int .u64 (0),.slice none 0 0] := by kernel_rfl
theorem of_121 : offsB Tryz.prog 121 = some [(0,1),(1,1),(2,1)] := by kernel_rfl
theorem sz_128 : sizeB Tryz.prog 128 = some 0 := by kernel_rfl
theorem ze_128 : zeroL Tryz.prog 128 = some [] := by kernel_rfl
theorem of_128 : offsB Tryz.prog 128 = some [] := by kernel_rfl
theorem ze_132 : zeroL Tryz.prog 132 = some [.slice none 0 0] := by kernel_rfl
theorem of_132 : offsB Tryz.prog 132 = some [(0,1)] := by kernel_rfl
theorem ze_134 : zeroL Tryz.prog 134 = some [.slice none 0 0] := by kernel_rfl
theorem of_134 : offsB Tryz.prog 134 = some [(0,1)] := by kernel_rfl
theorem ag_164 : aggB Tryz.prog 164 = some true := by kernel_rfl
theorem sz_164 : sizeB Tryz.prog 164 = some 3 := by kernel_rfl
theorem ze_164 : zeroL Tryz.prog 164 = some [.int .i64 (0),.int .i64 (0),.slice none 0 0] := by kernel_rfl
theorem fo_164_0 : fieldOff Tryz.prog 164 0 = some 0 := by kernel_rfl
theorem fo_164_1 : fieldOff Tryz.prog 164 1 = some 1 := by kernel_rfl
theorem fo_164_2 : fieldOff Tryz.prog 164 2 = some 2 := by kernel_rfl
theorem of_164 : offsB Tryz.prog 164 = some [(0,1),(1,1),(2,1)] := by kernel_rfl
theorem ag_166 : aggB Tryz.prog 166 = some true := by kernel_rfl
theorem sz_166 : sizeB Tryz.prog 166 = some 4 := by kernel_rfl
theorem ze_166 : zeroL Tryz.prog 166 = some [.int .i64 (0),.int .i64 (0),.int .u8 (0),.slice none 0 0] := by kernel_rfl
theorem fo_166_0 : fieldOff Tryz.prog 166 0 = some 0 := by kernel_rfl
theorem fo_166_1 : fieldOff Tryz.prog 166 1 = some 1 := by kernel_rfl
theorem fo_166_2 : fieldOff Tryz.prog 166 2 = some 2 := by kernel_rfl
theorem of_166 : offsB Tryz.prog 166 = some [(0,1),(1,1),(2,2)] := by kernel_rfl
theorem ze_178 : zeroL Tryz.prog 178 = some [.int .i64 (0),.int .i64 (0),.int .i64 (0),.slice none 0 0,.slice none 0 0,.int .i64 (0),.slice none 0 0,.slice none 0 0] := by kernel_rfl
theorem of_178 : offsB Tryz.prog 178 = some [(0,7),(7,1)] := by kernel_rfl
theorem ag_219 : aggB Tryz.prog 219 = some false := by kernel_rfl
theorem ze_229 : zeroL Tryz.prog 229 = some [.int .i64 (0),.pointer none,.pointer none,.int .i64 (0),.slice none 0 0] := by kernel_rfl
theorem of_229 : offsB Tryz.prog 229 = some [(0,1),(1,1),(2,1),(3,2)] := by kernel_rfl
theorem ze_236 : zeroL Tryz.prog 236 = some [.slice none 0 0,.int .i64 (0),.int .i64 (0)] := by kernel_rfl
theorem of_236 : offsB Tryz.prog 236 = some [(0,1),(1,1),(2,1)] := by kernel_rfl
theorem ze_238 : zeroL Tryz.prog 238 = some [.slice none 0 0,.int .i64 (0),.int .i64 (0)] := by kernel_rfl
theorem of_238 : offsB Tryz.prog 238 = some [(0,3)] := by kernel_rfl
theorem sz_247 : sizeB Tryz.prog 247 = some 1 := by kernel_rfl
theorem ze_247 : zeroL Tryz.prog 247 = some [.int .i64 (0)] := by kernel_rfl
theorem fo_247_0 : fieldOff Tryz.prog 247 0 = some 0 := by kernel_rfl
theorem of_247 : offsB Tryz.prog 247 = some [(0,1)] := by kernel_rfl
theorem ze_250 : zeroL Tryz.prog 250 = some [.slice none 0 0,.int .i64 (0)] := by kernel_rfl
theorem of_250 : offsB Tryz.prog 250 = some [(0,1),(1,1)] := by kernel_rfl
theorem ze_252 : zeroL Tryz.prog 252 = some [.slice none 0 0,.int .i64 (0)] := by kernel_rfl
theorem of_252 : offsB Tryz.prog 252 = some [(0,2)] := by kernel_rfl
theorem ze_287 : zeroL Tryz.prog 287 = some [.int .i64 (0),.int .i64 (0),.slice none 0 0,.slice none 0 0,.int .i64 (0)] := by kernel_rfl
theorem of_287 : offsB Tryz.prog 287 = some [(0,2),(2,1),(3,1),(4,1)] := by kernel_rfl
theorem ag_291 : aggB Tryz.prog 291 = some false := by kernel_rfl
theorem ze_293 : zeroL Tryz.prog 293 = some [.map none] := by kernel_rfl
theorem of_293 : offsB Tryz.prog 293 = some [(0,1)] := by kernel_rfl
theorem ze_299 : zeroL Tryz.prog 299 = some [.int .i64 (0),.int .u8 (0),.slice none 0 0] := by kernel_rfl
theorem zb_299 : ∃ z,zeroB Tryz.prog 299 = some (.agg z) := ⟨#[.int .i64 (0),.int .u8 (0),.slice none 0 0],by kernel_rfl⟩
theorem of_299 : offsB Tryz.prog 299 = some [(0,1),(1,2)] := by kernel_rfl
theorem ze_300 : zeroL Tryz.prog 300 = some [.int .u32 (0),.int .u32 (0),.int .u32 (0),.int .u32 (0),.int .u32 (0),.int .u32 (0),.int .u32 (0),.int .u32 (0),.int .u32 (0),.int .u32 (0),.int .u32 (0),.int .u32 (0),.int .u32 (0),.int .u32 (0),.int .u32 (0),.int .u32 (0)] := by kernel_rfl
theorem wide_ : Tryz.prog.follows .mixedOrders = true := by kernel_rfl
end Go.Proofs.YtliacpkblicnhaaGreat
namespace Go.Sx
open Go
def up : Nat → Nat → List Nat
  | _,0 => []
  | a,n + 1 => a :: up (a + 1) n
def zs : Nat → List Nat
  | 0 => []
  | n + 1 => 0 :: zs n
end Go.Sx
namespace Go.Sx
open Go
section
variable {P : Program} {c : Cx} {n : Nat} {env env' : List (Nat × Value)} {G G' Gr : List Own} {Q Q' : List Pers} {a : Act} {w : World}
theorem St.me {G1 : List Own} {Q1 : List Pers} (h : St c n env G Q a w) (is js : List Nat) (hsel : sel G is = some (G1,Gr) := by rfl) (hq : pickQ Q js = some Q1 := by rfl) : Mem c G1 Q1 w := h.mem hsel hq
theorem St.ct {G1 : List Own} {Q1 : List Pers} (h : St c n env G Q a w) (is js : List Nat) (hs : Sx.sub env env' := by repeat (first | exact trivial | refine ⟨rfl,?_⟩)) (hsel : sel G is = some (G1,Gr) := by rfl) (hq : pickQ Q js = some Q1 := by rfl) : St c n env' G1 Q1 a w := h.cut hs hsel hq
end
end Go.Sx
namespace Go.Proofs.YtliacpkblicnhaaGreat
open Go Go.Sx Go.Proofs
def lk2 : List (Nat × Nat × Nat) → Nat → Nat → Option Nat
  | [],_,_ => none
  | (a,b,k) :: r,t,i => cond (Nat.beq a t && Nat.beq b i) (some k) (lk2 r t i)
theorem lk2_mem : ∀ {L : List (Nat × Nat × Nat)} {t i k : Nat},lk2 L t i = some k → (t,i,k) ∈ L
  | [],_,_,_,h => by cases h
  | (a,b,x) :: r,t,i,k,h => by
    rw [lk2] at h
    cases hc : (Nat.beq a t && Nat.beq b i) with
    | true =>
      rw [hc,cond_true] at h
      rw [Bool.and_eq_true] at hc
      rw [← Option.some.inj h,← Nat.eq_of_beq_eq_true hc.1,← Nat.eq_of_beq_eq_true hc.2]
      exact List.mem_cons_self ..
    | false =>
      rw [hc,cond_false] at h
      exact List.mem_cons_of_mem _ (lk2_mem h)
def foL : List (Nat × Nat × Nat) := [(29,1,0),(31,0,0),(33,1,0),(35,1,0),(35,2,1),(40,2,0),(42,0,0),(42,1,3),(42,2,4),(42,3,5),(42,4,6),(49,0,0),(49,1,1),(49,2,2),(49,3,3),(49,4,4),(52,0,0),(52,1,1),(55,0,0),(55,1,1),(57,0,0),(57,1,1),(61,0,0),(61,1,1),(61,2,3),(61,3,4),(61,4,5),(64,0,0),(64,1,1),(64,2,2),(64,3,3),(64,4,4),(64,5,5),(64,6,6),(64,7,7),(64,8,8),(64,9,9),(64,10,10),(64,11,11),(64,12,16),(64,13,18),(64,14,20),(64,15,27),(66,0,0),(66,1,1),(66,2,29),(66,3,30),(66,5,32),(97,0,0),(97,1,1),(97,2,2),(97,3,3),(97,4,4),(97,5,5),(97,6,10),(102,0,0),(102,1,1),(121,0,0),(121,1,1),(121,2,2),(132,0,0),(134,0,0),(164,0,0),(164,1,1),(164,2,2),(166,0,0),(166,1,1),(166,2,2),(178,0,0),(178,1,7),(236,0,0),(236,1,1),(236,2,2),(238,0,0),(247,0,0),(250,0,0),(250,1,1),(252,0,0),(287,0,0),(287,1,2),(287,2,3),(287,3,4),(293,0,0),(299,0,0),(299,1,1)]
theorem foA : foL.all (fun x => fieldOff Tryz.prog x.1 x.2.1 == some x.2.2) = true := by kernel_rfl
theorem fo_ok {t i k : Nat} (h : lk2 foL t i = some k) : fieldOff Tryz.prog t i = some k := by
  have := List.all_eq_true.1 foA _ (lk2_mem h)
  simpa using this
def slL : List (Nat × Nat × Nat) := [(22,0,66),(36,0,102),(43,0,64),(47,0,5),(53,0,3),(58,0,164),(59,0,166),(62,0,97),(81,0,47),(180,0,45)]
theorem slAll_ : slL.all (fun x => match Tryz.prog.underlying x.1 with | some (.slice e) => Nat.beq e x.2.2 | _ => false) = true := by kernel_rfl
theorem sl_ok {t k : Nat} (h : lk2 slL t 0 = some k) : Tryz.prog.underlying t = some (.slice k) := by
  have h1 := List.all_eq_true.1 slAll_ _ (lk2_mem h)
  dsimp only at h1
  split at h1
  · rename_i e he
    rw [he,Nat.eq_of_beq_eq_true h1]
  · cases h1
def takeAt (l : List Value) : Nat → Nat → Option (List Value)
  | _,0 => some []
  | o,k + 1 => match nth l o with
    | none => none
    | some v => match takeAt l (o + 1) k with
      | none => none
      | some r => some (v :: r)
theorem takeAt_ok {l : List Value} : ∀ {k o : Nat} {vs : List Value},takeAt l o k = some vs → at_ l o vs ∧ vs.length = k
  | 0,o,vs,h => by rw [← Option.some.inj h]; exact ⟨trivial,rfl⟩
  | k + 1,o,vs,h => by
    rw [takeAt] at h
    cases h1 : nth l o with
    | none => rw [h1] at h; cases h
    | some v =>
      cases h2 : takeAt l (o + 1) k with
      | none => rw [h1,h2] at h; cases h
      | some r =>
        rw [h1,h2] at h
        rw [← Option.some.inj h]
        have := takeAt_ok h2
        exact ⟨⟨h1,this.1⟩,by simp [this.2]⟩
theorem m_loadK {P : Program} {c : Cx} {n : Nat} {env : List (Nat × Value)} {G : List Own} {Q : List Pers} {d : Nat} {ty : TypeId} {pos : String} {aft : Array Edge} {g : Option (Nat × Bool)} {x : Operand} {t : TypeId} {b o : Nat} {l vs : List Value} {e : TypeId} (i k : Nat) (hi : nthO G i = some (.cells b l e)) (hx : ev env x = some (.pointer (some ⟨b,o,none⟩))) (hv : takeAt l o k = some vs) (hg : aggB P t = some true) (hs : sizeB P t = some k) : Pm P c n G Q env ⟨some d,.load t x,ty,pos,aft,g⟩ (.agg vs.toArray) :=
  m_loadN hi hx hg (by rw [(takeAt_ok hv).2]; exact hs) (takeAt_ok hv).1
end Go.Proofs.YtliacpkblicnhaaGreat
namespace Go.Proofs.YtliacpkblicnhaaGreat
open Go Go.Sx Go.Proofs
section
variable {P : Program} {c : Cx} {n : Nat} {env env' : List (Nat × Value)} {G G' Gr : List Own} {Q Q' : List Pers} {d : Nat} {ty : TypeId} {pos : String} {aft : Array Edge} {g : Option (Nat × Bool)} {x : Operand} {t : TypeId} {a : Act} {w : World} {ops : Array Oper} {rest : List Oper} {R : Exit → Asr} {v : Value} {E : Value → Prop} {M : Asr} {fuel : Nat} {listed : Array Bool}
theorem GL.ln_ {b o : Nat} {l vs : List Value} {e : TypeId} (i k : Nat) (z : GL P ops R rest (St c n ((d,.agg vs.toArray) :: env) G Q)) (hd : Nat.blt d n = true := by rfl) (hi : nthO G i = some (.cells b l e) := by rfl) (hx : ev env x = some (.pointer (some ⟨b,o,none⟩)) := by rfl) (hv : takeAt l o k = some vs := by rfl) (hg : aggB P t = some true := by kernel_rfl) (hs : sizeB P t = some k := by kernel_rfl) : GL P ops R (⟨some d,.load t x,ty,pos,aft,none⟩ :: rest) (St c n env G Q) :=
  GL.step rfl (t_mem hd (m_loadK i k hi hx hv hg hs)) z
theorem GL.lg_ {b o : Nat} {l vs : List Value} {e : TypeId} {j s : Nat} {want : Bool} (i k : Nat) (z : GL P ops R rest (St c n ((d,.agg vs.toArray) :: env) G Q)) (hj : (ops[j]?).bind (·.dst) = some s := by rfl) (hb : Sx.look env s = some (.bool want) := by rfl) (hd : Nat.blt d n = true := by rfl) (hi : nthO G i = some (.cells b l e) := by rfl) (hx : ev env x = some (.pointer (some ⟨b,o,none⟩)) := by rfl) (hv : takeAt l o k = some vs := by rfl) (hg : aggB P t = some true := by kernel_rfl) (hs : sizeB P t = some k := by kernel_rfl) : GL P ops R (⟨some d,.load t x,ty,pos,aft,some (j,want)⟩ :: rest) (St c n env G Q) :=
  GL.stepG rfl hj hb (t_mem hd (m_loadK i k hi hx hv hg hs)) z
theorem GL.cl {f : FuncId} {xs : List Operand} {vs : List Value} {ts : Array TypeId} {G1 : List Own} {Q1 : List Pers} {F : Value → List Own → List Pers → Prop} (hf : Ent P f) (is js : List Nat) (hx : evs env xs = some vs) (hsel : sel G is = some (G1,Gr)) (hq : pickQ Q js = some Q1) (h : Ct P f vs G1 Q1 F) (k : ∀ v G2 Q2,F v G2 Q2 → GL P ops R rest (St c n ((d,v) :: env) (G2 ++ Gr) (Q2 ++ Q))) (hd : Nat.blt d n = true := by rfl) :
    GL P ops R (⟨some d,.call { callee := .value (.func f),args := xs.toArray,argTypes := ts },ty,pos,aft,none⟩ :: rest) (St c n env G Q) := GL.step rfl (t_call hd hf hx hsel hq h) (GL.ret k)
theorem GC.co {z : Operand} {b : Bool} {thn els : Code} (ht : b = true → GC P R thn (St c n env G Q)) (hf : b = false → GC P R els (St c n env G Q)) (hz : ev env z = some (.bool b) := by rfl) : GC P R (.cond z thn els) (St c n env G Q) := GC.cond hz ht hf
theorem GL.sp {b : Bool} (i : Nat) (ht : b = true → GL P ops R rest (St c n ((i,.bool true) :: env) G Q)) (hf : b = false → GL P ops R rest (St c n ((i,.bool false) :: env) G Q)) (hi : Sx.look env i = some (.bool b) := by rfl) : GL P ops R rest (St c n env G Q) := GL.split hi ht hf
theorem Fin.b1 {fn : Func} {F : Value → List Own → List Pers → Prop} {G1 : List Own} {Q1 : List Pers} (i : Nat) (is js : List Nat) (hR : F (tupV [v]) G1 Q1) (hr : fn.results = [ResultVar.tmp i].toArray := by rfl) (hv : Sx.resV P env G [.tmp i] [v] := by exact ⟨rfl,trivial⟩) (hsel : sel G is = some (G1,Gr) := by rfl) (hq : pickQ Q js = some Q1 := by rfl) : ∀ (a : Act) (w : World),St c n env G Q a w → Fin P fn c F .ret a w := fun a w h => Fin.back hr hv hsel hq hR h
theorem Fin.b2 {v' : Value} {fn : Func} {F : Value → List Own → List Pers → Prop} {G1 : List Own} {Q1 : List Pers} (i j : Nat) (is js : List Nat) (hR : F (tupV [v,v']) G1 Q1) (hr : fn.results = [ResultVar.tmp i,ResultVar.tmp j].toArray := by rfl) (hv : Sx.resV P env G [.tmp i,.tmp j] [v,v'] := by exact ⟨rfl,rfl,trivial⟩) (hsel : sel G is = some (G1,Gr) := by rfl) (hq : pickQ Q js = some Q1 := by rfl) : ∀ (a : Act) (w : World),St c n env G Q a w → Fin P fn c F .ret a w := fun a w h => Fin.back hr hv hsel hq hR h
def lenE (sl : List (Nat × Nat × Nat)) (env : List (Nat × Value)) : Call → Option Value
  | ⟨.builtin .len,⟨[x]⟩,⟨[t]⟩⟩ => match lk2 sl t 0,ev env x with
    | some _,some (.slice _ l _) => some (.int .i64 (l : Int))
    | _,_ => none
  | _ => none
def pvE (fo sl : List (Nat × Nat × Nat)) (env : List (Nat × Value)) : Op → Option Value
  | .move x => ev env x
  | .assign x => ev env x
  | .extract x i => match ev env x with
    | some (.tuple vs) => nth vs.toList i
    | _ => none
  | .fieldAddr t x i => match ev env x with
    | some (.pointer (some ⟨b,o,none⟩)) => match lk2 fo t i with
      | some off => some (.pointer (some ⟨b,o + off,none⟩))
      | none => none
    | _ => none
  | .nilCheck x => match ev env x with
    | some (.pointer (some p)) => some (.pointer (some p))
    | _ => none
  | .pick x y z => match ev env x with
    | some (.bool true) => ev env y
    | some (.bool false) => ev env z
    | _ => none
  | .unOp .not _ x => match ev env x with
    | some (.bool b) => some (.bool (!b))
    | _ => none
  | .call q => lenE sl env q
  | .binOp o _ x y _ => match ev env x,ev env y with
    | some (.int k m),some (.int k' l) => if k = k' then match o with
        | .eql => some (.bool (decide (m = l)))
        | .neq => some (.bool (decide (m ≠ l)))
        | .lss => some (.bool (decide (m < l)))
        | .leq => some (.bool (decide (m ≤ l)))
        | .gtr => some (.bool (decide (m > l)))
        | .geq => some (.bool (decide (m ≥ l)))
        | _ => none
      else none
    | _,_ => none
  | _ => none
theorem pvE_ok {fo sl : List (Nat × Nat × Nat)} (hfo : ∀ {t i k : Nat},lk2 fo t i = some k → fieldOff P t i = some k) (hsl : ∀ {t k : Nat},lk2 sl t 0 = some k → P.underlying t = some (.slice k)) {op : Op} (h : pvE fo sl env op = some v) : Pv P n env ⟨some d,op,ty,pos,aft,g⟩ v := by
  cases op <;> simp only [pvE] at h <;> try (cases h; done)
  case move x => exact p_move h
  case assign x => exact p_assign h
  case extract x i =>
    split at h
    · rename_i vs hx
      exact p_extract (vs := vs.toList) (by rw [hx,Array.toArray_toList]) h
    · cases h
  case fieldAddr t x i =>
    split at h
    · rename_i hx
      split at h
      · rename_i off hf
        rw [← Option.some.inj h]
        exact p_fieldAddr (hfo hf) hx
      · cases h
    · cases h
  case nilCheck x =>
    split at h
    · rename_i hx
      rw [← Option.some.inj h]
      exact p_nilCheck hx
    · cases h
  case pick x y z =>
    split at h
    · rename_i hx
      exact p_pick_true hx h
    · rename_i hx
      exact p_pick_false hx h
    · cases h
  case unOp o t x =>
    cases o <;> simp only [pvE] at h <;> try (cases h; done)
    split at h
    · rename_i hx
      rw [← Option.some.inj h]
      exact p_not hx
    · cases h
  case call q =>
    unfold lenE at h
    split at h
    · split at h
      · rename_i hs hx
        rw [← Option.some.inj h]
        exact p_len (hsl hs) hx
      · cases h
    · cases h
  case binOp o t x y u =>
    split at h
    · rename_i k m k' l hx hy
      split at h
      · rename_i hk
        subst hk
        cases o <;> simp only at h <;> try (cases h; done)
        all_goals rw [← Option.some.inj h]
        case eql => exact p_eql hx hy
        case neq => exact p_neq hx hy
        case lss => exact p_lss hx hy
        case leq => exact p_leq hx hy
        case gtr => exact p_gtr hx hy
        case geq => exact p_geq hx hy
      · cases h
    · cases h
def runE (fo sl : List (Nat × Nat × Nat)) (n : Nat) (ops : Array Oper) : Nat → List Oper → List (Nat × Value) → Option (List Oper × List (Nat × Value))
  | 0,l,env => some (l,env)
  | m + 1,⟨some d,op,_,_,_,none⟩ :: r,env => match Nat.blt d n,pvE fo sl env op with
    | true,some v => runE fo sl n ops m r ((d,v) :: env)
    | _,_ => none
  | m + 1,⟨some d,op,_,_,_,some (j,want)⟩ :: r,env => match Nat.blt d n,(ops[j]?).bind (·.dst) with
    | true,some s => match Sx.look env s,want with
      | some (.bool true),true => match pvE fo sl env op with
        | some v => runE fo sl n ops m r ((d,v) :: env)
        | none => none
      | some (.bool false),false => match pvE fo sl env op with
        | some v => runE fo sl n ops m r ((d,v) :: env)
        | none => none
      | some (.bool true),false => runE fo sl n ops m r ((d,undef) :: env)
      | some (.bool false),true => runE fo sl n ops m r ((d,undef) :: env)
      | _,_ => none
    | _,_ => none
  | _,_,_ => none
theorem GL.run_ {fo sl : List (Nat × Nat × Nat)} (hfo : ∀ {t i k : Nat},lk2 fo t i = some k → fieldOff P t i = some k) (hsl : ∀ {t k : Nat},lk2 sl t 0 = some k → P.underlying t = some (.slice k)) : ∀ (m : Nat) {rest rest' : List Oper} {env env' : List (Nat × Value)},runE fo sl n ops m rest env = some (rest',env') → GL P ops R rest' (St c n env' G Q) → GL P ops R rest (St c n env G Q)
  | 0,rest,rest',env,env',h,k => by
    obtain ⟨rfl,rfl⟩ := Prod.mk.inj (Option.some.inj h)
    exact k
  | m + 1,[],rest',env,env',h,k => by simp [runE] at h
  | m + 1,⟨none,op,ty,pos,aft,g⟩ :: r,rest',env,env',h,k => by simp [runE] at h
  | m + 1,⟨some d,op,ty,pos,aft,none⟩ :: r,rest',env,env',h,k => by
    rw [runE] at h
    split at h
    · rename_i v hd hv
      exact GL.pure hd (pvE_ok hfo hsl hv) (GL.run_ hfo hsl m h k)
    · cases h
  | m + 1,⟨some d,op,ty,pos,aft,some (j,want)⟩ :: r,rest',env,env',h,k => by
    rw [runE] at h
    split at h
    · rename_i s hd hj
      split at h
      · rename_i hl
        split at h
        · rename_i v hv
          exact GL.pureG hj hl hd (pvE_ok hfo hsl hv) (GL.run_ hfo hsl m h k)
        · cases h
      · rename_i hl
        split at h
        · rename_i v hv
          exact GL.pureG hj hl hd (pvE_ok hfo hsl hv) (GL.run_ hfo hsl m h k)
        · cases h
      · rename_i hl
        exact GL.pass hj hl hd (GL.run_ hfo hsl m h k)
      · rename_i hl
        exact GL.pass hj hl hd (GL.run_ hfo hsl m h k)
      · cases h
    · cases h
theorem GQ.run_ {fo sl : List (Nat × Nat × Nat)} (hfo : ∀ {t i k : Nat},lk2 fo t i = some k → fieldOff P t i = some k) (hsl : ∀ {t k : Nat},lk2 sl t 0 = some k → P.underlying t = some (.slice k)) {M : List (Nat × Value) → Prop} : ∀ (m : Nat) {rest rest' : List Oper} {env env' : List (Nat × Value)},runE fo sl n ops m rest env = some (rest',env') → GQ P c n G Q ops rest' env' M → GQ P c n G Q ops rest env M
  | 0,rest,rest',env,env',h,k => by
    obtain ⟨rfl,rfl⟩ := Prod.mk.inj (Option.some.inj h)
    exact k
  | m + 1,[],rest',env,env',h,k => by simp [runE] at h
  | m + 1,⟨none,op,ty,pos,aft,g⟩ :: r,rest',env,env',h,k => by simp [runE] at h
  | m + 1,⟨some d,op,ty,pos,aft,none⟩ :: r,rest',env,env',h,k => by
    rw [runE] at h
    split at h
    · rename_i v hd hv
      exact GQ.step hd (q_pure (pvE_ok hfo hsl hv)) (GQ.run_ hfo hsl m h k)
    · cases h
  | m + 1,⟨some d,op,ty,pos,aft,some (j,want)⟩ :: r,rest',env,env',h,k => by
    rw [runE] at h
    split at h
    · rename_i s hd hj
      split at h
      · rename_i hl
        split at h
        · rename_i v hv
          exact GQ.stepG hj hl hd (q_pure (pvE_ok hfo hsl hv)) (GQ.run_ hfo hsl m h k)
        · cases h
      · rename_i hl
        split at h
        · rename_i v hv
          exact GQ.stepG hj hl hd (q_pure (pvE_ok hfo hsl hv)) (GQ.run_ hfo hsl m h k)
        · cases h
      · rename_i hl
        exact GQ.pass hj hl hd (GQ.run_ hfo hsl m h k)
      · rename_i hl
        exact GQ.pass hj hl hd (GQ.run_ hfo hsl m h k)
      · cases h
    · cases h
theorem GL.ld_ {b o : Nat} {l : List Value} {e : TypeId} (i : Nat) (z : GL P ops R rest (St c n ((d,v) :: env) G Q)) (hd : Nat.blt d n = true := by rfl) (hi : nthO G i = some (.cells b l e) := by rfl) (hx : ev env x = some (.pointer (some ⟨b,o,none⟩)) := by rfl) (hv : nth l o = some v := by rfl) (hg : aggB P t = some false := by kernel_rfl) : GL P ops R (⟨some d,.load t x,ty,pos,aft,none⟩ :: rest) (St c n env G Q) :=
  GL.step rfl (t_mem hd (m_load hi hx hg hv)) z
theorem GL.dg_ {b o : Nat} {l : List Value} {e : TypeId} {j s : Nat} {want : Bool} (i : Nat) (z : GL P ops R rest (St c n ((d,v) :: env) G Q)) (hj : (ops[j]?).bind (·.dst) = some s := by rfl) (hb : Sx.look env s = some (.bool want) := by rfl) (hd : Nat.blt d n = true := by rfl) (hi : nthO G i = some (.cells b l e) := by rfl) (hx : ev env x = some (.pointer (some ⟨b,o,none⟩)) := by rfl) (hv : nth l o = some v := by rfl) (hg : aggB P t = some false := by kernel_rfl) : GL P ops R (⟨some d,.load t x,ty,pos,aft,some (j,want)⟩ :: rest) (St c n env G Q) :=
  GL.stepG rfl hj hb (t_mem hd (m_load hi hx hg hv)) z
theorem GL.sn_ {y : Operand} {b o : Nat} {l l' vs : List Value} {e : TypeId} {G1 : List Own} (i : Nat) (z : GL P ops R rest (St c n env G1 Q)) (hi : nthO G i = some (.cells b l e) := by rfl) (hx : ev env x = some (.pointer (some ⟨b,o,none⟩)) := by rfl) (hy : ev env y = some (.agg vs.toArray) := by rfl) (hs : sizeB P t = some vs.length := by kernel_rfl) (h1 : allOne vs = true := by rfl) (hu : upd l o vs = some l' := by rfl) (hr : repl G i (.cells b l' e) = some G1 := by rfl) : GL P ops R (⟨none,.store t x y,ty,pos,aft,none⟩ :: rest) (St c n env G Q) :=
  GL.step rfl (t_storeN hi hx hy hs h1 hu hr) z
theorem GL.so_ {y : Operand} {b o : Nat} {l l' : List Value} {e : TypeId} {G1 : List Own} (i : Nat) (z : GL P ops R rest (St c n env G1 Q)) (hi : nthO G i = some (.cells b l e) := by rfl) (hx : ev env x = some (.pointer (some ⟨b,o,none⟩)) := by rfl) (hy : ev env y = some v := by rfl) (hc : v.cells.toList = [v] := by rfl) (hs : sizeB P t = some 1 := by kernel_rfl) (h1 : v.oneCell' = true := by rfl) (hu : upd l o [v] = some l' := by rfl) (hr : repl G i (.cells b l' e) = some G1 := by rfl) : GL P ops R (⟨none,.store t x y,ty,pos,aft,none⟩ :: rest) (St c n env G Q) :=
  GL.step rfl (t_store hi hx hy hc hs h1 hu hr) z
theorem ldV_k {a : Tmp} {t : TypeId} {b o e : Nat} {l vs : List Value} (gi k : Nat) (hi : nthO G gi = some (.cells b l e)) (hl : Sx.look env a = some (.pointer (some ⟨b,o,none⟩))) (hv : takeAt l o k = some vs) (hg : aggB P t = some true) (hs : sizeB P t = some k) : ldV P env G a t (.agg vs.toArray) :=
  ⟨gi,b,o,l,e,hi,hl,.inr ⟨vs,rfl,hg,by rw [(takeAt_ok hv).2]; exact hs,(takeAt_ok hv).1⟩⟩
theorem Fin.b3 {v1 v2 : Value} {fn : Func} {F : Value → List Own → List Pers → Prop} {G1 : List Own} {Q1 : List Pers} (i j m : Nat) (is js : List Nat) (hR : F (tupV [v,v1,v2]) G1 Q1) (hr : fn.results = [ResultVar.tmp i,ResultVar.tmp j,ResultVar.tmp m].toArray := by rfl) (hv : Sx.resV P env G [.tmp i,.tmp j,.tmp m] [v,v1,v2] := by exact ⟨rfl,rfl,rfl,trivial⟩) (hsel : sel G is = some (G1,Gr) := by rfl) (hq : pickQ Q js = some Q1 := by rfl) : ∀ (a : Act) (w : World),St c n env G Q a w → Fin P fn c F .ret a w := fun a w h => Fin.back hr hv hsel hq hR h
theorem Fin.c0 {b o e : Nat} {l vs : List Value} {fn : Func} {F : Value → List Own → List Pers → Prop} {G1 : List Own} {Q1 : List Pers} (a_ t_ gi k : Nat) (is js : List Nat) (hR : F (tupV [.agg vs.toArray]) G1 Q1) (hr : fn.results = [ResultVar.cell a_ t_].toArray := by rfl) (hi : nthO G gi = some (.cells b l e) := by rfl) (hl : Sx.look env a_ = some (.pointer (some ⟨b,o,none⟩)) := by rfl) (hv : takeAt l o k = some vs := by rfl) (hg : aggB P t_ = some true := by kernel_rfl) (hs : sizeB P t_ = some k := by kernel_rfl) (hsel : sel G is = some (G1,Gr) := by rfl) (hq : pickQ Q js = some Q1 := by rfl) : ∀ (a : Act) (w : World),St c n env G Q a w → Fin P fn c F .ret a w := fun a w h => Fin.back (rs := [.cell a_ t_]) (vs := [.agg vs.toArray]) hr ⟨ldV_k gi k hi hl hv hg hs,trivial⟩ hsel hq hR h
theorem Fin.c1 {b o e : Nat} {l vs : List Value} {fn : Func} {F : Value → List Own → List Pers → Prop} {G1 : List Own} {Q1 : List Pers} (a_ t_ i gi k : Nat) (is js : List Nat) (hR : F (tupV [.agg vs.toArray,v]) G1 Q1) (hr : fn.results = [ResultVar.cell a_ t_,ResultVar.tmp i].toArray := by rfl) (hi : nthO G gi = some (.cells b l e) := by rfl) (hl : Sx.look env a_ = some (.pointer (some ⟨b,o,none⟩)) := by rfl) (hv : takeAt l o k = some vs := by rfl) (h1 : Sx.look env i = some v := by rfl) (hg : aggB P t_ = some true := by kernel_rfl) (hs : sizeB P t_ = some k := by kernel_rfl) (hsel : sel G is = some (G1,Gr) := by rfl) (hq : pickQ Q js = some Q1 := by rfl) : ∀ (a : Act) (w : World),St c n env G Q a w → Fin P fn c F .ret a w := fun a w h => Fin.back (rs := [.cell a_ t_,.tmp i]) (vs := [.agg vs.toArray,v]) hr ⟨ldV_k gi k hi hl hv hg hs,h1,trivial⟩ hsel hq hR h
theorem Fin.c2 {v1 : Value} {b o e : Nat} {l vs : List Value} {fn : Func} {F : Value → List Own → List Pers → Prop} {G1 : List Own} {Q1 : List Pers} (a_ t_ i j gi k : Nat) (is js : List Nat) (hR : F (tupV [.agg vs.toArray,v,v1]) G1 Q1) (hr : fn.results = [ResultVar.cell a_ t_,ResultVar.tmp i,ResultVar.tmp j].toArray := by rfl) (hi : nthO G gi = some (.cells b l e) := by rfl) (hl : Sx.look env a_ = some (.pointer (some ⟨b,o,none⟩)) := by rfl) (hv : takeAt l o k = some vs := by rfl) (h1 : Sx.look env i = some v := by rfl) (h2 : Sx.look env j = some v1 := by rfl) (hg : aggB P t_ = some true := by kernel_rfl) (hs : sizeB P t_ = some k := by kernel_rfl) (hsel : sel G is = some (G1,Gr) := by rfl) (hq : pickQ Q js = some Q1 := by rfl) : ∀ (a : Act) (w : World),St c n env G Q a w → Fin P fn c F .ret a w := fun a w h => Fin.back (rs := [.cell a_ t_,.tmp i,.tmp j]) (vs := [.agg vs.toArray,v,v1]) hr ⟨ldV_k gi k hi hl hv hg hs,h1,h2,trivial⟩ hsel hq hR h
theorem GA.al (rs : List Nat) {I : World → Prop} {A : Asr} (h : GAs P ops M I fuel listed A rs) (hr : Region.ready .any ops listed = rs := by kernel_rfl) (hne : rs ≠ [] := by simp) : GA P ops M I (fuel + 1) listed A := GA.all hr hne h
theorem GA.tp {op : Op} {G1 : List Own} {Q1 : List Pers} (i : Nat) (hi : ops[i]? = some ⟨some d,op,ty,pos,aft,none⟩) (is js : List Nat) (h : Pi P n (Mem c G1 Q1) env ⟨some d,op,ty,pos,aft,none⟩ v) (k : GA P ops M (Mem c G1 Q1) fuel (listed.setIfInBounds i true) (St c n ((d,v) :: env) G Q))
    (hs : Region.noSelect ops = true := by kernel_rfl) (hf : Region.free .any ops listed i = true := by kernel_rfl) (hr : (Region.ready .any ops listed).contains i = true := by kernel_rfl) (hd : Nat.blt d n = true := by rfl) (hsel : sel G is = some (G1,Gr) := by rfl) (hq : pickQ Q js = some Q1 := by rfl) : GA P ops M (Mem c G1 Q1) (fuel + 1) listed (St c n env G Q) :=
  GA.take i hi hs hf hr hd (fun _ _ h => h.mem hsel hq) h k
theorem GA.tk {op : Op} {G1 : List Own} {Q1 : List Pers} (i : Nat) (is js : List Nat) (k : GA P ops M (Mem c G1 Q1) fuel (listed.setIfInBounds i true) (St c n ((d,v) :: env) G Q)) (hi : ops[i]? = some ⟨some d,op,ty,pos,aft,none⟩ := by rfl) (h : Pi P n (Mem c G1 Q1) env ⟨some d,op,ty,pos,aft,none⟩ v := by exact i_pure (pvE_ok fo_ok sl_ok rfl))
    (hs : Region.noSelect ops = true := by kernel_rfl) (hf : Region.free .any ops listed i = true := by kernel_rfl) (hr : (Region.ready .any ops listed).contains i = true := by kernel_rfl) (hd : Nat.blt d n = true := by rfl) (hsel : sel G is = some (G1,Gr) := by rfl) (hq : pickQ Q js = some Q1 := by rfl) : GA P ops M (Mem c G1 Q1) (fuel + 1) listed (St c n env G Q) :=
  GA.take i hi hs hf hr hd (fun _ _ h => h.mem hsel hq) h k
end
end Go.Proofs.YtliacpkblicnhaaGreat
namespace Go.Proofs.YtliacpkblicnhaaGreat
open Go Go.Sx Go.Proofs
section
variable {c : Cx} {n : Nat} {G : List Own} {Q : List Pers} {ops : Array Oper} {rest rest' l : List Oper} {env env' : List (Nat × Value)} {R : Exit → Asr} {y : Code} {id : Nat}
theorem GL.rn (m : Nat) (k : GL Tryz.prog ops R rest' (St c n env' G Q)) (h : runE foL slL n ops m rest env = some (rest',env') := by rfl) : GL Tryz.prog ops R rest (St c n env G Q) := GL.run_ fo_ok sl_ok m h k
theorem GL.rz (m : Nat) (k : GC Tryz.prog R y (St c n env' G Q)) (h : runE foL slL n ops m rest env = some ([],env') := by rfl) : GL Tryz.prog ops (Exit.then (fun a w => y.wp Tryz.prog R a w) R) rest (St c n env G Q) := GL.run_ fo_ok sl_ok m h (GL.nl_ k)
theorem GC.rr (m : Nat) (k : GL Tryz.prog l.toArray (Exit.then (fun a w => y.wp Tryz.prog R a w) R) rest' (St c n env' G Q)) (h : runE foL slL n l.toArray m l env = some (rest',env') := by rfl) : GC Tryz.prog R (.seq (.region id l.toArray false) y) (St c n env G Q) := GC.sr_ (GL.run_ fo_ok sl_ok m h k)
theorem GC.rg (m : Nat) (k : GC Tryz.prog R y (St c n env' G Q)) (h : runE foL slL n l.toArray m l env = some ([],env') := by rfl) : GC Tryz.prog R (.seq (.region id l.toArray false) y) (St c n env G Q) := GC.sr_ (GL.run_ fo_ok sl_ok m h (GL.nl_ k))
theorem GL.nr (m : Nat) (k : GL Tryz.prog l.toArray (Exit.then (fun a w => y.wp Tryz.prog R a w) R) rest' (St c n env' G Q)) (h : runE foL slL n l.toArray m l env = some (rest',env') := by rfl) : GL Tryz.prog ops (Exit.then (fun a w => (Code.seq (.region id l.toArray false) y).wp Tryz.prog R a w) R) [] (St c n env G Q) := GL.nl_ (GC.rr m k h)
theorem GQ.rn {M : List (Nat × Value) → Prop} (m : Nat) (k : GQ Tryz.prog c n G Q ops rest' env' M) (h : runE foL slL n ops m rest env = some (rest',env') := by rfl) : GQ Tryz.prog c n G Q ops rest env M := GQ.run_ fo_ok sl_ok m h k
end
end Go.Proofs.YtliacpkblicnhaaGreat
namespace Go.Sx
open Go
abbrev u8v (b : UInt8) : Value := Value.int .u8 (b.toNat : Int)
abbrev kBytes : Kd (List UInt8) := Kd.slice Kd.u8
structure Res where
  code : Int
  data : List UInt8
  deriving Inhabited,DecidableEq
def kRes : Kd Res := Kd.iso (Kd.pair (Kd.int .u8) kBytes) (fun r => (r.code,r.data))
structure Row where
  client : Int
  serial : Int
  result : Res
  deriving Inhabited,DecidableEq
def kRow : Kd Row := Kd.iso (Kd.pair (Kd.int .i64) (Kd.pair (Kd.int .i64) kRes)) (fun r => (r.client,r.serial,r.result))
structure Last where
  serial : Int
  result : Res
  deriving Inhabited,DecidableEq
def kLast : Kd Last := Kd.iso (Kd.pair (Kd.int .i64) kRes) (fun r => (r.serial,r.result))
end Go.Sx
namespace Go.Sx
open Go
section
variable {P : Program} {c : Cx} {n : Nat} {env env' : List (Nat × Value)} {G G' Gr : List Own} {Q Q' : List Pers} {d : Nat} {ty : TypeId} {pos : String} {aft : Array Edge} {g : Option (Nat × Bool)} {x y : Operand} {t : TypeId} {a a' : Act} {w w' : World}
variable {ops : Array Oper} {R : Exit → Asr} {rest : List Oper} {A B : Asr} {cd : Code}
theorem St.snoc {α : Type} {kd : Kd α} {xs : List α} {cs : List Value} {z : α} {r : kd.Y} {j : Nat} {js : List Nat} (h : St c n env G Q a w) (hj : nthO Q j = some (Pers.reps kd xs cs)) (hq : pickQ Q js = some (kd.pers z r)) (hok : kd.ok z r) :
    St c n env G (Pers.reps kd (xs ++ [z]) (cs ++ kd.cells z r) :: Q) a w :=
  h.know fun w S hp => Reps.append (Reps.single ⟨r,hok,rfl,fun q hq' => hp _ (pickQ_mem hq q hq')⟩) (hp _ (nthO_mem hj))
theorem GL.snoc {α : Type} {kd : Kd α} {xs : List α} {cs : List Value} {j : Nat} {js : List Nat} (z : α) (r : kd.Y) (hj : nthO Q j = some (Pers.reps kd xs cs)) (hq : pickQ Q js = some (kd.pers z r)) (hok : kd.ok z r)
    (k : GL P ops R rest (St c n env G (Pers.reps kd (xs ++ [z]) (cs ++ kd.cells z r) :: Q))) : GL P ops R rest (St c n env G Q) := GL.imp (fun a w h => h.snoc hj hq hok) k
theorem GC.snoc {α : Type} {kd : Kd α} {xs : List α} {cs : List Value} {j : Nat} {js : List Nat} (z : α) (r : kd.Y) (hj : nthO Q j = some (Pers.reps kd xs cs)) (hq : pickQ Q js = some (kd.pers z r)) (hok : kd.ok z r)
    (k : GC P R cd (St c n env G (Pers.reps kd (xs ++ [z]) (cs ++ kd.cells z r) :: Q))) : GC P R cd (St c n env G Q) := GC.imp (fun a w h => h.snoc hj hq hok) k
theorem St.freezeR {α : Type} {kd : Kd α} {i j e m cp : Nat} {A : Option Addr} {xs : List α} {cs : List Value} (h : St c n env G Q a w) (ht : takeO G i = some (.row (.slice A m cp) e kd.sz m cs,G')) (hj : nthO Q j = some (Pers.reps kd xs cs)) (hp : 0 < kd.sz) :
    St c n env G' (Pers.row kd A xs :: Q) a w :=
  h.freeze (QN := [Pers.row kd A xs]) ht fun w S ho hS hq q hq' => by
    rw [List.mem_singleton.1 hq']
    exact row_pers ho hS (hq _ (nthO_mem hj)) hp
theorem GL.freezeR {α : Type} {kd : Kd α} {i j e m cp : Nat} {A : Option Addr} {xs : List α} {cs : List Value} (ht : takeO G i = some (.row (.slice A m cp) e kd.sz m cs,G')) (hj : nthO Q j = some (Pers.reps kd xs cs)) (hp : 0 < kd.sz)
    (k : GL P ops R rest (St c n env G' (Pers.row kd A xs :: Q))) : GL P ops R rest (St c n env G Q) := GL.imp (fun a w h => h.freezeR ht hj hp) k
theorem GC.freezeR {α : Type} {kd : Kd α} {i j e m cp : Nat} {A : Option Addr} {xs : List α} {cs : List Value} (ht : takeO G i = some (.row (.slice A m cp) e kd.sz m cs,G')) (hj : nthO Q j = some (Pers.reps kd xs cs)) (hp : 0 < kd.sz)
    (k : GC P R cd (St c n env G' (Pers.row kd A xs :: Q))) : GC P R cd (St c n env G Q) := GC.imp (fun a w h => h.freezeR ht hj hp) k
theorem GC.lay {α : Type} {kd : Kd α} {x y : Operand} {j cap : Nat} {k : IntKind} {m : Int} {A : Option Addr} {xs : List α} {z : α} (hx : ev env x = some (.slice A xs.length cap)) (hy : ev env y = some (.int k m)) (hj : nthO Q j = some (Pers.row kd A xs)) (h0 : 0 ≤ m) (hz : xs[m.toNat]? = some z)
    (kk : ∀ p r,A = some p → kd.ok z r → GC P R cd (St c n env G (Pers.at (p.add (m.toNat * kd.sz)) (kd.cells z r) :: (kd.pers z r ++ Q)))) : GC P R cd (St c n env G Q) := fun a w h => by
  obtain ⟨S,he,hh,hrel⟩ := h
  have hlt : m.toNat < xs.length := (List.getElem?_eq_some_iff.1 hz).1
  rcases hh.per _ (nthO_mem hj) with h1 | ⟨p,hA,hS,hb,hrow⟩
  · subst h1; simp at hlt
  · obtain ⟨cs,⟨r,hok,rfl,hper⟩,hc⟩ := hrow _ _ hz
    refine kk p r hA hok a w ⟨S,he,⟨hh.own,hh.nod,hh.out,fun q hq => ?_⟩,hrel⟩
    rcases List.mem_cons.1 hq with rfl | hq
    · exact ⟨by rw [add_block]; exact hS,by rw [add_block]; exact hb,hc⟩
    · rcases List.mem_append.1 hq with hq | hq
      · exact hper q hq
      · exact hh.per q hq
theorem p_indexL {p : Addr} {A : Option Addr} {len cap sz : Nat} {k : IntKind} {m : Int} {e : TypeId} (hA : A = some p) (hx : ev env x = some (.slice A len cap)) (hy : ev env y = some (.int k m)) (ht : P.underlying t = some (.slice e)) (hs : sizeB P e = some sz) (h0 : 0 ≤ m) (h1 : m < len) :
    Pv P n env ⟨some d,.indexAddr t x y,ty,pos,aft,g⟩ (.pointer (some (Addr.add (p.add (m.toNat * sz)) 0))) := fun a w he => by
  subst hA
  rw [add_zero]
  simp only [execOp,he.eval hx,he.eval hy,run_indexAt ht hs h0 h1,Sem.run_bind,Result.andThen_ok,Sem.run_pure]
end
end Go.Sx
namespace Go.Sx
open Go
theorem nth_map {α : Type} [Inhabited α] (enc : α → Value) {xs : List α} {i : Int} (h0 : 0 ≤ i) (h : i < (xs.length : Int)) : nth (xs.map enc) (0 + i.toNat * 1) = some (enc (gt xs i)) := by
  rw [nth_eq,Nat.zero_add,Nat.mul_one,List.getElem?_map,gt_ok h0 h]; rfl
theorem upd_at : ∀ (l : List Value) (o : Nat) (vs : List Value),o + vs.length ≤ l.length → upd l o vs = some (l.take o ++ vs ++ l.drop (o + vs.length))
  | l,0,[],_ => by cases l <;> simp [upd]
  | [],0,v :: vs,h => by simp at h
  | x :: r,0,v :: vs,h => by
    have := upd_at r 0 vs (by simpa using h)
    simp only [upd,this,Option.map_some]
    simp
  | [],o + 1,vs,h => by simp at h
  | x :: r,o + 1,vs,h => by
    have := upd_at r o vs (by simp at h; omega)
    simp only [upd,this,Option.map_some]
    simp [show o + 1 + vs.length = o + vs.length + 1 by omega]
theorem upd_map {α : Type} (enc : α → Value) {xs : List α} {i : Int} {x : α} (h0 : 0 ≤ i) (h : i < (xs.length : Int)) : upd (xs.map enc) (0 + i.toNat * 1) [enc x] = some ((xs.set i.toNat x).map enc) := by
  rw [Nat.zero_add,Nat.mul_one,upd_at _ _ _ (by simp; omega)]
  congr 1
  rw [List.map_set,List.set_eq_take_append_cons_drop,if_pos (by simp; omega)]
  simp
theorem reps_one (v : Value) : ∀ n,reps [v] n = List.replicate n v
  | 0 => rfl
  | n + 1 => by rw [reps,reps_one v n]; rfl
theorem reps_u8 (n : Nat) : reps [.int .u8 0] n = (List.replicate n (0 : UInt8)).map (fun b => Value.int .u8 (b.toNat : Int)) := by rw [reps_one,List.map_replicate]; rfl
theorem reps_i64 (n : Nat) : reps [.int .i64 0] n = (List.replicate n (0 : Int)).map (fun z => Value.int .i64 z) := by rw [reps_one,List.map_replicate]
def seg {α : Type} (xs : List α) (l h : Nat) : List α := (xs.take h).drop l
theorem seg_length {α : Type} {xs : List α} {l h : Nat} (hh : h ≤ xs.length) : (seg xs l h).length = h - l := by simp [seg]; omega
def laid {α : Type} (xs : List α) (o : Nat) (ys : List α) : List α := xs.take o ++ ys ++ xs.drop (o + ys.length)
theorem laid_length {α : Type} {xs ys : List α} {o : Nat} (h : o + ys.length ≤ xs.length) : (laid xs o ys).length = xs.length := by simp [laid]; omega
theorem laid_map {α β : Type} (f : α → β) (xs ys : List α) (o : Nat) : (laid xs o ys).map f = laid (xs.map f) o (ys.map f) := by simp [laid]
end Go.Sx
namespace Go.Sx
open Go
section
variable {P : Program} {c : Cx} {n : Nat} {env env' : List (Nat × Value)} {G G' Gr : List Own} {Q Q' : List Pers} {d : Nat} {ty : TypeId} {pos : String} {aft : Array Edge} {g : Option (Nat × Bool)} {x y z u : Operand} {t : TypeId} {a a' : Act} {w w' : World}
variable {ops : Array Oper} {R : Exit → Asr} {rest : List Oper} {A B : Asr} {cd : Code}
theorem reps_eq (z : List Value) (hz : 0 < z.length) (m : Nat) : madeCells z.toArray (m * z.length) = (reps z m).toArray := by
  unfold madeCells
  exact range_map_reps z hz m
theorem t_make {k k' : IntKind} {m : Int} {e : TypeId} {sz by_ : Nat} {zl : List Value} (hd : Nat.blt d n = true) (hel : El P t e sz by_ zl) (hx : ev env x = some (.int k m)) (hy : ev env y = some (.int k' m)) (h0 : 0 ≤ m) (hb : m * by_ ≤ 281474976710656) :
    Tr P ⟨some d,.makeSlice t x y,ty,pos,aft,g⟩ (St c n env G Q) (fun a w => ∃ b,St c n ((d,.slice (some ⟨b,0,none⟩) m.toNat m.toNat) :: env) (.cells b (reps zl m.toNat) e :: G) Q a w) := by
  intro a w h K R hk
  obtain ⟨i,hi,hby⟩ := Option.map_eq_some_iff.1 hel.byt
  have hsz : i.size = sz := by have := hel.size; unfold sizeB at this; rw [hi] at this; simpa using this
  obtain ⟨zv,hzv,hzz⟩ := Option.map_eq_some_iff.1 hel.zero
  have hz' : i.zero = some zv := by unfold zeroB at hzv; rw [hi] at hzv; simpa using hzv
  have hzc : zv.cells = zl.toArray := by rw [← hzz,← vcells_eq]
  have hpos := hel.bpos
  have hm1 : m ≤ 281474976710656 := by
    refine Int.le_trans ?_ hb
    have : m * 1 ≤ m * (by_ : Int) := Int.mul_le_mul_of_nonneg_left (by omega) h0
    simpa using this
  have hrun : (execOp a.eval ⟨some d,.makeSlice t x y,ty,pos,aft,g⟩).run P w = .ok (.value (.slice (some ⟨w.heap.size,0,none⟩) m.toNat m.toNat)) (w.alloc (.cells (reps zl m.toNat).toArray e (0,0))) := by
    have := run_make (P := P) w t e i zv hel.und hi hz' k k' m m h0 (Int.le_refl _) (by rw [hby,Int.mul_comm]; exact hb) (by omega)
    rw [hzc,hsz,← hel.zlen,reps_eq zl (by rw [hel.zlen]; exact hel.spos)] at this
    simp only [execOp,h.en.eval hx,h.en.eval hy,Sem.run_bind,this,Result.andThen_ok,Sem.run_pure]
  unfold Oper.wp
  rw [hrun]
  exact hk _ _ ⟨w.heap.size,h.new _ (h.en.put hd _)⟩
theorem elem_of {e : TypeId} (ht : P.underlying t = some (.slice e)) : P.elem t = e := by simp [Program.elem,ht]
theorem p_cut {v : Value} {lo hi mx : Option Operand} {lo' hi' mx' : Option Value} (hx : ev env x = some v) (hlo : lo.bind (ev env) = lo') (hhi : hi.bind (ev env) = hi') (hmx : mx.bind (ev env) = mx') (hlo2 : lo.isSome = lo'.isSome) (hhi2 : hi.isSome = hi'.isSome) (hmx2 : mx.isSome = mx'.isSome) {r : Value} (hr : ∀ w,(Instr.sliceAt t v lo' hi' mx').run P w = .ok r w) :
    Pv P n env ⟨some d,.slice t x lo hi mx,ty,pos,aft,g⟩ r := fun a w he => by
  have key : ∀ (o : Option Operand) (o' : Option Value),o.bind (ev env) = o' → o.isSome = o'.isSome → o.map a.eval = o' := by
    intro o o' h1 h2
    cases o with
    | none => simpa using h1
    | some p =>
      simp only [Option.bind_some] at h1
      subst h1
      cases hp : ev env p with
      | none => rw [hp] at h2; simp at h2
      | some q => simp [he.eval hp]
  simp only [execOp,he.eval hx,key lo lo' hlo hlo2,key hi hi' hhi hhi2,key mx mx' hmx hmx2,hr,Sem.run_bind,Result.andThen_ok,Sem.run_pure]
theorem sliced_eq {A A' : Option Addr} {l h m s len' cap' : Nat} (e1 : h - l = len') (e2 : m - l = cap') (hA : slA A s l m = A') : sliced A l h m s = .slice A' len' cap' := by
  subst e1; subst e2; subst hA; rfl
theorem p_cut_lhm {A A' : Option Addr} {len cap sz len' cap' : Nat} {kl kh km : IntKind} {l h m : Int} {e : TypeId} (hx : ev env x = some (.slice A len cap)) (hl : ev env y = some (.int kl l)) (hh : ev env z = some (.int kh h)) (hm : ev env u = some (.int km m)) (ht : P.underlying t = some (.slice e)) (hs : sizeB P e = some sz)
    (h0 : 0 ≤ l) (h1 : l ≤ h) (h2 : h ≤ m) (h3 : m ≤ cap) (e1 : h.toNat - l.toNat = len') (e2 : m.toNat - l.toNat = cap') (hA : slA A sz l.toNat m.toNat = A') : Pv P n env ⟨some d,.slice t x (some y) (some z) (some u),ty,pos,aft,g⟩ (.slice A' len' cap') :=
  p_cut hx (lo' := some (.int kl l)) (hi' := some (.int kh h)) (mx' := some (.int km m)) (show (some y).bind (ev env) = _ from hl) (show (some z).bind (ev env) = _ from hh) (show (some u).bind (ev env) = _ from hm) rfl rfl rfl fun w => by
    have he := elem_of ht
    rw [run_sliceAt_slice _ _ _ _ _ _ (by rw [he]; exact ht),run_slice_lhm _ _ _ _ _ (by rw [he]; exact ht) kl kh km l h m h0 h1 h2 h3,he,run_sizeB hs]
    simp only [Result.andThen_ok,sliced_eq e1 e2 hA]
theorem p_cut_lh {A A' : Option Addr} {len cap sz len' cap' : Nat} {kl kh : IntKind} {l h : Int} {e : TypeId} (hx : ev env x = some (.slice A len cap)) (hl : ev env y = some (.int kl l)) (hh : ev env z = some (.int kh h)) (ht : P.underlying t = some (.slice e)) (hs : sizeB P e = some sz)
    (h0 : 0 ≤ l) (h1 : l ≤ h) (h2 : h ≤ cap) (e1 : h.toNat - l.toNat = len') (e2 : cap - l.toNat = cap') (hA : slA A sz l.toNat cap = A') : Pv P n env ⟨some d,.slice t x (some y) (some z) none,ty,pos,aft,g⟩ (.slice A' len' cap') :=
  p_cut hx (lo' := some (.int kl l)) (hi' := some (.int kh h)) (mx' := none) (show (some y).bind (ev env) = _ from hl) (show (some z).bind (ev env) = _ from hh) rfl rfl rfl rfl fun w => by
    have he := elem_of ht
    rw [run_sliceAt_slice _ _ _ _ _ _ (by rw [he]; exact ht),run_slice_lh _ _ _ _ _ (by rw [he]; exact ht) kl kh l h h0 h1 h2,he,run_sizeB hs]
    simp only [Result.andThen_ok,sliced_eq e1 e2 hA]
theorem p_cut_h {A A' : Option Addr} {len cap sz len' cap' : Nat} {kh : IntKind} {h : Int} {e : TypeId} (hx : ev env x = some (.slice A len cap)) (hh : ev env z = some (.int kh h)) (ht : P.underlying t = some (.slice e)) (hs : sizeB P e = some sz)
    (h0 : 0 ≤ h) (h2 : h ≤ cap) (e1 : h.toNat - 0 = len') (e2 : cap - 0 = cap') (hA : slA A sz 0 cap = A') : Pv P n env ⟨some d,.slice t x none (some z) none,ty,pos,aft,g⟩ (.slice A' len' cap') :=
  p_cut hx (lo' := none) (hi' := some (.int kh h)) (mx' := none) rfl (show (some z).bind (ev env) = _ from hh) rfl rfl rfl rfl fun w => by
    have he := elem_of ht
    rw [run_sliceAt_slice _ _ _ _ _ _ (by rw [he]; exact ht),run_slice_h _ _ _ _ _ (by rw [he]; exact ht) kh h h0 h2,he,run_sizeB hs]
    simp only [Result.andThen_ok,sliced_eq e1 e2 hA]
theorem p_cut_l {A A' : Option Addr} {len cap sz len' cap' : Nat} {kl : IntKind} {l : Int} {e : TypeId} (hx : ev env x = some (.slice A len cap)) (hl : ev env y = some (.int kl l)) (ht : P.underlying t = some (.slice e)) (hs : sizeB P e = some sz)
    (h0 : 0 ≤ l) (h1 : l ≤ len) (e1 : len - l.toNat = len') (e2 : cap - l.toNat = cap') (hA : slA A sz l.toNat cap = A') : Pv P n env ⟨some d,.slice t x (some y) none none,ty,pos,aft,g⟩ (.slice A' len' cap') :=
  p_cut hx (lo' := some (.int kl l)) (hi' := none) (mx' := none) (show (some y).bind (ev env) = _ from hl) rfl rfl rfl rfl rfl fun w => by
    have he := elem_of ht
    rw [run_sliceAt_slice _ _ _ _ _ _ (by rw [he]; exact ht),run_slice_l _ _ _ _ _ (by rw [he]; exact ht) kl l h0 h1,he,run_sizeB hs]
    simp only [Result.andThen_ok,sliced_eq e1 e2 hA]
theorem slA_blk {b o sz l m : Nat} (h : l < m) : slA (some ⟨b,o,none⟩) sz l m = some ⟨b,o + l * sz,none⟩ := by
  unfold slA
  rw [if_neg (by omega)]
  simp [add_lit]
theorem row_sub {α : Type} {kd : Kd α} {A : Option Addr} {xs : List α} {S : Blocks} {l h m : Nat} (hr : (Pers.row kd A xs).h w S) (hh : h ≤ xs.length) (hm : h ≤ m) : (Pers.row kd (slA A kd.sz l m) (seg xs l h)).h w S := by
  by_cases hl : l < h
  · rcases hr with rfl | ⟨p,rfl,h1,h2,h3⟩
    · simp at hh; omega
    · right
      refine ⟨p.add (l * kd.sz),?_,by rw [add_block]; exact h1,by rw [add_block]; exact h2,fun i x hx => ?_⟩
      · unfold slA; rw [if_neg (by omega)]; rfl
      · have hx2 : xs[l + i]? = some x := by
          unfold seg at hx
          rw [List.getElem?_drop,List.getElem?_take] at hx
          split at hx
          · exact hx
          · cases hx
        obtain ⟨cs,h4,h5⟩ := h3 _ _ hx2
        refine ⟨cs,h4,?_⟩
        rw [add_add]
        rw [Nat.add_mul] at h5
        exact h5
  · left
    unfold seg
    apply List.drop_of_length_le
    simp; omega
theorem blk_sub {α : Type} {enc : α → Value} {h1 : ∀ x,(enc x).oneCell' = true} {b l h : Nat} {e : TypeId} {xs : List α} {S : Blocks} (ho : (Own.cells b (xs.map enc) e).holds w) (hS : S b) : (Pers.row (Kd.sc enc h1) (some ⟨b,l,none⟩) (seg xs l h)).h w S := by
  right
  have hb : w.heap[b]? = some (.cells (xs.map enc).toArray e (0,0)) := ho
  refine ⟨_,rfl,hS,(Array.getElem?_eq_some_iff.1 hb).1,fun i x hx => ⟨[enc x],⟨(),trivial,rfl,fun q hq => by cases hq⟩,?_⟩⟩
  have hx2 : xs[l + i]? = some x := by
    unfold seg at hx
    rw [List.getElem?_drop,List.getElem?_take] at hx
    split at hx
    · exact hx
    · cases hx
  rw [show (i * (Kd.sc enc h1).sz) = i from Nat.mul_one i,add_lit]
  refine cellsAt_blk hb fun j u hj => ?_
  match j,hj with
  | 0,hj => simp at hj; subst hj; simp [hx2]
  | j + 1,hj => simp at hj
theorem run_copy_zero {dT sT ty e : TypeId} {p : Addr} {A : Option Addr} {dLen dCap sCap : Nat} {w : World} (hu : P.underlying dT = some (.slice e)) (hs : sizeB P e = some 1) :
    (Builtin.copy_ #[dT,sT] ty #[.slice (some p) dLen dCap,.slice A 0 sCap]).run P w = .ok (goInt 0) w := by
  obtain ⟨i,hi,hs'⟩ := Option.map_eq_some_iff.1 hs
  cases A with
  | none => simp [Builtin.copy_,run_underlying hu,Builtin.lenOf,Builtin.firstCells,sizeOf,typeInfo,hi,storeCells]
  | some q => simp [Builtin.copy_,run_underlying hu,Builtin.lenOf,Builtin.firstCells,sizeOf,typeInfo,hi,storeCells,loadCells,loadCellsFrom]
theorem t_copyB {α : Type} {enc : α → Value} {h1 : ∀ x,(enc x).oneCell' = true} {xs : List α} {i k b o dLen dCap sCap : Nat} {l l' : List Value} {e e' : TypeId} {A : Option Addr} {sT : TypeId}
    (hd : Nat.blt d n = true) (hi : nthO G i = some (.cells b l e')) (hk : nthO Q k = some (Pers.row (Kd.sc enc h1) A xs)) (hx : ev env x = some (.slice (some ⟨b,o,none⟩) dLen dCap)) (hy : ev env y = some (.slice A xs.length sCap))
    (ht : P.underlying t = some (.slice e)) (hs : sizeB P e = some 1) (hlen : xs.length ≤ dLen) (hfit : o + xs.length ≤ l.length) (hl' : laid l o (xs.map enc) = l') (hr : repl G i (.cells b l' e') = some G') :
    Tr P ⟨some d,.call { callee := .builtin .copy,args := #[x,y],argTypes := #[t,sT] },ty,pos,aft,g⟩ (St c n env G Q) (St c n ((d,.int .i64 (xs.length : Int)) :: env) G' Q) := by
  intro a w hst K R hk2
  have he := hst.en
  have hb : w.heap[b]? = some (.cells l.toArray e' (0,0)) := hst.own hi
  obtain ⟨S,hp⟩ := hst.per hk
  have hrun0 : (Builtin.copy_ #[t,sT] ty #[.slice (some ⟨b,o,none⟩) dLen dCap,.slice A xs.length sCap]).run P w = .ok (.int .i64 (xs.length : Int)) (w.setRow b l'.toArray) := by
    rcases row_scalar hp with h0 | ⟨p,rfl,_,_,hc⟩
    · subst h0
      have : l' = l := by rw [← hl']; simp [laid]
      rw [this,setRow_self w b l.toArray e' (0,0) hb]
      exact run_copy_zero ht hs
    · have := run_copy_row P w t sT ty e b o dLen dCap p xs.length sCap l.toArray e' (xs.map enc) ht hs hb (by rw [List.length_map]; exact (Nat.min_eq_left hlen).symm) hc (by simpa using hfit) (by intro v hv; obtain ⟨x,_,rfl⟩ := List.mem_map.1 hv; exact h1 x)
      rw [this]
      simp only [List.length_map]
      rw [← hl']
      simp [laid,goInt]
  have hop : (execOp a.eval ⟨some d,.call { callee := .builtin .copy,args := #[x,y],argTypes := #[t,sT] },ty,pos,aft,g⟩).run P w = .ok (.value (.int .i64 (xs.length : Int))) (w.setRow b l'.toArray) := by
    simp only [execOp,resolve,invoke,builtin,Sem.run_bind,Sem.run_pure,Result.andThen_ok,List.map_toArray,List.map_cons,List.map_nil,he.eval hx,he.eval hy,hrun0]
  unfold Oper.wp
  rw [hop]
  exact hk2 _ _ (hst.write hi hr (Fr.setRow w b _) (setRow_heap w b _ _ _ _ hb) (fun k hk => .inl hk) (by simp [Own.keys]) (he.put hd _))
end
end Go.Sx
namespace Go.Sx
open Go
section
variable {P : Program} {c : Cx} {n : Nat} {env env' : List (Nat × Value)} {G G' Gr : List Own} {Q Q' : List Pers} {d : Nat} {ty : TypeId} {pos : String} {aft : Array Edge} {g : Option (Nat × Bool)} {x y z u : Operand} {t : TypeId} {a a' : Act} {w w' : World}
variable {ops : Array Oper} {R : Exit → Asr} {rest : List Oper} {A B : Asr} {cd : Code}
theorem reps_split {α : Type} {d : Kd α} {w : World} {S : Blocks} : ∀ {xs : List α} {cs : List Value},Reps d w S xs cs → ∀ {i : Nat} {x : α},xs[i]? = some x → ∃ c1 c c2,cs = c1 ++ (c ++ c2) ∧ c1.length = i * d.sz ∧ d.K w S x c ∧ Reps d w S (xs.take i) c1 ∧ Reps d w S (xs.drop (i + 1)) c2
  | [],_,_,i,x,hx => by simp at hx
  | y :: r,_,⟨c,t,e,hk,h⟩,0,x,hx => by
    simp at hx; subst hx
    exact ⟨[],c,t,by simpa using e,by simp,hk,rfl,by simpa using h⟩
  | y :: r,_,⟨c,t,e,hk,h⟩,i + 1,x,hx => by
    obtain ⟨c1,c',c2,rfl,h1,h2,h3,h4⟩ := reps_split h (i := i) (x := x) (by simpa using hx)
    refine ⟨c ++ c1,c',c2,by simp [e],?_,h2,⟨c,c1,rfl,hk,h3⟩,by simpa using h4⟩
    rw [List.length_append,h1,Kd.K_len hk,Nat.add_mul]; omega
theorem nth_app {l1 l2 : List Value} {k : Nat} {v : Value} (h : nth l1 k = some v) : nth (l1 ++ l2) k = some v := by
  rw [nth_eq] at h ⊢
  rw [List.getElem?_append_left (List.getElem?_eq_some_iff.1 h).1]
  exact h
theorem GC.layE {α : Type} {kd : Kd α} {j : Nat} {m : Int} {xs : List α} {cs : List Value} {z : α} (sp : List Value) (hj : nthO Q j = some (Pers.reps kd xs cs)) (h0 : 0 ≤ m) (hz : xs[m.toNat]? = some z)
    (kk : ∀ r,kd.ok z r → (∀ q v,nth (kd.cells z r) q = some v → nth (cs ++ sp) (0 + m.toNat * kd.sz + q) = some v) → GC P R cd (St c n env G (kd.pers z r ++ Q))) : GC P R cd (St c n env G Q) := fun a w h => by
  obtain ⟨S,he,hh,hrel⟩ := h
  obtain ⟨c1,cc,c2,rfl,h1,⟨r,hok,rfl,hper⟩,_,_⟩ := reps_split (hh.per _ (nthO_mem hj)) hz
  refine kk r hok (fun q v hq => ?_) a w ⟨S,he,⟨hh.own,hh.nod,hh.out,fun q hq => ?_⟩,hrel⟩
  · rw [nth_eq] at hq ⊢
    have hlt := (List.getElem?_eq_some_iff.1 hq).1
    rw [List.append_assoc,Nat.zero_add,← h1,List.getElem?_append_right (by omega),Nat.add_sub_cancel_left,List.append_assoc,List.getElem?_append_left hlt]
    exact hq
  · rcases List.mem_append.1 hq with hq | hq
    · exact hper q hq
    · exact hh.per q hq
theorem GL.layE {α : Type} {kd : Kd α} {j : Nat} {m : Int} {xs : List α} {cs : List Value} {z : α} (sp : List Value) (hj : nthO Q j = some (Pers.reps kd xs cs)) (h0 : 0 ≤ m) (hz : xs[m.toNat]? = some z)
    (kk : ∀ r,kd.ok z r → (∀ q v,nth (kd.cells z r) q = some v → nth (cs ++ sp) (0 + m.toNat * kd.sz + q) = some v) → GL P ops R rest (St c n env G (kd.pers z r ++ Q))) : GL P ops R rest (St c n env G Q) := fun a w h => by
  obtain ⟨S,he,hh,hrel⟩ := h
  obtain ⟨c1,cc,c2,rfl,h1,⟨r,hok,rfl,hper⟩,_,_⟩ := reps_split (hh.per _ (nthO_mem hj)) hz
  refine kk r hok (fun q v hq => ?_) a w ⟨S,he,⟨hh.own,hh.nod,hh.out,fun q hq => ?_⟩,hrel⟩
  · rw [nth_eq] at hq ⊢
    have hlt := (List.getElem?_eq_some_iff.1 hq).1
    rw [List.append_assoc,Nat.zero_add,← h1,List.getElem?_append_right (by omega),Nat.add_sub_cancel_left,List.append_assoc,List.getElem?_append_left hlt]
    exact hq
  · rcases List.mem_append.1 hq with hq | hq
    · exact hper q hq
    · exact hh.per q hq
theorem laid_app {l sp vs : List Value} {o : Nat} (h : o + vs.length ≤ l.length) : laid (l ++ sp) o vs = laid l o vs ++ sp := by
  unfold laid
  rw [List.take_append_of_le_length (by omega),List.drop_append_of_le_length (by omega)]
  simp
theorem upd_elem {cs sp vs : List Value} {o : Nat} (h : 0 + o + vs.length ≤ cs.length) : upd (cs ++ sp) (0 + o) vs = some (laid cs o vs ++ sp) := by
  rw [upd_at _ _ _ (by simp; omega),← laid_app (by omega),Nat.zero_add]
  rfl
theorem Tr.thenKnow {o : Oper} {q : Pers} {F : Asr} (h : Tr P o F (St c n env G Q)) (hq : ∀ w S,(∀ p ∈ Q,p.h w S) → q.h w S) : Tr P o F (St c n env G (q :: Q)) := h.mono (fun a w h => h) fun a w h => h.know hq
theorem t_cut_lh {α : Type} {kd : Kd α} {j cap : Nat} {A : Option Addr} {xs : List α} {kl kh : IntKind} {l h : Int} {e : TypeId} (hd : Nat.blt d n = true) (hj : nthO Q j = some (Pers.row kd A xs)) (hx : ev env x = some (.slice A xs.length cap)) (hl : ev env y = some (.int kl l)) (hh : ev env z = some (.int kh h))
    (ht : P.underlying t = some (.slice e)) (hs : sizeB P e = some kd.sz) (h0 : 0 ≤ l) (h1 : l ≤ h) (h2 : h ≤ xs.length) (hc : xs.length ≤ cap) :
    Tr P ⟨some d,.slice t x (some y) (some z) none,ty,pos,aft,g⟩ (St c n env G Q) (St c n ((d,.slice (slA A kd.sz l.toNat cap) (seg xs l.toNat h.toNat).length (cap - l.toNat)) :: env) G (Pers.row kd (slA A kd.sz l.toNat cap) (seg xs l.toNat h.toNat) :: Q)) :=
  Tr.thenKnow (Tr.val hd (p_cut_lh hx hl hh ht hs h0 h1 (by omega) (seg_length (by omega)).symm rfl rfl)) fun w S hp => row_sub (hp _ (nthO_mem hj)) (by omega) (by omega)
theorem t_cut_h {α : Type} {kd : Kd α} {j cap : Nat} {A : Option Addr} {xs : List α} {kh : IntKind} {h : Int} {e : TypeId} (hd : Nat.blt d n = true) (hj : nthO Q j = some (Pers.row kd A xs)) (hx : ev env x = some (.slice A xs.length cap)) (hh : ev env z = some (.int kh h))
    (ht : P.underlying t = some (.slice e)) (hs : sizeB P e = some kd.sz) (h1 : 0 ≤ h) (h2 : h ≤ xs.length) (hc : xs.length ≤ cap) :
    Tr P ⟨some d,.slice t x none (some z) none,ty,pos,aft,g⟩ (St c n env G Q) (St c n ((d,.slice (slA A kd.sz 0 cap) (seg xs 0 h.toNat).length (cap - 0)) :: env) G (Pers.row kd (slA A kd.sz 0 cap) (seg xs 0 h.toNat) :: Q)) :=
  Tr.thenKnow (Tr.val hd (p_cut_h hx hh ht hs h1 (by omega) (seg_length (by omega)).symm rfl rfl)) fun w S hp => row_sub (hp _ (nthO_mem hj)) (by omega) (by omega)
theorem t_cut_l {α : Type} {kd : Kd α} {j cap : Nat} {A : Option Addr} {xs : List α} {kl : IntKind} {l : Int} {e : TypeId} (hd : Nat.blt d n = true) (hj : nthO Q j = some (Pers.row kd A xs)) (hx : ev env x = some (.slice A xs.length cap)) (hl : ev env y = some (.int kl l))
    (ht : P.underlying t = some (.slice e)) (hs : sizeB P e = some kd.sz) (h0 : 0 ≤ l) (h1 : l ≤ xs.length) (hc : xs.length ≤ cap) :
    Tr P ⟨some d,.slice t x (some y) none none,ty,pos,aft,g⟩ (St c n env G Q) (St c n ((d,.slice (slA A kd.sz l.toNat cap) (seg xs l.toNat xs.length).length (cap - l.toNat)) :: env) G (Pers.row kd (slA A kd.sz l.toNat cap) (seg xs l.toNat xs.length) :: Q)) :=
  Tr.thenKnow (Tr.val hd (p_cut_l hx hl ht hs h0 h1 (seg_length (Nat.le_refl _)).symm rfl rfl)) fun w S hp => row_sub (hp _ (nthO_mem hj)) (by omega) (by omega)
end
end Go.Sx
namespace Go.Sx
open Go
theorem seg_all {α : Type} (xs : List α) : seg xs 0 xs.length = xs := by simp [seg]
end Go.Sx
namespace Go.Sx
open Go
section
variable {P : Program} {c : Cx} {n : Nat} {env env' : List (Nat × Value)} {G G' Gr : List Own} {Q Q' : List Pers} {d : Nat} {ty : TypeId} {pos : String} {aft : Array Edge} {g : Option (Nat × Bool)} {x y z u : Operand} {t : TypeId} {a a' : Act} {w w' : World}
variable {ops : Array Oper} {R : Exit → Asr} {rest : List Oper} {A B : Asr} {cd : Code} {M : Asr} {I : World → Prop} {fuel : Nat} {listed : Array Bool}
theorem GA.shape {i e sz m : Nat} {v : Value} {cs : List Value} (hi : nthO G i = some (.row v e sz m cs)) (k : ∀ A cp,v = .slice A m cp → m ≤ cp → cp ≤ 9223372036854775807 → GA P ops M I fuel listed (St c n env G Q)) : GA P ops M I fuel listed (St c n env G Q) := fun a w h => by
  obtain ⟨A,cp,h1,h2,h3⟩ := h.shape hi
  exact k A cp h1 h2 h3 a w h
theorem GA.know {q : Pers} (hq : ∀ w S,(∀ p ∈ Q,p.h w S) → q.h w S) (k : GA P ops M I fuel listed (St c n env G (q :: Q))) : GA P ops M I fuel listed (St c n env G Q) := GA.imp (fun a w h => h.know hq) k
theorem St.freezeC {α : Type} {enc : α → Value} {h1 : ∀ x,(enc x).oneCell' = true} {i b e : Nat} {xs : List α} (h : St c n env G Q a w) (ht : takeO G i = some (.cells b (xs.map enc) e,G')) : St c n env G' (Pers.row (Kd.sc enc h1) (some ⟨b,0,none⟩) xs :: Q) a w :=
  h.freeze (QN := [Pers.row (Kd.sc enc h1) (some ⟨b,0,none⟩) xs]) ht fun w S ho hS hq q hq' => by
    rw [List.mem_singleton.1 hq']
    have := blk_sub (h1 := h1) (l := 0) (h := xs.length) (S := S) ho (hS b (by simp [Own.keys]))
    rwa [seg_all] at this
theorem GL.freezeC {α : Type} {enc : α → Value} {h1 : ∀ x,(enc x).oneCell' = true} {i b e : Nat} {xs : List α} (ht : takeO G i = some (.cells b (xs.map enc) e,G')) (k : GL P ops R rest (St c n env G' (Pers.row (Kd.sc enc h1) (some ⟨b,0,none⟩) xs :: Q))) : GL P ops R rest (St c n env G Q) := GL.imp (fun a w h => h.freezeC ht) k
theorem GC.freezeC {α : Type} {enc : α → Value} {h1 : ∀ x,(enc x).oneCell' = true} {i b e : Nat} {xs : List α} (ht : takeO G i = some (.cells b (xs.map enc) e,G')) (k : GC P R cd (St c n env G' (Pers.row (Kd.sc enc h1) (some ⟨b,0,none⟩) xs :: Q))) : GC P R cd (St c n env G Q) := GC.imp (fun a w h => h.freezeC ht) k
theorem GA.freezeC {α : Type} {enc : α → Value} {h1 : ∀ x,(enc x).oneCell' = true} {i b e : Nat} {xs : List α} (ht : takeO G i = some (.cells b (xs.map enc) e,G')) (k : GA P ops M I fuel listed (St c n env G' (Pers.row (Kd.sc enc h1) (some ⟨b,0,none⟩) xs :: Q))) : GA P ops M I fuel listed (St c n env G Q) := GA.imp (fun a w h => h.freezeC ht) k
theorem GC.repsLen {α : Type} {kd : Kd α} {j : Nat} {xs : List α} {cs : List Value} (hj : nthO Q j = some (Pers.reps kd xs cs)) (k : cs.length = xs.length * kd.sz → GC P R cd (St c n env G Q)) : GC P R cd (St c n env G Q) := fun a w h => by
  obtain ⟨S,hp⟩ := h.per hj
  exact k (Reps.length hp) a w h
theorem GA.layE {α : Type} {kd : Kd α} {j : Nat} {m : Int} {xs : List α} {cs : List Value} {z : α} (sp : List Value) (hj : nthO Q j = some (Pers.reps kd xs cs)) (h0 : 0 ≤ m) (hz : xs[m.toNat]? = some z)
    (kk : ∀ r,kd.ok z r → (∀ q v,nth (kd.cells z r) q = some v → nth (cs ++ sp) (0 + m.toNat * kd.sz + q) = some v) → GA P ops M I fuel listed (St c n env G (kd.pers z r ++ Q))) : GA P ops M I fuel listed (St c n env G Q) := fun a w h => by
  obtain ⟨S,he,hh,hrel⟩ := h
  obtain ⟨c1,cc,c2,rfl,h1,⟨r,hok,rfl,hper⟩,_,_⟩ := reps_split (hh.per _ (nthO_mem hj)) hz
  refine kk r hok (fun q v hq => ?_) a w ⟨S,he,⟨hh.own,hh.nod,hh.out,fun q hq => ?_⟩,hrel⟩
  · rw [nth_eq] at hq ⊢
    have hlt := (List.getElem?_eq_some_iff.1 hq).1
    rw [List.append_assoc,Nat.zero_add,← h1,List.getElem?_append_right (by omega),Nat.add_sub_cancel_left,List.append_assoc,List.getElem?_append_left hlt]
    exact hq
  · rcases List.mem_append.1 hq with hq | hq
    · exact hper q hq
    · exact hh.per q hq
theorem nth_mapS {α : Type} [Inhabited α] (enc : α → Value) {xs : List α} {sp : List Value} {i : Int} (h0 : 0 ≤ i) (h : i < (xs.length : Int)) : nth (xs.map enc ++ sp) (0 + i.toNat * 1) = some (enc (gt xs i)) := nth_app (nth_map enc h0 h)
theorem upd_mapS {α : Type} (enc : α → Value) {xs : List α} {sp : List Value} {i : Int} {x : α} (h0 : 0 ≤ i) (h : i < (xs.length : Int)) : upd (xs.map enc ++ sp) (0 + i.toNat * 1) [enc x] = some ((xs.set i.toNat x).map enc ++ sp) := by
  rw [upd_elem (by simp; omega)]
  have := upd_map enc (xs := xs) (x := x) h0 h
  rw [upd_at _ _ _ (by simp; omega)] at this
  simp only [Option.some.injEq] at this
  rw [← this]
  simp [laid]
end
end Go.Sx
namespace Go.Sx
open Go
abbrev w32 (x : BitVec 32) : Value := .int .u32 (x.toNat : Int)
theorem wrap32 (x : BitVec 32) : IntKind.u32.wrap (x.toNat : Int) = (x.toNat : Int) := by
  have := x.isLt
  simp [IntKind.wrap,IntKind.bits,IntKind.signed]
  omega
theorem ofInt32 (x : BitVec 32) : BitVec.ofInt 32 (x.toNat : Int) = x := by
  apply BitVec.eq_of_toNat_eq
  have := x.isLt
  rw [BitVec.toNat_ofInt]
  omega
theorem xor32 (a b : BitVec 32) : IntKind.u32.wrap ((BitVec.ofInt IntKind.u32.bits (a.toNat : Int) ^^^ BitVec.ofInt IntKind.u32.bits (b.toNat : Int)).toNat : Int) = ((a ^^^ b).toNat : Int) := by
  show IntKind.u32.wrap ((BitVec.ofInt 32 (a.toNat : Int) ^^^ BitVec.ofInt 32 (b.toNat : Int)).toNat : Int) = _
  rw [ofInt32,ofInt32,wrap32]
theorem and32 (a b : BitVec 32) : IntKind.u32.wrap ((BitVec.ofInt IntKind.u32.bits (a.toNat : Int) &&& BitVec.ofInt IntKind.u32.bits (b.toNat : Int)).toNat : Int) = ((a &&& b).toNat : Int) := by
  show IntKind.u32.wrap ((BitVec.ofInt 32 (a.toNat : Int) &&& BitVec.ofInt 32 (b.toNat : Int)).toNat : Int) = _
  rw [ofInt32,ofInt32,wrap32]
theorem com32 (a : BitVec 32) : IntKind.u32.wrap ((BitVec.ofInt IntKind.u32.bits IntKind.u32.max ^^^ BitVec.ofInt IntKind.u32.bits (a.toNat : Int)).toNat : Int) = ((~~~ a).toNat : Int) := by
  show IntKind.u32.wrap ((BitVec.ofInt 32 IntKind.u32.max ^^^ BitVec.ofInt 32 (a.toNat : Int)).toNat : Int) = _
  rw [ofInt32,show BitVec.ofInt 32 IntKind.u32.max = BitVec.allOnes 32 by decide,BitVec.allOnes_xor,wrap32]
end Go.Sx
namespace Go.Sx
open Go
section
variable {P : Program} {c : Cx} {n : Nat} {env : List (Nat × Value)} {d : Nat} {ty : TypeId} {pos : String} {aft : Array Edge} {g : Option (Nat × Bool)} {x y : Operand} {t u : TypeId}
theorem p_xor32 {a b : BitVec 32} (hx : ev env x = some (w32 a)) (hy : ev env y = some (w32 b)) : Pv P n env ⟨some d,.binOp .xor t x y u,ty,pos,aft,g⟩ (w32 (a ^^^ b)) := by
  have := p_xor (P := P) (n := n) (d := d) (ty := ty) (pos := pos) (aft := aft) (g := g) (t := t) (u := u) hx hy
  rw [xor32] at this
  exact this
theorem p_and32 {a b : BitVec 32} (hx : ev env x = some (w32 a)) (hy : ev env y = some (w32 b)) : Pv P n env ⟨some d,.binOp .and t x y u,ty,pos,aft,g⟩ (w32 (a &&& b)) := by
  have := p_and (P := P) (n := n) (d := d) (ty := ty) (pos := pos) (aft := aft) (g := g) (t := t) (u := u) hx hy
  rw [and32] at this
  exact this
theorem p_shr32 {a : BitVec 32} {yk : IntKind} (k : Nat) (hk : k ≤ 32) (hx : ev env x = some (w32 a)) (hy : ev env y = some (.int yk (k : Int))) : Pv P n env ⟨some d,.binOp .shr t x y u,ty,pos,aft,g⟩ (w32 (a >>> k)) := by
  have := p_shr (P := P) (n := n) (d := d) (ty := ty) (pos := pos) (aft := aft) (g := g) (t := t) (u := u) hx hy (by omega)
  have e : (a.toNat : Int).fdiv (2 ^ (min ((k : Int)).toNat IntKind.u32.bits)) = ((a >>> k).toNat : Int) := by
    have h1 : min ((k : Int)).toNat IntKind.u32.bits = k := by show min k 32 = k; omega
    rw [h1,Int.fdiv_eq_ediv_of_nonneg _ (by exact Int.pow_nonneg (by decide)),BitVec.toNat_ushiftRight,Nat.shiftRight_eq_div_pow]
    simp
  rw [e] at this
  exact this
theorem p_com32 {a : BitVec 32} (hx : ev env x = some (w32 a)) : Pv P n env ⟨some d,.unOp .xor t x,ty,pos,aft,g⟩ (w32 (~~~ a)) := fun act w he => by
  have e := com32 a
  simp only [execOp,he.eval hx,Op.unary,Op.intBits,Sem.run_bind,Sem.run_pure,Result.andThen_ok]
  rw [if_neg (show ¬ IntKind.u32.signed = true by decide)]
  exact congrArg (fun z => Result.ok (Next.value (Value.int .u32 z)) w) e
theorem p_conv8 {b : UInt8} (ht : P.underlying t ≠ none) (hu : P.underlying u = some (.int .u32)) (hx : ev env x = some (.int .u8 (b.toNat : Int))) : Pv P n env ⟨some d,.convert t u x,ty,pos,aft,g⟩ (w32 (b.toBitVec.zeroExtend 32)) := by
  have := p_conv (P := P) (n := n) (d := d) (ty := ty) (pos := pos) (aft := aft) (g := g) (t := t) (u := u) ht hu hx
  have e : IntKind.u32.wrap (b.toNat : Int) = ((b.toBitVec.zeroExtend 32).toNat : Int) := by
    have hb := b.toNat_lt
    have h2 : (b.toBitVec.zeroExtend 32).toNat = b.toNat := by
      simp
    rw [← wrap32,h2]
  rw [e] at this
  exact this
theorem p_buildA {len sz : Nat} {e : TypeId} {ps : List (Nat × Operand)} {z l : List Value} {parts : List (Nat × Value)} (ht : P.underlying t = some (.array len e)) (hs : sizeB P e = some sz) (hz : zeroL P t = some z) (hp : evP env ps = some parts) (hf : fillF (fun i => some (i * sz,sz)) z parts = some l) :
    Pv P n env ⟨some d,.build t ps.toArray,ty,pos,aft,g⟩ (.agg l.toArray) := fun a w he => by
  have hpm : (ps.toArray.map fun (p : Nat × Operand) => (p.1,a.eval p.2)) = parts.toArray := by rw [List.map_toArray,he.evPs hp]
  obtain ⟨zv,hzv,hzz⟩ := Option.map_eq_some_iff.1 hz
  have hcells : zv.cells = z.toArray := by rw [← hzz,← vcells_eq]
  have hfill := fill_fillF (fun i => some (i * sz,sz)) parts z l hf
  simp only [execOp,hpm,Instr.build,Sem.run_bind,run_zeroB hzv,Result.andThen_ok,run_underlying ht,run_sizeB hs,hcells,hfill,Sem.run_pure]
theorem p_indexV {len sz : Nat} {e : TypeId} {k : IntKind} {m : Int} {l : List Value} {v : Value} (hx : ev env x = some (.agg l.toArray)) (hy : ev env y = some (.int k m)) (ht : P.underlying t = some (.array len e)) (hs : sizeB P e = some sz) (hg : aggB P e = some false) (h0 : 0 ≤ m) (h1 : m < len) (hv : nth l (m.toNat * sz) = some v) :
    Pv P n env ⟨some d,.index t x y,ty,pos,aft,g⟩ v := fun a w he => by
  simp only [execOp,he.eval hx,he.eval hy,Instr.index,asIntOf,Sem.run_bind,Sem.run_pure,Result.andThen_ok,run_underlying ht,if_pos (show 0 ≤ m ∧ m < (len : Int) from ⟨h0,h1⟩),run_sizeB hs,part_one hg hv]
end
end Go.Sx
namespace Go.Sx
open Go
def kept (env : List (Nat × Value)) : List Nat → Option (List (Nat × Value))
  | [] => some []
  | i :: is => match look env i,kept env is with
    | some v,some r => some ((i,v) :: r)
    | _,_ => none
theorem kept_sub {env : List (Nat × Value)} : ∀ {is : List Nat} {e : List (Nat × Value)},kept env is = some e → sub env e
  | [],e,h => by simp only [kept,Option.some.injEq] at h; subst h; trivial
  | i :: is,e,h => by
    simp only [kept] at h
    split at h
    · rename_i v r h1 h2
      simp only [Option.some.injEq] at h
      subst h
      exact ⟨h1,kept_sub h2⟩
    · cases h
theorem sub_app {env : List (Nat × Value)} : ∀ {a b : List (Nat × Value)},sub env a → sub env b → sub env (a ++ b)
  | [],b,_,h => h
  | (i,v) :: r,b,⟨h1,h2⟩,h => ⟨h1,sub_app h2 h⟩
end Go.Sx
namespace Go.Sx
open Go
section
variable {P : Program} {c : Cx} {n : Nat} {env env' envK E : List (Nat × Value)} {G G' Gr GK : List Own} {Q Q' QK : List Pers} {a : Act} {w : World}
theorem St.cutK {is js ks : List Nat} (h : St c n env G Q a w) (hs : Sx.sub env E) (hk : kept env ks = some envK) (hsel : sel G is = some (G',Gr)) (hq : pickQ Q js = some Q') : St c n (E ++ envK) G' Q' a w :=
  h.cut (sub_app hs (kept_sub hk)) hsel hq
theorem GC.regionC {R : Exit → Asr} {id m : Nat} {l : List Oper} {is js : List Nat} {GI : List Own} {QI : List Pers} (hm : P.follows .mixedOrders = true) (hsz : l.length = m) (hsel : sel G is = some (GI,Gr)) (hq : pickQ Q js = some QI) (h : GA P l.toArray (R .normal) (Mem c GI QI) m (Array.replicate m false) (St c n env G Q)) : GC P R (.region id l.toArray true) (St c n env G Q) :=
  GC.regionM hm hsz hsel hq h fun _ _ h => h
theorem GA.retL {ops : Array Oper} {M : Asr} {I : World → Prop} {fuel : Nat} {listed : Array Bool} {F : Value → List Own → List Pers → Prop} {Z : Value → List Own → Asr} (k : ∀ v G2,F v G2 [] → GA P ops M I fuel listed (Z v G2)) : GA P ops M I fuel listed (fun a w => ∃ v G2,F v G2 [] ∧ Z v G2 a w) := fun a w ⟨v,G2,hF,hZ⟩ => k v G2 hF a w hZ
theorem GC.layQ {α : Type} {kd : Kd α} {R : Exit → Asr} {cd : Code} {y : Operand} {j : Nat} {k : IntKind} {m : Int} {A : Option Addr} {xs : List α} {z : α} (hy : ev env y = some (.int k m)) (hj : nthO Q j = some (Pers.row kd A xs)) (h0 : 0 ≤ m) (hz : xs[m.toNat]? = some z)
    (kk : ∀ p r,A = some p → kd.ok z r → GC P R cd (St c n env G (Pers.at (p.add (m.toNat * kd.sz)) (kd.cells z r) :: (kd.pers z r ++ Q)))) : GC P R cd (St c n env G Q) :=
  GC.lay (x := .const (.slice A xs.length 0)) (y := y) rfl hy hj h0 hz kk
end
end Go.Sx
namespace Go.Sx
open Go
section
variable {P : Program} {c : Cx} {n : Nat} {env env' envK E : List (Nat × Value)} {G G' Gr GK : List Own} {Q Q' QK : List Pers} {a : Act} {w : World}
section
variable {ops : Array Oper} {M A B : Asr} {I : World → Prop} {fuel : Nat} {listed : Array Bool}
theorem GA.st (h : ∀ a w,St c n env G Q a w → St c n env' G' Q' a w) (k : GA P ops M I fuel listed (St c n env' G' Q')) : GA P ops M I fuel listed (St c n env G Q) := GA.imp h k
theorem GA.snoc {α : Type} {kd : Kd α} {xs : List α} {cs : List Value} {j : Nat} {js : List Nat} (z : α) (r : kd.Y) (hj : nthO Q j = some (Pers.reps kd xs cs)) (hq : pickQ Q js = some (kd.pers z r)) (hok : kd.ok z r)
    (k : GA P ops M I fuel listed (St c n env G (Pers.reps kd (xs ++ [z]) (cs ++ kd.cells z r) :: Q))) : GA P ops M I fuel listed (St c n env G Q) := GA.imp (fun a w h => h.snoc hj hq hok) k
theorem GA.freezeR {α : Type} {kd : Kd α} {i j e m cp : Nat} {A : Option Addr} {xs : List α} {cs : List Value} (ht : takeO G i = some (.row (.slice A m cp) e kd.sz m cs,G')) (hj : nthO Q j = some (Pers.reps kd xs cs)) (hp : 0 < kd.sz)
    (k : GA P ops M I fuel listed (St c n env G' (Pers.row kd A xs :: Q))) : GA P ops M I fuel listed (St c n env G Q) := GA.imp (fun a w h => h.freezeR ht hj hp) k
end
end
end Go.Sx
namespace Go.Sx
open Go
section
variable {P : Program} {c : Cx} {n : Nat} {env env' envK E : List (Nat × Value)} {G G' Gr GK : List Own} {Q Q' QK : List Pers} {a : Act} {w : World}
theorem GC.post {x : Code} {R R' : Exit → Asr} {A : Asr} (h : GC P R x A) (hr : ∀ e a w,R e a w → R' e a w) : GC P R' x A := fun a w ha => Code.wp_mono (fun e a w he => hr e a w he) (h a w ha)
theorem Exit.then_mono {M M' : Asr} {R : Exit → Asr} (h : ∀ a w,M a w → M' a w) : ∀ e a w,Exit.then M R e a w → Exit.then M' R e a w := by
  intro e a w he
  cases e <;> first | exact h a w he | exact he
end
end Go.Sx
namespace Go.Sx
open Go
section
variable {P : Program} {c : Cx} {n : Nat} {env env' envK E : List (Nat × Value)} {G G' Gr GK : List Own} {Q Q' QK : List Pers} {a : Act} {w : World}
section
variable {α β γ δ ε ζ η θ : Type} {x : Code} {R : Exit → Asr} {ks is js : List Nat}
theorem GC.loopK1 (φ : α → Prop) (F : α → List (Nat × Value)) (GF : α → List Own) (QF : α → List Pers) (μ : α → Nat) (y : α) (hK : kept env ks = some envK) (hG : pickQ G is = some GK) (hQ : pickQ Q js = some QK)
    (h0 : ∀ a w,St c n env G Q a w → φ y ∧ St c n (F y ++ envK) (GF y ++ GK) (QF y ++ QK) a w)
    (h : ∀ y,φ y → GC P (Exit.then (fun a w => ∃ z,μ z < μ y ∧ φ z ∧ St c n (F z ++ envK) (GF z ++ GK) (QF z ++ QK) a w) R) x (St c n (F y ++ envK) (GF y ++ GK) (QF y ++ QK))) : GC P R (.loop x) (St c n env G Q) :=
  GC.imp h0 (GC.loop (fun y a w => φ y ∧ St c n (F y ++ envK) (GF y ++ GK) (QF y ++ QK) a w) μ y fun y => GC.and fun hy => h y hy)
theorem GC.loopK2 (φ : α → β → Prop) (F : α → β → List (Nat × Value)) (GF : α → β → List Own) (QF : α → β → List Pers) (μ : α → β → Nat) (y1 : α) (y2 : β) (hK : kept env ks = some envK) (hG : pickQ G is = some GK) (hQ : pickQ Q js = some QK)
    (h0 : ∀ a w,St c n env G Q a w → φ y1 y2 ∧ St c n (F y1 y2 ++ envK) (GF y1 y2 ++ GK) (QF y1 y2 ++ QK) a w)
    (h : ∀ y1 y2,φ y1 y2 → GC P (Exit.then (fun a w => ∃ z1 z2,μ z1 z2 < μ y1 y2 ∧ φ z1 z2 ∧ St c n (F z1 z2 ++ envK) (GF z1 z2 ++ GK) (QF z1 z2 ++ QK) a w) R) x (St c n (F y1 y2 ++ envK) (GF y1 y2 ++ GK) (QF y1 y2 ++ QK))) : GC P R (.loop x) (St c n env G Q) :=
  GC.loopK1 (fun y : α × β => φ y.1 y.2) (fun y => F y.1 y.2) (fun y => GF y.1 y.2) (fun y => QF y.1 y.2) (fun y => μ y.1 y.2) (y1,y2) hK hG hQ h0 fun y hy => GC.post (h y.1 y.2 hy) (Exit.then_mono fun a w ⟨z1,z2,hz⟩ => ⟨(z1,z2),hz⟩)
theorem GC.loopK3 (φ : α → β → γ → Prop) (F : α → β → γ → List (Nat × Value)) (GF : α → β → γ → List Own) (QF : α → β → γ → List Pers) (μ : α → β → γ → Nat) (y1 : α) (y2 : β) (y3 : γ) (hK : kept env ks = some envK) (hG : pickQ G is = some GK) (hQ : pickQ Q js = some QK)
    (h0 : ∀ a w,St c n env G Q a w → φ y1 y2 y3 ∧ St c n (F y1 y2 y3 ++ envK) (GF y1 y2 y3 ++ GK) (QF y1 y2 y3 ++ QK) a w)
    (h : ∀ y1 y2 y3,φ y1 y2 y3 → GC P (Exit.then (fun a w => ∃ z1 z2 z3,μ z1 z2 z3 < μ y1 y2 y3 ∧ φ z1 z2 z3 ∧ St c n (F z1 z2 z3 ++ envK) (GF z1 z2 z3 ++ GK) (QF z1 z2 z3 ++ QK) a w) R) x (St c n (F y1 y2 y3 ++ envK) (GF y1 y2 y3 ++ GK) (QF y1 y2 y3 ++ QK))) : GC P R (.loop x) (St c n env G Q) :=
  GC.loopK2 (fun (y : α × β) z => φ y.1 y.2 z) (fun y => F y.1 y.2) (fun y => GF y.1 y.2) (fun y => QF y.1 y.2) (fun y => μ y.1 y.2) (y1,y2) y3 hK hG hQ h0 fun y y3 hy => GC.post (h y.1 y.2 y3 hy) (Exit.then_mono fun a w ⟨z1,z2,z3,hz⟩ => ⟨(z1,z2),z3,hz⟩)
theorem GC.loopK4 (φ : α → β → γ → δ → Prop) (F : α → β → γ → δ → List (Nat × Value)) (GF : α → β → γ → δ → List Own) (QF : α → β → γ → δ → List Pers) (μ : α → β → γ → δ → Nat) (y1 : α) (y2 : β) (y3 : γ) (y4 : δ) (hK : kept env ks = some envK) (hG : pickQ G is = some GK) (hQ : pickQ Q js = some QK)
    (h0 : ∀ a w,St c n env G Q a w → φ y1 y2 y3 y4 ∧ St c n (F y1 y2 y3 y4 ++ envK) (GF y1 y2 y3 y4 ++ GK) (QF y1 y2 y3 y4 ++ QK) a w)
    (h : ∀ y1 y2 y3 y4,φ y1 y2 y3 y4 → GC P (Exit.then (fun a w => ∃ z1 z2 z3 z4,μ z1 z2 z3 z4 < μ y1 y2 y3 y4 ∧ φ z1 z2 z3 z4 ∧ St c n (F z1 z2 z3 z4 ++ envK) (GF z1 z2 z3 z4 ++ GK) (QF z1 z2 z3 z4 ++ QK) a w) R) x (St c n (F y1 y2 y3 y4 ++ envK) (GF y1 y2 y3 y4 ++ GK) (QF y1 y2 y3 y4 ++ QK))) : GC P R (.loop x) (St c n env G Q) :=
  GC.loopK3 (fun (y : α × β) z => φ y.1 y.2 z) (fun y => F y.1 y.2) (fun y => GF y.1 y.2) (fun y => QF y.1 y.2) (fun y => μ y.1 y.2) (y1,y2) y3 y4 hK hG hQ h0 fun y y3 y4 hy => GC.post (h y.1 y.2 y3 y4 hy) (Exit.then_mono fun a w ⟨z1,z2,z3,z4,hz⟩ => ⟨(z1,z2),z3,z4,hz⟩)
theorem GC.loopK5 (φ : α → β → γ → δ → ε → Prop) (F : α → β → γ → δ → ε → List (Nat × Value)) (GF : α → β → γ → δ → ε → List Own) (QF : α → β → γ → δ → ε → List Pers) (μ : α → β → γ → δ → ε → Nat) (y1 : α) (y2 : β) (y3 : γ) (y4 : δ) (y5 : ε) (hK : kept env ks = some envK) (hG : pickQ G is = some GK) (hQ : pickQ Q js = some QK)
    (h0 : ∀ a w,St c n env G Q a w → φ y1 y2 y3 y4 y5 ∧ St c n (F y1 y2 y3 y4 y5 ++ envK) (GF y1 y2 y3 y4 y5 ++ GK) (QF y1 y2 y3 y4 y5 ++ QK) a w)
    (h : ∀ y1 y2 y3 y4 y5,φ y1 y2 y3 y4 y5 → GC P (Exit.then (fun a w => ∃ z1 z2 z3 z4 z5,μ z1 z2 z3 z4 z5 < μ y1 y2 y3 y4 y5 ∧ φ z1 z2 z3 z4 z5 ∧ St c n (F z1 z2 z3 z4 z5 ++ envK) (GF z1 z2 z3 z4 z5 ++ GK) (QF z1 z2 z3 z4 z5 ++ QK) a w) R) x (St c n (F y1 y2 y3 y4 y5 ++ envK) (GF y1 y2 y3 y4 y5 ++ GK) (QF y1 y2 y3 y4 y5 ++ QK))) : GC P R (.loop x) (St c n env G Q) :=
  GC.loopK4 (fun (y : α × β) z => φ y.1 y.2 z) (fun y => F y.1 y.2) (fun y => GF y.1 y.2) (fun y => QF y.1 y.2) (fun y => μ y.1 y.2) (y1,y2) y3 y4 y5 hK hG hQ h0 fun y y3 y4 y5 hy => GC.post (h y.1 y.2 y3 y4 y5 hy) (Exit.then_mono fun a w ⟨z1,z2,z3,z4,z5,hz⟩ => ⟨(z1,z2),z3,z4,z5,hz⟩)
theorem GC.loopK6 (φ : α → β → γ → δ → ε → ζ → Prop) (F : α → β → γ → δ → ε → ζ → List (Nat × Value)) (GF : α → β → γ → δ → ε → ζ → List Own) (QF : α → β → γ → δ → ε → ζ → List Pers) (μ : α → β → γ → δ → ε → ζ → Nat) (y1 : α) (y2 : β) (y3 : γ) (y4 : δ) (y5 : ε) (y6 : ζ) (hK : kept env ks = some envK) (hG : pickQ G is = some GK) (hQ : pickQ Q js = some QK)
    (h0 : ∀ a w,St c n env G Q a w → φ y1 y2 y3 y4 y5 y6 ∧ St c n (F y1 y2 y3 y4 y5 y6 ++ envK) (GF y1 y2 y3 y4 y5 y6 ++ GK) (QF y1 y2 y3 y4 y5 y6 ++ QK) a w)
    (h : ∀ y1 y2 y3 y4 y5 y6,φ y1 y2 y3 y4 y5 y6 → GC P (Exit.then (fun a w => ∃ z1 z2 z3 z4 z5 z6,μ z1 z2 z3 z4 z5 z6 < μ y1 y2 y3 y4 y5 y6 ∧ φ z1 z2 z3 z4 z5 z6 ∧ St c n (F z1 z2 z3 z4 z5 z6 ++ envK) (GF z1 z2 z3 z4 z5 z6 ++ GK) (QF z1 z2 z3 z4 z5 z6 ++ QK) a w) R) x (St c n (F y1 y2 y3 y4 y5 y6 ++ envK) (GF y1 y2 y3 y4 y5 y6 ++ GK) (QF y1 y2 y3 y4 y5 y6 ++ QK))) : GC P R (.loop x) (St c n env G Q) :=
  GC.loopK5 (fun (y : α × β) => φ y.1 y.2) (fun y => F y.1 y.2) (fun y => GF y.1 y.2) (fun y => QF y.1 y.2) (fun y => μ y.1 y.2) (y1,y2) y3 y4 y5 y6 hK hG hQ h0 fun y y3 y4 y5 y6 hy => GC.post (h y.1 y.2 y3 y4 y5 y6 hy) (Exit.then_mono fun a w ⟨z1,z2,z3,z4,z5,z6,hz⟩ => ⟨(z1,z2),z3,z4,z5,z6,hz⟩)
theorem GC.loopK7 (φ : α → β → γ → δ → ε → ζ → η → Prop) (F : α → β → γ → δ → ε → ζ → η → List (Nat × Value)) (GF : α → β → γ → δ → ε → ζ → η → List Own) (QF : α → β → γ → δ → ε → ζ → η → List Pers) (μ : α → β → γ → δ → ε → ζ → η → Nat) (y1 : α) (y2 : β) (y3 : γ) (y4 : δ) (y5 : ε) (y6 : ζ) (y7 : η) (hK : kept env ks = some envK) (hG : pickQ G is = some GK) (hQ : pickQ Q js = some QK)
    (h0 : ∀ a w,St c n env G Q a w → φ y1 y2 y3 y4 y5 y6 y7 ∧ St c n (F y1 y2 y3 y4 y5 y6 y7 ++ envK) (GF y1 y2 y3 y4 y5 y6 y7 ++ GK) (QF y1 y2 y3 y4 y5 y6 y7 ++ QK) a w)
    (h : ∀ y1 y2 y3 y4 y5 y6 y7,φ y1 y2 y3 y4 y5 y6 y7 → GC P (Exit.then (fun a w => ∃ z1 z2 z3 z4 z5 z6 z7,μ z1 z2 z3 z4 z5 z6 z7 < μ y1 y2 y3 y4 y5 y6 y7 ∧ φ z1 z2 z3 z4 z5 z6 z7 ∧ St c n (F z1 z2 z3 z4 z5 z6 z7 ++ envK) (GF z1 z2 z3 z4 z5 z6 z7 ++ GK) (QF z1 z2 z3 z4 z5 z6 z7 ++ QK) a w) R) x (St c n (F y1 y2 y3 y4 y5 y6 y7 ++ envK) (GF y1 y2 y3 y4 y5 y6 y7 ++ GK) (QF y1 y2 y3 y4 y5 y6 y7 ++ QK))) : GC P R (.loop x) (St c n env G Q) :=
  GC.loopK6 (fun (y : α × β) => φ y.1 y.2) (fun y => F y.1 y.2) (fun y => GF y.1 y.2) (fun y => QF y.1 y.2) (fun y => μ y.1 y.2) (y1,y2) y3 y4 y5 y6 y7 hK hG hQ h0 fun y y3 y4 y5 y6 y7 hy => GC.post (h y.1 y.2 y3 y4 y5 y6 y7 hy) (Exit.then_mono fun a w ⟨z1,z2,z3,z4,z5,z6,z7,hz⟩ => ⟨(z1,z2),z3,z4,z5,z6,z7,hz⟩)
end
end
end Go.Sx
namespace Go.Sx
open Go
def rem {α : Type} (T : List (Int × α)) (es : List MapEntry) (seen : Array Nat) : List (Int × α) := ((T.zip es).filter fun p => !seen.contains p.2.born).map (·.1)
def PanOf (E : Value → Prop) (L : List Nat) (w w' : World) (e : Ending) : Prop := ∃ v,e = .panicked [{ v := v,recovered := false }] ∧ E v ∧ Fr L w w'
def CtP (P : Program) (f : FuncId) (args : List Value) (G : List Own) (Q : List Pers) (R : Value → List Own → List Pers → Prop) (E : Value → Prop) : Prop :=
  ∀ w S,Heap S G Q w → Calls P f args.toArray w fun e w' => (∃ v G' Q' S',e = .returned v ∧ R v G' Q' ∧ Heap S' G' Q' w' ∧ Fr (keysOf G) w w' ∧
    (∀ k,k < w.heap.size → k ∉ keysOf G → (S' k ↔ S k)) ∧ (∀ k ∈ keysOf G',k ∈ keysOf G ∨ w.heap.size ≤ k)) ∨ PanOf E (keysOf G) w w' e
theorem CtP.mono {P : Program} {f : FuncId} {args : List Value} {G : List Own} {Q : List Pers} {R R' : Value → List Own → List Pers → Prop} {E E' : Value → Prop} (h : CtP P f args G Q R E) (hr : ∀ v G' Q',R v G' Q' → R' v G' Q') (he : ∀ v,E v → E' v) : CtP P f args G Q R' E' :=
  fun w S hh => (h w S hh).mono fun e w' h => h.imp (fun ⟨v,G',Q',S',h1,h2,h3⟩ => ⟨v,G',Q',S',h1,hr _ _ _ h2,h3⟩) (fun ⟨v,h1,h2,h3⟩ => ⟨v,h1,he _ h2,h3⟩)
end Go.Sx
namespace Go.Sx
open Go
section
variable {P : Program} {c : Cx} {n : Nat} {env env' : List (Nat × Value)} {G G' Gr : List Own} {Q Q' : List Pers} {d : Nat} {ty : TypeId} {pos : String} {aft : Array Edge} {g : Option (Nat × Bool)} {x y : Operand} {t : TypeId} {a a' : Act} {w w' : World}
def FinP (P : Program) (fn : Func) (c : Cx) (R : Value → List Own → List Pers → Prop) (E : Value → Prop) : Exit → Asr := fun e a w => c.D = [] → bodyPost P fn (fun e w' => retOf c R e w' ∨ PanOf E c.L0 c.w0 w' e) e a w
theorem CtP.intro {f : FuncId} {fn : Func} {code : Code} {args : List Value} {R : Value → List Own → List Pers → Prop} {E : Value → Prop} (hf : P.funcs[f]? = some fn) (hb : fn.body = some code) (hn : fn.ntmps = n) (hl : Nat.ble args.length n = true)
    (h : ∀ c : Cx,c.L0 = keysOf G → GC P (FinP P fn c R E) code (St c n (enum 0 args) G Q)) : CtP P f args G Q R E := by
  intro w S hh
  refine calls_of_wp hf hb ?_
  have hl := Nat.le_of_ble_eq_true hl
  let c : Cx := ⟨w,S,keysOf G,[]⟩
  refine Code.wp_mono ?_ (h c rfl _ w ⟨S,?_,hh,?_⟩)
  · intro e a w' he
    exact he rfl
  · refine ⟨⟨by simp [hn]; omega,fun i v hi => ?_⟩,rfl⟩
    obtain ⟨k,rfl,hk⟩ := look_enum args 0 i v hi
    rw [Nat.zero_add]
    have hlt : k < args.length := (List.getElem?_eq_some_iff.1 hk).1
    simp only [List.size_toArray]
    rw [Array.getElem?_append_left (by simpa using hlt)]
    simpa using hk
  · exact ⟨Fr.refl _ _,fun _ _ _ => Iff.rfl,fun k hk => .inl hk⟩
theorem FinP.of {fn : Func} {R : Value → List Own → List Pers → Prop} {E : Value → Prop} (h : Fin P fn c R .ret a w) : FinP P fn c R E .ret a w := fun hD =>
  let ⟨h1,v,h2,h3⟩ := h hD
  ⟨h1,v,h2,.inl h3⟩
theorem FinP.back {fn : Func} {rs : List ResultVar} {vs : List Value} {is js : List Nat} {R : Value → List Own → List Pers → Prop} {E : Value → Prop} (hr : fn.results = rs.toArray) (hv : resV P env G rs vs) (hsel : sel G is = some (G',Gr)) (hq : pickQ Q js = some Q') (hR : R (tupV vs) G' Q') (h : St c n env G Q a w) : FinP P fn c R E .ret a w :=
  FinP.of (Fin.back hr hv hsel hq hR h)
theorem FinP.back0 {fn : Func} {is js : List Nat} {R : Value → List Own → List Pers → Prop} {E : Value → Prop} (hr : fn.results = #[]) (hsel : sel G is = some (G',Gr)) (hq : pickQ Q js = some Q') (hR : R (.tuple #[]) G' Q') (h : St c n env G Q a w) : FinP P fn c R E .normal a w :=
  FinP.of (Fin.back (rs := []) (vs := []) (by rw [hr]) trivial hsel hq hR h)
theorem FinP.panic {fn : Func} {R : Value → List Own → List Pers → Prop} {E : Value → Prop} {v : Value} (he : E v) (h : St c n env G Q a w) : FinP P fn c R E (.panic [{ v := v,recovered := false }]) a w := fun hD => by
  obtain ⟨S,hen,hh,hrel⟩ := h
  exact ⟨hen.defers.trans hD,.inr ⟨v,rfl,he,hrel.fr⟩⟩
theorem St.lost {S : Blocks} {G1 : List Own} (he : EnvD c.D n env a) (hh : Heap S (G1 ++ Gr) Q w) (hrel : Rel c S (G1 ++ Gr) w) (hf : Fr (keysOf G1) w w') : St c n env Gr Q a w' := by
  have h2 : Heap S [] [] w' := ⟨fun o ho => (by cases ho),List.nodup_nil,fun k hk => (by cases hk),fun q hq => (by cases hq)⟩
  exact St.called (Gr := Gr) (G2 := []) (Q2 := []) hh hrel h2 hf (fun _ _ _ => Iff.rfl) (fun k hk => by cases hk) he
theorem GL.callP {ops : Array Oper} {X : Exit → Asr} {rest : List Oper} {f : FuncId} {xs : List Operand} {vs : List Value} {ts : Array TypeId} {is js : List Nat} {G1 : List Own} {Q1 : List Pers} {R : Value → List Own → List Pers → Prop} {E : Value → Prop} (hd : Nat.blt d n = true) (hf : Ent P f) (hx : evs env xs = some vs)
    (hsel : sel G is = some (G1,Gr)) (hq : pickQ Q js = some Q1) (h : CtP P f vs G1 Q1 R E) (hp : ∀ v a w,E v → St c n env Gr Q a w → X (.panic [{ v := v,recovered := false }]) a w)
    (k : GL P ops X rest (fun a w => ∃ v G2 Q2,R v G2 Q2 ∧ St c n ((d,v) :: env) (G2 ++ Gr) (Q2 ++ Q) a w)) :
    GL P ops X (⟨some d,.call { callee := .value (.func f),args := xs.toArray,argTypes := ts },ty,pos,aft,none⟩ :: rest) (St c n env G Q) := by
  rintro a w ⟨S,he,hh,hrel⟩
  refine wpList_plain rfl fun K hK => ?_
  have hp' := sel_perm hsel
  have hh1 := hh.perm hp'
  have hrel1 := hrel.perm hp'
  have hin : Heap S G1 Q1 w := hh1.sub (List.sublist_append_left _ _) (pickQ_mem hq)
  unfold Oper.wp
  rw [run_call hf hx a w he.toEnv]
  rw [Oper.upon_enter]
  refine (h w S hin).mono ?_
  rintro e w' (⟨v,G2,Q2,S',rfl,hR,h',hfr,hS,hkk⟩ | ⟨v,rfl,hE,hfr⟩)
  · exact hK _ _ (k _ _ ⟨v,G2,Q2,hR,St.called hh1 hrel1 h' hfr hS hkk (he.put hd v)⟩)
  · exact hp v a w' hE (St.lost he hh1 hrel1 hfr)
theorem p_mkIface {v : Value} {ut : TypeDesc} (hu : P.underlying t = some ut) (hn : ∀ m,ut ≠ .interface m) (hx : ev env x = some v) : Pv P n env ⟨some d,.makeInterface t x,ty,pos,aft,g⟩ (.iface t v) := fun a w he => by
  simp only [execOp,he.eval hx,Instr.makeInterface,Sem.run_bind,run_underlying hu,Result.andThen_ok]
  cases ut <;> first | rfl | exact absurd rfl (hn _)
theorem GL.panic {ops : Array Oper} {X : Exit → Asr} {rest : List Oper} {k : TypeId} {u : Value} (hx : ev env x = some (.iface k u)) (hp : ∀ a w,St c n env G Q a w → X (.panic [{ v := .iface k u,recovered := false }]) a w) :
    GL P ops X (⟨some d,.panic x,ty,pos,aft,none⟩ :: rest) (St c n env G Q) := by
  intro a w h
  refine wpList_plain rfl fun K hK => ?_
  unfold Oper.wp
  have : (execOp a.eval ⟨some d,.panic x,ty,pos,aft,none⟩).run P w = .halt (.panic (.iface k u)) w := by
    simp only [execOp,h.en.eval hx]; rfl
  rw [this]
  exact hp a w h
end
end Go.Sx
namespace Go.Sx
open Go
section
variable {P : Program} {c : Cx} {n : Nat} {env env' : List (Nat × Value)} {G G' Gr : List Own} {Q Q' : List Pers} {d : Nat} {ty : TypeId} {pos : String} {aft : Array Edge} {x y : Operand} {a a' : Act} {w w' : World}
abbrev Cx.def_ (c : Cx) (f : FuncId) (us : List Value) : Cx := ⟨c.w0,c.S0,c.L0,[⟨.fn (.func f) us.toArray,#[]⟩]⟩
def FinD (P : Program) (fn : Func) (c : Cx) (R : Value → List Own → List Pers → Prop) : Exit → Asr := bodyPostD P fn (retOf c R)
theorem Ct.introD {f : FuncId} {fn : Func} {code : Code} {args : List Value} {R : Value → List Own → List Pers → Prop} (hf : P.funcs[f]? = some fn) (hb : fn.body = some code) (hn : fn.ntmps = n) (hl : Nat.ble args.length n = true)
    (h : ∀ c : Cx,c.L0 = keysOf G → c.D = [] → GC P (FinD P fn c R) code (St c n (enum 0 args) G Q)) : Ct P f args G Q R := by
  intro w S hh
  refine calls_of_wp_defers hf hb ?_
  have hl := Nat.le_of_ble_eq_true hl
  let c : Cx := ⟨w,S,keysOf G,[]⟩
  refine Code.wp_mono ?_ (h c rfl rfl _ w ⟨S,?_,hh,?_⟩)
  · intro e a w' he
    exact he
  · refine ⟨⟨by simp [hn]; omega,fun i v hi => ?_⟩,rfl⟩
    obtain ⟨k,rfl,hk⟩ := look_enum args 0 i v hi
    rw [Nat.zero_add]
    have hlt : k < args.length := (List.getElem?_eq_some_iff.1 hk).1
    simp only [List.size_toArray]
    rw [Array.getElem?_append_left (by simpa using hlt)]
    simpa using hk
  · exact ⟨Fr.refl _ _,fun _ _ _ => Iff.rfl,fun k hk => .inl hk⟩
theorem FinD.of {fn : Func} {R : Value → List Own → List Pers → Prop} (hD : c.D = []) (h : Fin P fn c R .ret a w) : FinD P fn c R .ret a w := by
  obtain ⟨h1,h2⟩ := h hD
  show Leaves P fn a.tmps (retOf c R) a.defers .returning w
  rw [h1]
  exact h2
theorem FinD.back (hD : c.D = []) {fn : Func} {rs : List ResultVar} {vs : List Value} {is js : List Nat} {R : Value → List Own → List Pers → Prop} (hr : fn.results = rs.toArray) (hv : resV P env G rs vs) (hsel : sel G is = some (G',Gr)) (hq : pickQ Q js = some Q') (hR : R (tupV vs) G' Q') (h : St c n env G Q a w) : FinD P fn c R .ret a w :=
  FinD.of hD (Fin.back hr hv hsel hq hR h)
theorem GL.defer {ops : Array Oper} {X : Exit → Asr} {rest : List Oper} {f : FuncId} {us : List Value} {ts : Array TypeId} (hD : c.D = []) (hx : ev env x = some (.func (.func f) #[] us.toArray))
    (k : GL P ops X rest (St (c.def_ f us) n env G Q)) : GL P ops X (⟨none,.defer { callee := .value x,args := #[],argTypes := ts },ty,pos,aft,none⟩ :: rest) (St c n env G Q) := by
  intro a w h
  refine wpList_plain rfl fun K hK => ?_
  unfold Oper.wp
  obtain ⟨S,he,hh,hrel⟩ := h
  have hrun : (execOp a.eval ⟨none,.defer { callee := .value x,args := #[],argTypes := ts },ty,pos,aft,none⟩).run P w = .ok (.defer ⟨.fn (.func f) us.toArray,#[]⟩) w := by
    simp [execOp,resolve,he.eval hx,Deferred.ofValue]
  rw [hrun,Oper.upon_defer]
  refine hK _ _ (k _ w ⟨S,⟨⟨he.size,he.has⟩,?_⟩,hh,⟨hrel.fr,hrel.old,hrel.key⟩⟩)
  show _ :: a.defers = _
  rw [he.defers,hD]
theorem FinD.back1 {f : FuncId} {us : List Value} (hf : Ent P f) (hi : ∀ w,CallsD P f us.toArray .returning w fun e u' w' => e = .returned (.tuple #[]) ∧ u' = .returning ∧ w' = w) {fn : Func} {rs : List ResultVar} {vs : List Value} {is js : List Nat} {R : Value → List Own → List Pers → Prop} (hr : fn.results = rs.toArray) (hv : resV P env G rs vs) (hsel : sel G is = some (G',Gr)) (hq : pickQ Q js = some Q') (hR : R (tupV vs) G' Q') (h : St (c.def_ f us) n env G Q a w) : FinD P fn c R .ret a w := by
  obtain ⟨S,he,hh,hrel⟩ := h
  have h0 : St ⟨c.w0,c.S0,c.L0,[]⟩ n env G Q { a with defers := [] } w := ⟨S,⟨⟨he.size,he.has⟩,rfl⟩,hh,⟨hrel.fr,hrel.old,hrel.key⟩⟩
  obtain ⟨_,v,hrun,hret⟩ := Fin.back hr hv hsel hq hR h0 rfl
  show Leaves P fn a.tmps (retOf c R) a.defers .returning w
  have hd : a.defers = [⟨.fn (.func f) us.toArray,#[]⟩] := he.defers
  rw [hd]
  refine ⟨by simp,.func f,us.toArray,f,us.toArray,rfl,?_,?_⟩
  · have := hf us.toArray w
    simp only [invoke,Array.empty_append,this]
  · refine (hi w).mono ?_
    rintro e u' w' ⟨rfl,rfl,rfl⟩
    exact ⟨v,hrun,hret⟩
end
end Go.Sx
namespace Go.Sx
open Go
section
variable {P : Program} {c : Cx} {n : Nat} {env : List (Nat × Value)} {G G' : List Own} {Q : List Pers} {R : Exit → Asr} {cd : Code} {ops : Array Oper} {rest : List Oper} {a : Act} {w : World}
theorem St.rowIs {i m m' e sz : Nat} {v : Value} {cs cs' : List Value} (h : St c n env G Q a w) (hi : nthO G i = some (.row v e sz m cs)) (hm : m = m') (hc : cs = cs') (hr : repl G i (.row v e sz m' cs') = some G') : St c n env G' Q a w :=
  h.recast hi hr rfl (fun w h => by subst hm hc; exact h)
theorem GL.rowIs {i m m' e sz : Nat} {v : Value} {cs cs' : List Value} (hi : nthO G i = some (.row v e sz m cs)) (hm : m = m') (hc : cs = cs') (hr : repl G i (.row v e sz m' cs') = some G') (k : GL P ops R rest (St c n env G' Q)) : GL P ops R rest (St c n env G Q) := GL.imp (fun a w h => h.rowIs hi hm hc hr) k
theorem GC.rowIs {i m m' e sz : Nat} {v : Value} {cs cs' : List Value} (hi : nthO G i = some (.row v e sz m cs)) (hm : m = m') (hc : cs = cs') (hr : repl G i (.row v e sz m' cs') = some G') (k : GC P R cd (St c n env G' Q)) : GC P R cd (St c n env G Q) := GC.imp (fun a w h => h.rowIs hi hm hc hr) k
theorem GA.rowIs {M : Asr} {I : World → Prop} {fuel : Nat} {listed : Array Bool} {i m m' e sz : Nat} {v : Value} {cs cs' : List Value} (hi : nthO G i = some (.row v e sz m cs)) (hm : m = m') (hc : cs = cs') (hr : repl G i (.row v e sz m' cs') = some G') (k : GA P ops M I fuel listed (St c n env G' Q)) : GA P ops M I fuel listed (St c n env G Q) := GA.st (fun a w h => h.rowIs hi hm hc hr) k
end
end Go.Sx
namespace Go.Sx
open Go
section
variable {P : Program} {c : Cx} {n : Nat} {env : List (Nat × Value)} {G G' : List Own} {Q : List Pers} {d : Nat} {ty : TypeId} {pos : String} {aft : Array Edge} {g : Option (Nat × Bool)} {x y : Operand} {t u : TypeId}
theorem xor8 (a b : UInt8) : IntKind.u8.wrap ((BitVec.ofInt IntKind.u8.bits (a.toNat : Int) ^^^ BitVec.ofInt IntKind.u8.bits (b.toNat : Int)).toNat : Int) = ((a ^^^ b).toNat : Int) := by
  have e : ∀ x : UInt8,BitVec.ofInt 8 (x.toNat : Int) = x.toBitVec := fun x => by
    apply BitVec.eq_of_toNat_eq
    have := x.toNat_lt
    rw [BitVec.toNat_ofInt]
    show _ = x.toNat
    omega
  show IntKind.u8.wrap ((BitVec.ofInt 8 (a.toNat : Int) ^^^ BitVec.ofInt 8 (b.toNat : Int)).toNat : Int) = _
  rw [e,e,← UInt8.toBitVec_xor]
  have := (a ^^^ b).toNat_lt
  show IntKind.u8.wrap ((a ^^^ b).toNat : Int) = _
  generalize (a ^^^ b).toNat = q at this ⊢
  simp only [IntKind.wrap,IntKind.bits,IntKind.signed]
  simp
  omega
theorem p_xor8 {a b : UInt8} (hx : ev env x = some (.int .u8 (a.toNat : Int))) (hy : ev env y = some (.int .u8 (b.toNat : Int))) : Pv P n env ⟨some d,.binOp .xor t x y u,ty,pos,aft,g⟩ (.int .u8 ((a ^^^ b).toNat : Int)) := by
  have := p_xor (P := P) (n := n) (d := d) (ty := ty) (pos := pos) (aft := aft) (g := g) (t := t) (u := u) hx hy
  rw [xor8] at this
  exact this
end
end Go.Sx
namespace Go.Sx
open Go
theorem ownsRow_cells {w : World} {A : Option Addr} {n cp e sz : Nat} {cs : List Value} (h : (Own.row (.slice A n cp) e sz n cs).holds w) (hn : n ≠ 0) : ∃ b sp,A = some ⟨b,0,none⟩ ∧ (cs ++ sp).length = cp * sz ∧ n ≤ cp ∧ cp ≤ 9223372036854775807 ∧ (Own.cells b (cs ++ sp) e).holds w := by
  obtain ⟨hl,h⟩ := h
  rcases h with ⟨_,h0⟩ | ⟨b,cap,cur,hv,_,hb,h1,h2,h3,h4⟩
  · exact absurd h0 hn
  · cases hv
    refine ⟨b,cur.toList.drop (n * sz),rfl,?_,h1,by simpa [maxLen] using h2,?_⟩
    · rw [← h4,List.take_append_drop]; simpa using h3
    · show w.heap[b]? = _
      rw [hb,← h4,List.take_append_drop]
end Go.Sx
namespace Go.Sx
open Go
section
variable {P : Program} {c : Cx} {n : Nat} {env : List (Nat × Value)} {G G' : List Own} {Q : List Pers} {R : Exit → Asr} {cd : Code} {ops : Array Oper} {rest : List Oper} {a : Act} {w : World}
theorem St.recastW {i : Nat} {o o' : Own} (h : St c n env G Q a w) (hi : nthO G i = some o) (hr : repl G i o' = some G') (hk : o'.keys = o.keys) (ho : o.holds w → o'.holds w) : St c n env G' Q a w := by
  obtain ⟨S,he,hh,hrel⟩ := h
  have hn : o'.keys.Nodup := by
    rw [hk]
    obtain ⟨x,y,rfl,_⟩ := repl_split hi hr
    have := hh.nod
    simp only [keysOf,List.flatMap_append,List.flatMap_cons,List.nodup_append] at this
    exact this.2.1.1
  exact St.write ⟨S,he,hh,hrel⟩ hi hr (Fr.refl _ _) (ho (hh.own o (nthO_mem hi))) (fun k hkk => .inl (hk ▸ hkk)) hn he
theorem GL.unrow {i m cp e sz : Nat} {A : Option Addr} {cs : List Value} {F : Nat → List Value → List Own} (hi : nthO G i = some (.row (.slice A m cp) e sz m cs)) (hm : m ≠ 0) (hr : ∀ b sp,repl G i (.cells b (cs ++ sp) e) = some (F b sp))
    (k : ∀ b sp,A = some ⟨b,0,none⟩ → (cs ++ sp).length = cp * sz → m ≤ cp → cp ≤ 9223372036854775807 → GL P ops R rest (St c n env (F b sp) Q)) : GL P ops R rest (St c n env G Q) := fun a w h => by
  obtain ⟨b,sp,hA,g1,g2,g3,g4⟩ := ownsRow_cells (h.own hi) hm
  exact k b sp hA g1 g2 g3 a w (h.recastW hi (hr b sp) (by rw [hA]; rfl) (fun _ => g4))
theorem GC.unrow {i m cp e sz : Nat} {A : Option Addr} {cs : List Value} {F : Nat → List Value → List Own} (hi : nthO G i = some (.row (.slice A m cp) e sz m cs)) (hm : m ≠ 0) (hr : ∀ b sp,repl G i (.cells b (cs ++ sp) e) = some (F b sp))
    (k : ∀ b sp,A = some ⟨b,0,none⟩ → (cs ++ sp).length = cp * sz → m ≤ cp → cp ≤ 9223372036854775807 → GC P R cd (St c n env (F b sp) Q)) : GC P R cd (St c n env G Q) := fun a w h => by
  obtain ⟨b,sp,hA,g1,g2,g3,g4⟩ := ownsRow_cells (h.own hi) hm
  exact k b sp hA g1 g2 g3 a w (h.recastW hi (hr b sp) (by rw [hA]; rfl) (fun _ => g4))
theorem St.freezeI {i e m cp : Nat} {A : Option Addr} {xs : List Int} (h : St c n env G Q a w) (ht : takeO G i = some (.row (.slice A m cp) e 1 m (xs.map (Value.int .i64)),G')) : St c n env G' (Pers.row (Kd.int .i64) A xs :: Q) a w :=
  h.freeze (QN := [Pers.row (Kd.int .i64) A xs]) ht fun w S ho hS hq q hq' => by
    rw [List.mem_singleton.1 hq']
    exact row_pers (kd := Kd.int .i64) ho hS (scalar_reps xs) (by decide)
theorem GL.freezeI {i e m cp : Nat} {A : Option Addr} {xs : List Int} (ht : takeO G i = some (.row (.slice A m cp) e 1 m (xs.map (Value.int .i64)),G')) (k : GL P ops R rest (St c n env G' (Pers.row (Kd.int .i64) A xs :: Q))) : GL P ops R rest (St c n env G Q) := GL.imp (fun a w h => h.freezeI ht) k
theorem GC.freezeI {i e m cp : Nat} {A : Option Addr} {xs : List Int} (ht : takeO G i = some (.row (.slice A m cp) e 1 m (xs.map (Value.int .i64)),G')) (k : GC P R cd (St c n env G' (Pers.row (Kd.int .i64) A xs :: Q))) : GC P R cd (St c n env G Q) := GC.imp (fun a w h => h.freezeI ht) k
end
end Go.Sx
namespace Go.Sx
open Go
section
variable {P : Program} {c : Cx} {n : Nat} {env env' : List (Nat × Value)} {G G' Gr : List Own} {Q Q' : List Pers} {d : Nat} {ty : TypeId} {pos : String} {aft : Array Edge} {g : Option (Nat × Bool)} {x y : Operand} {t : TypeId} {a a' : Act} {w w' : World}
def onlyP (c : Cx) (E : Value → Prop) (M : Asr) : Exit → Asr
  | .normal => M
  | .panic ch => fun a w => a.defers = c.D ∧ PanOf E c.L0 c.w0 w (.panicked ch)
  | _ => fun _ _ => False
def GX (P : Program) (ops : Array Oper) (c : Cx) (E : Value → Prop) (M : Asr) (I : World → Prop) (fuel : Nat) (listed : Array Bool) (A : Asr) : Prop := ∀ a w,A a w → wpAnyH P .any ops (onlyP c E M) I fuel listed a w
theorem GC.regionX {R : Exit → Asr} {E : Value → Prop} {id m : Nat} {l : List Oper} {is js : List Nat} {GI : List Own} {QI : List Pers} (hm : P.follows .mixedOrders = true) (hsz : l.length = m) (hsel : sel G is = some (GI,Gr)) (hq : pickQ Q js = some QI)
    (hR : ∀ ch a w,a.defers = c.D → PanOf E c.L0 c.w0 w (.panicked ch) → R (.panic ch) a w) (h : GX P l.toArray c E (R .normal) (Mem c GI QI) m (Array.replicate m false) (St c n env G Q)) : GC P R (.region id l.toArray true) (St c n env G Q) := fun a w ha => by
  refine Code.wp_mono (fun e a w he => ?_) (wp_region_held (Q := onlyP c E (R .normal)) (S := Mem c GI QI) hm ?_)
  · cases e <;> first | exact hR _ _ _ he.1 he.2 | exact he | exact he.elim
  · subst hsz
    have := h a _ (St.drew ha)
    simpa using this
theorem GC.regionXM {R : Exit → Asr} {E : Value → Prop} {M : Asr} {id m : Nat} {l : List Oper} {is js : List Nat} {GI : List Own} {QI : List Pers} (hm : P.follows .mixedOrders = true) (hsz : l.length = m) (hsel : sel G is = some (GI,Gr)) (hq : pickQ Q js = some QI)
    (hR : ∀ ch a w,a.defers = c.D → PanOf E c.L0 c.w0 w (.panicked ch) → R (.panic ch) a w) (h : GX P l.toArray c E M (Mem c GI QI) m (Array.replicate m false) (St c n env G Q)) (k : ∀ a w,M a w → R .normal a w) : GC P R (.region id l.toArray true) (St c n env G Q) := fun a w ha => by
  refine Code.wp_mono (fun e a w he => ?_) (wp_region_held (Q := onlyP c E M) (S := Mem c GI QI) hm ?_)
  · cases e <;> first | exact hR _ _ _ he.1 he.2 | exact k _ _ he | exact he.elim
  · subst hsz
    have := h a _ (St.drew ha)
    simpa using this
end
end Go.Sx
namespace Go.Sx
open Go
section
variable {P : Program} {c : Cx} {n : Nat} {env env' : List (Nat × Value)} {G G' Gr : List Own} {Q Q' : List Pers} {d : Nat} {ty : TypeId} {pos : String} {aft : Array Edge} {g : Option (Nat × Bool)} {x y : Operand} {t : TypeId} {a a' : Act} {w w' : World}
variable {ops : Array Oper} {E : Value → Prop} {M A B : Asr} {I : World → Prop} {fuel : Nat} {listed : Array Bool}
theorem GX.done (hr : Region.ready .any ops listed = []) (h : ∀ a w,A a w → M a w) : GX P ops c E M I fuel listed A := fun a w ha => wpAnyH_done hr (h a w ha) fuel
theorem GX.ex {α : Type} {F : α → Asr} (k : ∀ x,GX P ops c E M I fuel listed (F x)) : GX P ops c E M I fuel listed (fun a w => ∃ x,F x a w) := fun a w ⟨x,hx⟩ => k x a w hx
theorem GX.imp (h : ∀ a w,A a w → B a w) (k : GX P ops c E M I fuel listed B) : GX P ops c E M I fuel listed A := fun a w ha => k a w (h a w ha)
theorem GX.ret {F : Value → List Own → List Pers → Prop} {Z : Value → List Own → List Pers → Asr} (k : ∀ v G2 Q2,F v G2 Q2 → GX P ops c E M I fuel listed (Z v G2 Q2)) : GX P ops c E M I fuel listed (fun a w => ∃ v G2 Q2,F v G2 Q2 ∧ Z v G2 Q2 a w) := fun a w ⟨v,G2,Q2,hF,hZ⟩ => k v G2 Q2 hF a w hZ
theorem GX.split {i : Nat} {b : Bool} (hi : look env i = some (.bool b)) (ht : b = true → GX P ops c E M I fuel listed (St c n ((i,.bool true) :: env) G Q)) (hf : b = false → GX P ops c E M I fuel listed (St c n ((i,.bool false) :: env) G Q)) : GX P ops c E M I fuel listed (St c n env G Q) := by
  rintro a w ⟨S,he,hh,hrel⟩
  cases b
  · exact hf rfl a w ⟨S,he.over hi,hh,hrel⟩
  · exact ht rfl a w ⟨S,he.over hi,hh,hrel⟩
theorem GX.take {op : Op} {v : Value} (i : Nat) (hi : ops[i]? = some ⟨some d,op,ty,pos,aft,none⟩) (hs : Region.noSelect ops = true) (hf : Region.free .any ops listed i = true) (hr : (Region.ready .any ops listed).contains i = true) (hd : Nat.blt d n = true) (hI : ∀ a w,St c n env G Q a w → I w)
    (h : Pi P n I env ⟨some d,op,ty,pos,aft,none⟩ v) (k : GX P ops c E M I fuel (listed.setIfInBounds i true) (St c n ((d,v) :: env) G Q)) : GX P ops c E M I (fuel + 1) listed (St c n env G Q) := fun a w ha =>
  wpAnyH_take hi hs hf hr (fun _ _ _ h => h) (.inl ⟨by simp [Region.wanted],fun w' hw' => h a w' ha.en.toEnv hw'⟩) (hI a w ha) (k _ w (ha.keep (Fr.refl _ _) (ha.en.put hd v)))
def GXs (P : Program) (ops : Array Oper) (c : Cx) (E : Value → Prop) (M : Asr) (I : World → Prop) (fuel : Nat) (listed : Array Bool) (A : Asr) (rs : List Nat) : Prop :=
  ∀ i ∈ rs,∀ a w,A a w → wpOp P ops (onlyP c E M) i (fun a' w' => I w' ∧ wpAnyH P .any ops (onlyP c E M) I fuel (listed.setIfInBounds i true) a' w') a w
theorem GX.all {rs : List Nat} (hr : Region.ready .any ops listed = rs) (hne : rs ≠ []) (h : GXs P ops c E M I fuel listed A rs) : GX P ops c E M I (fuel + 1) listed A := fun a w ha => wpAnyH_all hr hne fun i hi => h i hi a w ha
theorem GXs.nil : GXs P ops c E M I fuel listed A [] := fun i hi => by cases hi
theorem GXs.cons {o : Oper} {i : Nat} {rs : List Nat} (hi : ops[i]? = some o) (hg : o.guard = none) (h : Tr P o A B) (hI : ∀ a w,B a w → I w) (k : GX P ops c E M I fuel (listed.setIfInBounds i true) B) (r : GXs P ops c E M I fuel listed A rs) : GXs P ops c E M I fuel listed A (i :: rs) := by
  intro j hj a w ha
  rcases List.mem_cons.1 hj with rfl | hj
  · unfold wpOp
    rw [hi]
    simp only [Region.wanted,hg,if_true]
    exact .inl (h a w ha _ _ fun a' w' hb => ⟨hI _ _ hb,k a' w' hb⟩)
  · exact r j hj a w ha
theorem GXs.consP {i : Nat} {rs : List Nat} {f : FuncId} {xs : List Operand} {vs : List Value} {ts : Array TypeId} {is js : List Nat} {G1 : List Own} {Q1 : List Pers} {R : Value → List Own → List Pers → Prop} (hi : ops[i]? = some ⟨some d,.call { callee := .value (.func f),args := xs.toArray,argTypes := ts },ty,pos,aft,none⟩) (hd : Nat.blt d n = true) (hf : Ent P f) (hx : evs env xs = some vs)
    (hsel : sel G is = some (G1,Gr)) (hq : pickQ Q js = some Q1) (h : CtP P f vs G1 Q1 R E) (hI : ∀ a w,(∃ v G2 Q2,R v G2 Q2 ∧ St c n ((d,v) :: env) (G2 ++ Gr) (Q2 ++ Q) a w) → I w)
    (k : GX P ops c E M I fuel (listed.setIfInBounds i true) (fun a w => ∃ v G2 Q2,R v G2 Q2 ∧ St c n ((d,v) :: env) (G2 ++ Gr) (Q2 ++ Q) a w)) (r : GXs P ops c E M I fuel listed (St c n env G Q) rs) : GXs P ops c E M I fuel listed (St c n env G Q) (i :: rs) := by
  intro j hj a w ha
  rcases List.mem_cons.1 hj with rfl | hj
  · unfold wpOp
    rw [hi]
    simp only [Region.wanted,if_true]
    left
    obtain ⟨S,he,hh,hrel⟩ := ha
    have hp' := sel_perm hsel
    have hh1 := hh.perm hp'
    have hrel1 := hrel.perm hp'
    have hin : Heap S G1 Q1 w := hh1.sub (List.sublist_append_left _ _) (pickQ_mem hq)
    unfold Oper.wp
    rw [run_call hf hx a w he.toEnv,Oper.upon_enter]
    refine (h w S hin).mono ?_
    rintro e w' (⟨v,G2,Q2,S',rfl,hR,h',hfr,hS,hkk⟩ | ⟨v,rfl,hE,hfr⟩)
    · have hs := St.called hh1 hrel1 h' hfr hS hkk (he.put hd v)
      exact ⟨hI _ _ ⟨v,G2,Q2,hR,hs⟩,k _ _ ⟨v,G2,Q2,hR,hs⟩⟩
    · obtain ⟨S2,he2,hh2,hrel2⟩ := St.lost he hh1 hrel1 hfr
      exact ⟨he2.defers,v,rfl,hE,hrel2.fr⟩
  · exact r j hj a w ha
theorem GL.panicN {X : Exit → Asr} {rest : List Oper} {k : TypeId} {u : Value} (hx : ev env x = some (.iface k u)) (hp : ∀ a w,St c n env G Q a w → X (.panic [{ v := .iface k u,recovered := false }]) a w) :
    GL P ops X (⟨none,.panic x,ty,pos,aft,none⟩ :: rest) (St c n env G Q) := by
  intro a w h
  refine wpList_plain rfl fun K hK => ?_
  unfold Oper.wp
  have : (execOp a.eval ⟨none,.panic x,ty,pos,aft,none⟩).run P w = .halt (.panic (.iface k u)) w := by
    simp only [execOp,h.en.eval hx]; rfl
  rw [this]
  exact hp a w h
theorem GX.st (h : ∀ a w,St c n env G Q a w → St c n env' G' Q' a w) (k : GX P ops c E M I fuel listed (St c n env' G' Q')) : GX P ops c E M I fuel listed (St c n env G Q) := GX.imp h k
theorem GX.shape {i e sz m : Nat} {v : Value} {cs : List Value} (hi : nthO G i = some (.row v e sz m cs)) (k : ∀ A cp,v = .slice A m cp → m ≤ cp → cp ≤ 9223372036854775807 → GX P ops c E M I fuel listed (St c n env G Q)) : GX P ops c E M I fuel listed (St c n env G Q) := fun a w h => by
  obtain ⟨A,cp,h1,h2,h3⟩ := h.shape hi
  exact k A cp h1 h2 h3 a w h
theorem GX.know {q : Pers} (hq : ∀ w S,(∀ p ∈ Q,p.h w S) → q.h w S) (k : GX P ops c E M I fuel listed (St c n env G (q :: Q))) : GX P ops c E M I fuel listed (St c n env G Q) := GX.imp (fun a w h => h.know hq) k
theorem GX.torow {i b e m sz : Nat} {l : List Value} (hi : nthO G i = some (.cells b l e)) (hl : l.length = m * sz) (hm : m ≤ 9223372036854775807) (hr : repl G i (.row (.slice (some ⟨b,0,none⟩) m m) e sz m l) = some G') (k : GX P ops c E M I fuel listed (St c n env G' Q)) : GX P ops c E M I fuel listed (St c n env G Q) :=
  GX.imp (fun a w h => h.recast hi hr rfl (cells_row hl hm)) k
theorem GX.nilrow (e : TypeId) (sz : Nat) (k : GX P ops c E M I fuel listed (St c n env (.row (.slice none 0 0) e sz 0 [] :: G) Q)) : GX P ops c E M I fuel listed (St c n env G Q) := GX.imp (fun a w h => h.nilrow e sz) k
theorem GX.freezeB {i e m cp : Nat} {A : Option Addr} {xs : List UInt8} (ht : takeO G i = some (.row (.slice A m cp) e 1 m (xs.map fun b => Value.int .u8 (b.toNat : Int)),G')) (k : GX P ops c E M I fuel listed (St c n env G' (Pers.row Kd.u8 A xs :: Q))) : GX P ops c E M I fuel listed (St c n env G Q) := GX.imp (fun a w h => h.freezeB ht) k
theorem GX.and {p : Prop} (k : p → GX P ops c E M I fuel listed A) : GX P ops c E M I fuel listed (fun a w => p ∧ A a w) := fun a w ⟨hp,ha⟩ => k hp a w ha
theorem GX.rowIs {i m m' e sz : Nat} {v : Value} {cs cs' : List Value} (hi : nthO G i = some (.row v e sz m cs)) (hm : m = m') (hc : cs = cs') (hr : repl G i (.row v e sz m' cs') = some G') (k : GX P ops c E M I fuel listed (St c n env G' Q)) : GX P ops c E M I fuel listed (St c n env G Q) := GX.st (fun a w h => h.rowIs hi hm hc hr) k
theorem GX.snoc {α : Type} {kd : Kd α} {xs : List α} {cs : List Value} {j : Nat} {js : List Nat} (z : α) (r : kd.Y) (hj : nthO Q j = some (Pers.reps kd xs cs)) (hq : pickQ Q js = some (kd.pers z r)) (hok : kd.ok z r)
    (k : GX P ops c E M I fuel listed (St c n env G (Pers.reps kd (xs ++ [z]) (cs ++ kd.cells z r) :: Q))) : GX P ops c E M I fuel listed (St c n env G Q) := GX.imp (fun a w h => h.snoc hj hq hok) k
theorem GX.freezeR {α : Type} {kd : Kd α} {i j e m cp : Nat} {A : Option Addr} {xs : List α} {cs : List Value} (ht : takeO G i = some (.row (.slice A m cp) e kd.sz m cs,G')) (hj : nthO Q j = some (Pers.reps kd xs cs)) (hp : 0 < kd.sz)
    (k : GX P ops c E M I fuel listed (St c n env G' (Pers.row kd A xs :: Q))) : GX P ops c E M I fuel listed (St c n env G Q) := GX.imp (fun a w h => h.freezeR ht hj hp) k
def CtR (P : Program) (f : FuncId) (us : List Value) (G : List Own) (Q : List Pers) (v : Value) (R : Value → List Own → List Pers → Prop) : Prop :=
  ∀ w S,Heap S G Q w → CallsD P f us.toArray (.panicking [{ v := v,recovered := false }]) w fun e u' w' => retOf ⟨w,S,keysOf G,[]⟩ R e w' ∧ u' = .panicking [{ v := v,recovered := true }]
theorem CtR.intro {f : FuncId} {fn : Func} {us : List Value} {v : Value} {rest : Code} {id d1 d2 : Nat} {ty1 ty2 : TypeId} {pos1 pos2 : String} {aft1 aft2 : Array Edge} {ts : Array TypeId} {R : Value → List Own → List Pers → Prop} (hf : P.funcs[f]? = some fn)
    (hb : fn.body = some (.seq (.region id #[⟨some d1,.call { callee := .builtin .recover,args := #[],argTypes := ts },ty1,pos1,aft1,none⟩,⟨some d2,.assign (.tmp d1),ty2,pos2,aft2,none⟩] false) rest)) (hn : fn.ntmps = n) (hl : Nat.ble us.length n = true) (h1 : Nat.blt d1 n = true) (h2 : Nat.blt d2 n = true)
    (h : ∀ c : Cx,c.L0 = keysOf G → GC P (Fin P fn c R) rest (St c n ((d2,v) :: (d1,v) :: enum 0 us) G Q)) : CtR P f us G Q v R := by
  intro w S hh
  have hl := Nat.le_of_ble_eq_true hl
  let c : Cx := ⟨w,S,keysOf G,[]⟩
  have h0 : EnvD c.D n (enum 0 us) { tmps := us.toArray ++ Array.replicate (fn.ntmps - us.toArray.size) undef,defers := [] } := by
    refine ⟨⟨by simp [hn]; omega,fun i v hi => ?_⟩,rfl⟩
    obtain ⟨k,rfl,hk⟩ := look_enum us 0 i v hi
    rw [Nat.zero_add]
    have hlt : k < us.length := (List.getElem?_eq_some_iff.1 hk).1
    simp only [List.size_toArray]
    rw [Array.getElem?_append_left (by simpa using hlt)]
    simpa using hk
  have he1 := h0.put h1 v
  have he2 := he1.put h2 v
  refine callsD_of_wpS hf hb fun c₀ cs hu => ?_
  apply wpS_seq
  apply wpS_region
  have hev : (Act.put { tmps := us.toArray ++ Array.replicate (fn.ntmps - us.toArray.size) undef,defers := [] } (some d1) v).eval (.tmp d1) = v := he1.toEnv.eval (x := .tmp d1) (v := v) (by simp [ev,look])
  have key : rest.wpS P (bodyPostS P fn c₀ cs fun e u' w' => retOf ⟨w,S,keysOf G,[]⟩ R e w' ∧ u' = .panicking [{ v := v,recovered := true }]) (Act.put (Act.put { tmps := us.toArray ++ Array.replicate (fn.ntmps - us.toArray.size) undef,defers := [] } (some d1) v) (some d2) v) ({ c₀ with mode := .panicking [{ v := v,recovered := true }] } :: cs) w := by
    refine wpS_of_wp (Code.wp_mono (fun e a w' he => ?_) (h c rfl _ w ⟨S,he2,hh,⟨Fr.refl _ _,fun _ _ _ => Iff.rfl,fun k hk => .inl hk⟩⟩))
    have hb' := he rfl
    cases e with
    | normal => obtain ⟨hd,u,hr,hR⟩ := hb'; exact ⟨hd,_,rfl,u,hr,hR,rfl⟩
    | ret => obtain ⟨hd,u,hr,hR⟩ := hb'; exact ⟨hd,_,rfl,u,hr,hR,rfl⟩
    | panic ch => obtain ⟨hd,hR⟩ := hb'; exact ⟨hd,_,rfl,hR,rfl⟩
    | exit id => exact hb'.elim
    | goto l => exact hb'.elim
    | outgrown => exact ⟨_,hb',rfl⟩
  have hlt : d1 < us.length + (fn.ntmps - us.length) := by
    have h1' : d1 < n := by simpa using h1
    omega
  simp [wpOpsS,go_sem,recoverD,hu,Exit.thenS,hlt]
  simpa [Act.put] using key
theorem FinD.catch {f : FuncId} {us : List Value} (hf : Ent P f) {fn : Func} {v : Value} {isC jsC : List Nat} {G1 Gr1 : List Own} {Q1 : List Pers} {RC R : Value → List Own → List Pers → Prop} (hC : CtR P f us G1 Q1 v RC) (hselC : sel G isC = some (G1,Gr1)) (hqC : pickQ Q jsC = some Q1)
    (hback : ∀ u G2 Q2 a w,RC u G2 Q2 → St ⟨c.w0,c.S0,c.L0,[]⟩ n env (G2 ++ Gr1) (Q2 ++ Q) a w → Fin P fn ⟨c.w0,c.S0,c.L0,[]⟩ R .ret a w) (h : St (c.def_ f us) n env G Q a w) : FinD P fn c R (.panic [{ v := v,recovered := false }]) a w := by
  obtain ⟨S,he,hh,hrel⟩ := h
  show Leaves P fn a.tmps (retOf c R) a.defers (.panicking [{ v := v,recovered := false }]) w
  have hd : a.defers = [⟨.fn (.func f) us.toArray,#[]⟩] := he.defers
  rw [hd]
  refine ⟨by simp,.func f,us.toArray,f,us.toArray,rfl,?_,?_⟩
  · have := hf us.toArray w
    simp only [invoke,Array.empty_append,this]
  · have hp' := sel_perm hselC
    have hh1 := hh.perm hp'
    have hrel1 := hrel.perm hp'
    have hin : Heap S G1 Q1 w := hh1.sub (List.sublist_append_left _ _) (pickQ_mem hqC)
    refine (hC w S hin).mono ?_
    rintro e u' w' ⟨⟨u,G2,Q2,S',rfl,hR,h',hfr,hS,hkk⟩,rfl⟩
    have he0 : EnvD [] n env { a with defers := [] } := ⟨⟨he.size,he.has⟩,rfl⟩
    have hst : St ⟨c.w0,c.S0,c.L0,[]⟩ n env (G2 ++ Gr1) (Q2 ++ Q) { a with defers := [] } w' := St.called (c := ⟨c.w0,c.S0,c.L0,[]⟩) hh1 ⟨hrel1.fr,hrel1.old,hrel1.key⟩ h' hfr hS hkk he0
    obtain ⟨_,v',hrun,hret⟩ := hback u G2 Q2 _ w' hR hst rfl
    exact ⟨v',hrun,hret⟩
end
end Go.Sx
namespace Go.Proofs.YtliacpkblicnhaaGreat
open Go Go.Sx Go.Proofs
section
variable {P : Program} {c : Cx} {n : Nat} {env env' : List (Nat × Value)} {G G' Gr : List Own} {Q Q' : List Pers} {d : Nat} {ty : TypeId} {pos : String} {aft : Array Edge} {g : Option (Nat × Bool)} {x : Operand} {t : TypeId} {a : Act} {w : World} {ops : Array Oper} {rest : List Oper} {R : Exit → Asr} {v : Value} {E : Value → Prop} {M : Asr} {fuel : Nat} {listed : Array Bool}
theorem FinP.b1 {fn : Func} {F : Value → List Own → List Pers → Prop} {G1 : List Own} {Q1 : List Pers} (i : Nat) (is js : List Nat) (hR : F (tupV [v]) G1 Q1) (hr : fn.results = [ResultVar.tmp i].toArray := by rfl) (hv : Sx.resV P env G [.tmp i] [v] := by exact ⟨rfl,trivial⟩) (hsel : sel G is = some (G1,Gr) := by rfl) (hq : pickQ Q js = some Q1 := by rfl) : ∀ (a : Act) (w : World),St c n env G Q a w → FinP P fn c F E .ret a w := fun a w h => FinP.back hr hv hsel hq hR h
theorem FinP.c0 {b o e : Nat} {l vs : List Value} {fn : Func} {F : Value → List Own → List Pers → Prop} {G1 : List Own} {Q1 : List Pers} (a_ t_ gi k : Nat) (is js : List Nat) (hR : F (tupV [.agg vs.toArray]) G1 Q1) (hr : fn.results = [ResultVar.cell a_ t_].toArray := by rfl) (hi : nthO G gi = some (.cells b l e) := by rfl) (hl : Sx.look env a_ = some (.pointer (some ⟨b,o,none⟩)) := by rfl) (hv : takeAt l o k = some vs := by rfl) (hg : aggB P t_ = some true := by kernel_rfl) (hs : sizeB P t_ = some k := by kernel_rfl) (hsel : sel G is = some (G1,Gr) := by rfl) (hq : pickQ Q js = some Q1 := by rfl) : ∀ (a : Act) (w : World),St c n env G Q a w → FinP P fn c F E .ret a w := fun a w h => FinP.back (rs := [.cell a_ t_]) (vs := [.agg vs.toArray]) hr ⟨ldV_k gi k hi hl hv hg hs,trivial⟩ hsel hq hR h
theorem GX.al (rs : List Nat) {I : World → Prop} {A : Asr} (h : GXs P ops c E M I fuel listed A rs) (hr : Region.ready .any ops listed = rs := by kernel_rfl) (hne : rs ≠ [] := by simp) : GX P ops c E M I (fuel + 1) listed A := GX.all hr hne h
theorem GX.tp {op : Op} {G1 : List Own} {Q1 : List Pers} (i : Nat) (hi : ops[i]? = some ⟨some d,op,ty,pos,aft,none⟩) (is js : List Nat) (h : Pi P n (Mem c G1 Q1) env ⟨some d,op,ty,pos,aft,none⟩ v) (k : GX P ops c E M (Mem c G1 Q1) fuel (listed.setIfInBounds i true) (St c n ((d,v) :: env) G Q))
    (hs : Region.noSelect ops = true := by kernel_rfl) (hf : Region.free .any ops listed i = true := by kernel_rfl) (hr : (Region.ready .any ops listed).contains i = true := by kernel_rfl) (hd : Nat.blt d n = true := by rfl) (hsel : sel G is = some (G1,Gr) := by rfl) (hq : pickQ Q js = some Q1 := by rfl) : GX P ops c E M (Mem c G1 Q1) (fuel + 1) listed (St c n env G Q) :=
  GX.take i hi hs hf hr hd (fun _ _ h => h.mem hsel hq) h k
theorem GX.tk {op : Op} {G1 : List Own} {Q1 : List Pers} (i : Nat) (is js : List Nat) (k : GX P ops c E M (Mem c G1 Q1) fuel (listed.setIfInBounds i true) (St c n ((d,v) :: env) G Q)) (hi : ops[i]? = some ⟨some d,op,ty,pos,aft,none⟩ := by rfl) (h : Pi P n (Mem c G1 Q1) env ⟨some d,op,ty,pos,aft,none⟩ v := by exact i_pure (pvE_ok fo_ok sl_ok rfl))
    (hs : Region.noSelect ops = true := by kernel_rfl) (hf : Region.free .any ops listed i = true := by kernel_rfl) (hr : (Region.ready .any ops listed).contains i = true := by kernel_rfl) (hd : Nat.blt d n = true := by rfl) (hsel : sel G is = some (G1,Gr) := by rfl) (hq : pickQ Q js = some Q1 := by rfl) : GX P ops c E M (Mem c G1 Q1) (fuel + 1) listed (St c n env G Q) :=
  GX.take i hi hs hf hr hd (fun _ _ h => h.mem hsel hq) h k
end
end Go.Proofs.YtliacpkblicnhaaGreat
namespace Go.Sx
open Go
def CtX (P : Program) (f : FuncId) (args : List Value) (G : List Own) (Q : List Pers) (R : Value → List Own → List Pers → Prop) : Prop :=
  ∀ w S,Heap S G Q w → ∃ v w' G' Q' S',(callFunc f args.toArray).run P w = .ok (.value v) w' ∧ R v G' Q' ∧ Heap S' G' Q' w' ∧ Fr (keysOf G) w w' ∧
    (∀ k,k < w.heap.size → k ∉ keysOf G → (S' k ↔ S k)) ∧ (∀ k ∈ keysOf G',k ∈ keysOf G ∨ w.heap.size ≤ k)
end Go.Sx
namespace Go.Sx
open Go
section
variable {P : Program} {c : Cx} {n : Nat} {env env' : List (Nat × Value)} {G G' Gr : List Own} {Q Q' : List Pers} {d : Nat} {ty : TypeId} {pos : String} {aft : Array Edge} {g : Option (Nat × Bool)} {x y : Operand} {t : TypeId} {a a' : Act} {w w' : World}
theorem t_ext {f : FuncId} {xs : List Operand} {vs : List Value} {ts : Array TypeId} {is js : List Nat} {G1 : List Own} {Q1 : List Pers} {R : Value → List Own → List Pers → Prop} (hd : Nat.blt d n = true) (hx : evs env xs = some vs)
    (hsel : sel G is = some (G1,Gr)) (hq : pickQ Q js = some Q1) (h : CtX P f vs G1 Q1 R) :
    Tr P ⟨some d,.call { callee := .value (.func f),args := xs.toArray,argTypes := ts },ty,pos,aft,g⟩ (St c n env G Q) (fun a w => ∃ v G2 Q2,R v G2 Q2 ∧ St c n ((d,v) :: env) (G2 ++ Gr) (Q2 ++ Q) a w) := by
  rintro a w ⟨S,he,hh,hrel⟩ K Q' hk
  have hp := sel_perm hsel
  have hh1 := hh.perm hp
  have hrel1 := hrel.perm hp
  have hin : Heap S G1 Q1 w := hh1.sub (List.sublist_append_left _ _) (pickQ_mem hq)
  obtain ⟨v,w',G2,Q2,S',hrun,hR,h',hf,hS,hkk⟩ := h w S hin
  have hm : xs.toArray.map a.eval = vs.toArray := by rw [List.map_toArray,he.toEnv.evals hx]
  have hr : (execOp a.eval ⟨some d,.call { callee := .value (.func f),args := xs.toArray,argTypes := ts },ty,pos,aft,g⟩).run P w = .ok (.value v) w' := by
    simp only [execOp,resolve,Deferred.ofValue,invoke,hm,Act.eval,Sem.run_bind,Sem.run_pure,Result.andThen_ok,Array.empty_append,Array.append_empty,hrun]
  unfold Oper.wp
  rw [hr]
  exact hk _ _ ⟨v,G2,Q2,hR,St.called hh1 hrel1 h' hf hS hkk (he.put hd v)⟩
end
end Go.Sx
