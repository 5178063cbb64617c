/- CALLS BY CONTRACT, the way into a function and out of it, rules on states, regions that draw their order. Plain definitions and theorems over any program. -/
import Derived.Test.YtmjfkjajedhciaaSx4
import Derived.OrdersHeld
set_option linter.unusedVariables false
set_option linter.unusedSimpArgs false
namespace Go.Sx
open Go

/-- A contract: from memory G, Q the call comes back; R tells the result and what memory is then. Nothing but G has turned. -/
def Ct (P : Program) (f : FuncId) (args : List Value) (G : List Own) (Q : List Pers) (R : Value → List Own → List Pers → Prop) : Prop :=
  ∀ w S, Heap S G Q w → Calls P f args.toArray w fun e w' => ∃ v G' Q' S', e = .returned v ∧ R v G' Q' ∧ Heap S' G' Q' w' ∧ Fr (keysOf G) w w' ∧
    (∀ k, k < w.heap.size → k ∉ keysOf G → (S' k ↔ S k)) ∧ (∀ k ∈ keysOf G', k ∈ keysOf G ∨ w.heap.size ≤ k)

theorem Ct.mono {P : Program} {f : FuncId} {args : List Value} {G : List Own} {Q : List Pers} {R R' : Value → List Own → List Pers → Prop} (h : Ct P f args G Q R) (hr : ∀ v G' Q', R v G' Q' → R' v G' Q') : Ct P f args G Q R' :=
  fun w S hh => (h w S hh).mono fun e w' ⟨v, G', Q', S', h1, h2, h3⟩ => ⟨v, G', Q', S', h1, hr _ _ _ h2, h3⟩

section
variable {P : Program} {c : Cx} {n : Nat} {env env' : List (Nat × Value)} {G G' Gr : List Own} {Q Q' : List Pers} {d : Nat} {ty : TypeId} {pos : String} {aft : Array Edge} {g : Option (Nat × Bool)} {x y : Operand} {t : TypeId} {a a' : Act} {w w' : World}

theorem keysOf_append (a b : List Own) : keysOf (a ++ b) = keysOf a ++ keysOf b := by simp [keysOf]
theorem mem_keysOf_perm {a b : List Own} (h : a.Perm b) {k : Nat} : k ∈ keysOf a ↔ k ∈ keysOf b := (List.Perm.flatMap_right Own.keys h).mem_iff

theorem Rel.perm {S : Blocks} (h : Rel c S G w) (hp : G.Perm G') : Rel c S G' w := ⟨h.fr, h.old, fun k hk => h.key k ((mem_keysOf_perm hp).2 hk)⟩

/-- What a call leaves, put beside what it was not handed. -/
theorem heap_frame {S S' : Blocks} {G1 G2 Gr : List Own} {Q1 Q2 : List Pers} (h : Heap S (G1 ++ Gr) Q1 w) (h' : Heap S' G2 Q2 w') (hf : Fr (keysOf G1) w w') (hS : ∀ k, k < w.heap.size → k ∉ keysOf G1 → (S' k ↔ S k)) (hk : ∀ k ∈ keysOf G2, k ∈ keysOf G1 ∨ w.heap.size ≤ k) :
    Heap S' (G2 ++ Gr) (Q2 ++ Q1) w' := by
  have hn : (keysOf G1 ++ keysOf Gr).Nodup := by rw [← keysOf_append]; exact h.nod
  rw [List.nodup_append] at hn
  obtain ⟨n1, nr, d1r⟩ := hn
  have ltr : ∀ k ∈ keysOf Gr, k < w.heap.size := fun k hk => h.lt (by rw [keysOf_append]; exact List.mem_append_right _ hk)
  have nr1 : ∀ k ∈ keysOf Gr, k ∉ keysOf G1 := fun k hk h1 => d1r k h1 k hk rfl
  constructor
  · intro o ho
    rcases List.mem_append.1 ho with ho | ho
    · exact h'.own o ho
    · refine Own.move (h.own o (List.mem_append_right _ ho)) fun k hko => ?_
      have hkr : k ∈ keysOf Gr := mem_keysOf.2 ⟨o, ho, hko⟩
      exact hf.block k (ltr k hkr) (nr1 k hkr)
  · rw [keysOf_append, List.nodup_append]
    refine ⟨h'.nod, nr, fun k hk2 l hl e => ?_⟩
    subst e
    rcases hk k hk2 with h1 | h1
    · exact nr1 k hl h1
    · have := ltr k hl; omega
  · intro k hkk
    rw [keysOf_append] at hkk
    rcases List.mem_append.1 hkk with hkk | hkk
    · exact h'.out k hkk
    · intro hs
      exact h.out k (by rw [keysOf_append]; exact List.mem_append_right _ hkk) ((hS k (ltr k hkk) (nr1 k hkk)).1 hs)
  · intro q hq
    rcases List.mem_append.1 hq with hq | hq
    · exact h'.per q hq
    · refine q.st (h.per q hq) fun k hs hlt => ?_
      have hn1 : k ∉ keysOf G1 := fun h1 => h.out k (by rw [keysOf_append]; exact List.mem_append_left _ h1) hs
      exact ⟨(hS k hlt hn1).2 hs, hf.block k hlt hn1⟩

theorem St.called {S' : Blocks} {G1 G2 : List Own} {Q2 : List Pers} {S : Blocks} (hh : Heap S (G1 ++ Gr) Q w) (hrel : Rel c S (G1 ++ Gr) w) (h' : Heap S' G2 Q2 w') (hf : Fr (keysOf G1) w w') (hS : ∀ k, k < w.heap.size → k ∉ keysOf G1 → (S' k ↔ S k)) (hk : ∀ k ∈ keysOf G2, k ∈ keysOf G1 ∨ w.heap.size ≤ k) (he : Env n env a') :
    St c n env (G2 ++ Gr) (Q2 ++ Q) a' w' :=
  ⟨S', he, heap_frame hh h' hf hS hk, hrel.step hf (fun k hk => by rw [keysOf_append]; exact List.mem_append_left _ hk) hS fun k hkk => by
    rw [keysOf_append] at hkk ⊢
    rcases List.mem_append.1 hkk with hkk | hkk
    · exact (hk k hkk).imp (List.mem_append_left _) id
    · exact .inl (List.mem_append_right _ hkk)⟩

theorem Tr.calls {op : Op} {f : FuncId} {vs : List Value} {is js : List Nat} {G1 : List Own} {Q1 : List Pers} {R : Value → List Own → List Pers → Prop} (hd : Nat.blt d n = true) (hrun : ∀ a w, Env n env a → (execOp a.eval ⟨some d, op, ty, pos, aft, g⟩).run P w = .ok (.enter f vs.toArray) w)
    (hsel : sel G is = some (G1, Gr)) (hq : pickQ Q js = some Q1) (h : Ct P f vs G1 Q1 R) :
    Tr P ⟨some d, op, ty, pos, aft, g⟩ (St c n env G Q) (fun a w => ∃ v G2 Q2, R v G2 Q2 ∧ St c n ((d, v) :: env) (G2 ++ Gr) (Q2 ++ Q) a w) := by
  rintro a w ⟨S, he, hh, hrel⟩ K Q' hk
  have hp := sel_perm hsel
  have hh1 := hh.perm hp
  have hrel1 := hrel.perm hp
  have hin : Heap S G1 Q1 w := hh1.sub (List.sublist_append_left _ _) (pickQ_mem hq)
  unfold Oper.wp
  rw [hrun a w he]
  rw [Oper.upon_enter]
  refine (h w S hin).mono ?_
  rintro e w' ⟨v, G2, Q2, S', rfl, hR, h', hf, hS, hkk⟩
  exact hk _ _ ⟨v, G2, Q2, hR, St.called hh1 hrel1 h' hf hS hkk (he.put hd v)⟩

/-- The callee reads blocks that are owned, too: they come back as they were. -/
theorem Tr.lends {op : Op} {f : FuncId} {vs : List Value} {is ls js : List Nat} {G1 GL G3 : List Own} {Q1 QL : List Pers} {R : Value → List Own → List Pers → Prop} (hd : Nat.blt d n = true) (hrun : ∀ a w, Env n env a → (execOp a.eval ⟨some d, op, ty, pos, aft, g⟩).run P w = .ok (.enter f vs.toArray) w)
    (hsel : sel G is = some (G1, G3)) (hlen : sel G3 ls = some (GL, Gr)) (hq : pickQ Q js = some Q1) (hl : ∀ w S, (∀ o ∈ GL, o.holds w) → (∀ k ∈ keysOf GL, S k) → (∀ q ∈ Q, q.h w S) → ∀ q ∈ QL, q.h w S) (h : Ct P f vs G1 (QL ++ Q1) R) (hR : ∀ v G2 Q2, R v G2 Q2 → Q2 = []) :
    Tr P ⟨some d, op, ty, pos, aft, g⟩ (St c n env G Q) (fun a w => ∃ v G2, R v G2 [] ∧ St c n ((d, v) :: env) (G2 ++ (GL ++ Gr)) Q a w) := by
  rintro a w ⟨S, he, hh, hrel⟩ K Q' hk
  have hp : G.Perm (G1 ++ (GL ++ Gr)) := (sel_perm hsel).trans ((List.Perm.refl _).append (sel_perm hlen))
  have hh1 := hh.perm hp
  have hrel1 := hrel.perm hp
  let S1 : Blocks := fun k => S k ∨ k ∈ keysOf GL
  have hn := hh1.nod
  rw [keysOf_append, keysOf_append, List.nodup_append] at hn
  obtain ⟨n1, n2, dis⟩ := hn
  have hin : Heap S1 G1 (QL ++ Q1) w := by
    refine ⟨fun o ho => hh1.own o (List.mem_append_left _ ho), n1, fun k hk1 hs => ?_, fun q hq' => ?_⟩
    · rcases hs with hs | hs
      · exact hh1.out k (by rw [keysOf_append]; exact List.mem_append_left _ hk1) hs
      · exact dis k hk1 k (List.mem_append_left _ hs) rfl
    · have up : ∀ q ∈ Q, q.h w S1 := fun q hq => q.st (hh1.per q hq) fun k hs _ => ⟨.inl hs, rfl⟩
      rcases List.mem_append.1 hq' with hq' | hq'
      · exact hl w S1 (fun o ho => hh1.own o (List.mem_append_right _ (List.mem_append_left _ ho))) (fun k hk => .inr hk) up q hq'
      · exact up q (pickQ_mem hq q hq')
  unfold Oper.wp
  rw [hrun a w he]
  rw [Oper.upon_enter]
  refine (h w S1 hin).mono ?_
  rintro e w' ⟨v, G2, Q2, S', rfl, hR', h', hf, hS, hkk⟩
  have := hR v G2 Q2 hR'
  subst this
  have ltL : ∀ k ∈ keysOf GL, k < w.heap.size := fun k hk => hh1.lt (by rw [keysOf_append, keysOf_append]; exact List.mem_append_right _ (List.mem_append_left _ hk))
  have nL1 : ∀ k ∈ keysOf GL, k ∉ keysOf G1 := fun k hk h1 => dis k h1 k (List.mem_append_left _ hk) rfl
  have h2 : Heap (fun k => S' k ∧ k ∉ keysOf GL) G2 [] w' := ⟨h'.own, h'.nod, fun k hk hs => h'.out k hk hs.1, fun q hq => by cases hq⟩
  have hS2 : ∀ k, k < w.heap.size → k ∉ keysOf G1 → ((S' k ∧ k ∉ keysOf GL) ↔ S k) := by
    intro k hlt hn1
    constructor
    · rintro ⟨hs, hnl⟩
      exact ((hS k hlt hn1).1 hs).resolve_right hnl
    · intro hs
      refine ⟨(hS k hlt hn1).2 (.inl hs), fun hl => hh1.out k ?_ hs⟩
      rw [keysOf_append, keysOf_append]
      exact List.mem_append_right _ (List.mem_append_left _ hl)
  have := St.called (n := n) (env := (d, v) :: env) hh1 hrel1 h2 hf hS2 hkk (he.put hd v)
  rw [List.nil_append] at this
  exact hk _ _ ⟨v, G2, hR', this⟩

/-- A call of a function enters it. (The loaded program's own fact 'callN'.) -/
def Ent (P : Program) (f : FuncId) : Prop := ∀ (args : Array Value) (w : World), (callFunc f args).run P w = .ok (.enter f args) w

theorem run_call {f : FuncId} {xs : List Operand} {vs : List Value} {ts : Array TypeId} {dst : Option Tmp} (hf : Ent P f) (hx : evs env xs = some vs) (a : Act) (w : World) (he : Env n env a) :
    (execOp a.eval ⟨dst, .call { callee := .value (.func f), args := xs.toArray, argTypes := ts }, ty, pos, aft, g⟩).run P w = .ok (.enter f vs.toArray) w := by
  have hm : xs.toArray.map a.eval = vs.toArray := by rw [List.map_toArray, he.evals hx]
  have hc := hf vs.toArray w
  simp only [execOp, resolve, Deferred.ofValue, invoke, hm, Act.eval, Sem.run_bind, Sem.run_pure, Result.andThen_ok, Array.empty_append, Array.append_empty, hc]

theorem run_callv {f : FuncId} {x : Operand} {xs : List Operand} {vs us : List Value} {ts : Array TypeId} {dst : Option Tmp} (hf : Ent P f) (hv : ev env x = some (.func (.func f) #[] us.toArray)) (hx : evs env xs = some vs) (a : Act) (w : World) (he : Env n env a) :
    (execOp a.eval ⟨dst, .call { callee := .value x, args := xs.toArray, argTypes := ts }, ty, pos, aft, g⟩).run P w = .ok (.enter f (vs ++ us).toArray) w := by
  have hm : xs.toArray.map a.eval = vs.toArray := by rw [List.map_toArray, he.evals hx]
  have hc := hf (vs ++ us).toArray w
  simp only [execOp, resolve, Deferred.ofValue, invoke, hm, he.eval hv, Sem.run_bind, Sem.run_pure, Result.andThen_ok, Array.empty_append, List.append_toArray, List.nil_append, hc]

theorem t_call {f : FuncId} {xs : List Operand} {vs : List Value} {ts : Array TypeId} {is js : List Nat} {G1 : List Own} {Q1 : List Pers} {R : Value → List Own → List Pers → Prop} (hd : Nat.blt d n = true) (hf : Ent P f) (hx : evs env xs = some vs)
    (hsel : sel G is = some (G1, Gr)) (hq : pickQ Q js = some Q1) (h : Ct P f vs G1 Q1 R) :
    Tr P ⟨some d, .call { callee := .value (.func f), args := xs.toArray, argTypes := ts }, ty, pos, aft, g⟩ (St c n env G Q) (fun a w => ∃ v G2 Q2, R v G2 Q2 ∧ St c n ((d, v) :: env) (G2 ++ Gr) (Q2 ++ Q) a w) :=
  Tr.calls hd (fun a w he => run_call hf hx a w he) hsel hq h
theorem t_callv {f : FuncId} {xs : List Operand} {vs us : List Value} {ts : Array TypeId} {is js : List Nat} {G1 : List Own} {Q1 : List Pers} {R : Value → List Own → List Pers → Prop} (hd : Nat.blt d n = true) (hf : Ent P f) (hv : ev env x = some (.func (.func f) #[] us.toArray)) (hx : evs env xs = some vs)
    (hsel : sel G is = some (G1, Gr)) (hq : pickQ Q js = some Q1) (h : Ct P f (vs ++ us) G1 Q1 R) :
    Tr P ⟨some d, .call { callee := .value x, args := xs.toArray, argTypes := ts }, ty, pos, aft, g⟩ (St c n env G Q) (fun a w => ∃ v G2 Q2, R v G2 Q2 ∧ St c n ((d, v) :: env) (G2 ++ Gr) (Q2 ++ Q) a w) :=
  Tr.calls hd (fun a w he => run_callv hf hv hx a w he) hsel hq h
theorem t_lend {f : FuncId} {xs : List Operand} {vs : List Value} {ts : Array TypeId} {is ls js : List Nat} {G1 GL G3 : List Own} {Q1 QL : List Pers} {R : Value → List Own → List Pers → Prop} (hd : Nat.blt d n = true) (hf : Ent P f) (hx : evs env xs = some vs)
    (hsel : sel G is = some (G1, G3)) (hlen : sel G3 ls = some (GL, Gr)) (hq : pickQ Q js = some Q1) (hl : ∀ w S, (∀ o ∈ GL, o.holds w) → (∀ k ∈ keysOf GL, S k) → (∀ q ∈ Q, q.h w S) → ∀ q ∈ QL, q.h w S) (h : Ct P f vs G1 (QL ++ Q1) R) (hR : ∀ v G2 Q2, R v G2 Q2 → Q2 = []) :
    Tr P ⟨some d, .call { callee := .value (.func f), args := xs.toArray, argTypes := ts }, ty, pos, aft, g⟩ (St c n env G Q) (fun a w => ∃ v G2, R v G2 [] ∧ St c n ((d, v) :: env) (G2 ++ (GL ++ Gr)) Q a w) :=
  Tr.lends hd (fun a w he => run_call hf hx a w he) hsel hlen hq hl h hR

/-! ### into a function and out of it -/
def retOf (c : Cx) (R : Value → List Own → List Pers → Prop) (e : Ending) (w' : World) : Prop :=
  ∃ v G' Q' S', e = .returned v ∧ R v G' Q' ∧ Heap S' G' Q' w' ∧ Fr c.L0 c.w0 w' ∧ (∀ k, k < c.w0.heap.size → k ∉ c.L0 → (S' k ↔ c.S0 k)) ∧ (∀ k ∈ keysOf G', k ∈ c.L0 ∨ c.w0.heap.size ≤ k)
def Fin (P : Program) (fn : Func) (c : Cx) (R : Value → List Own → List Pers → Prop) : Exit → Asr := bodyPost P fn (retOf c R)

def enum (i : Nat) : List Value → List (Nat × Value)
  | [] => []
  | v :: r => (i, v) :: enum (i + 1) r
theorem look_enum : ∀ (l : List Value) (i j : Nat) (v : Value), look (enum i l) j = some v → ∃ k, j = i + k ∧ l[k]? = some v
  | [], i, j, v, h => by simp [enum, look] at h
  | u :: r, i, j, v, h => by
    simp only [enum, look] at h
    cases hb : Nat.beq i j with
    | true =>
      rw [hb] at h
      simp only [cond_true, Option.some.injEq] at h
      exact ⟨0, by have := Nat.eq_of_beq_eq_true hb; omega, by simp [h]⟩
    | false =>
      rw [hb] at h
      obtain ⟨k, h1, h2⟩ := look_enum r (i + 1) j v h
      exact ⟨k + 1, by omega, by simpa using h2⟩

theorem Ct.intro {f : FuncId} {fn : Func} {code : Code} {args : List Value} {R : Value → List Own → List Pers → Prop} (hf : P.funcs[f]? = some fn) (hb : fn.body = some code) (hn : fn.ntmps = n) (hl : Nat.ble args.length n = true)
    (h : ∀ c : Cx, c.L0 = keysOf G → GC P (Fin P fn c R) code (St c n (enum 0 args) G Q)) : Ct P f args G Q R := by
  intro w S hh
  refine calls_of_wp hf hb ?_
  have hl := Nat.le_of_ble_eq_true hl
  let c : Cx := ⟨w, S, keysOf G⟩
  refine Code.wp_mono ?_ (h c rfl _ w ⟨S, ?_, hh, ?_⟩)
  · intro e a w' he
    exact he
  · refine ⟨by simp [hn]; omega, rfl, fun i v hi => ?_⟩
    obtain ⟨k, rfl, hk⟩ := look_enum args 0 i v hi
    rw [Nat.zero_add]
    have hlt : k < args.length := (List.getElem?_eq_some_iff.1 hk).1
    simp only [List.size_toArray]
    rw [Array.getElem?_append_left (by simpa using hlt)]
    simpa using hk
  · exact ⟨Fr.refl _ _, fun _ _ _ => Iff.rfl, fun k hk => .inl hk⟩

/-- What the result variables hold. -/
def ldV (P : Program) (env : List (Nat × Value)) (G : List Own) (a : Tmp) (t : TypeId) (v : Value) : Prop :=
  ∃ i b o l e, nthO G i = some (.cells b l e) ∧ look env a = some (.pointer (some ⟨b, o, none⟩)) ∧
    ((aggB P t = some false ∧ nth l o = some v) ∨ ∃ vs, v = .agg vs.toArray ∧ aggB P t = some true ∧ sizeB P t = some vs.length ∧ at_ l o vs)
def resV (P : Program) (env : List (Nat × Value)) (G : List Own) : List ResultVar → List Value → Prop
  | [], [] => True
  | .tmp t :: r, v :: vs => look env t = some v ∧ resV P env G r vs
  | .cell a t :: r, v :: vs => ldV P env G a t v ∧ resV P env G r vs
  | _, _ => False

theorem run_resV (h : St c n env G Q a w) : ∀ {rs : List ResultVar} {vs : List Value}, resV P env G rs vs →
    (rs.mapM fun | .tmp t => pure (a.tmps.getD t undef) | .cell b t => do loadVar t (← asAddr (a.tmps.getD b undef)) : Sem (List Value)).run P w = .ok vs w
  | [], [], _ => rfl
  | .tmp t :: r, v :: vs, hv => by
    obtain ⟨h1, h2⟩ := hv
    have e : a.tmps.getD t undef = v := by have := h.en.has t v h1; simp [this]
    simp only [List.mapM_cons, Sem.run_bind, Sem.run_pure, Result.andThen_ok, e, run_resV h h2]
  | .cell b t :: r, v :: vs, hv => by
    obtain ⟨⟨i, bb, o, l, e, hi, hb, hld⟩, h2⟩ := hv
    have eb : a.tmps.getD b undef = .pointer (some ⟨bb, o, none⟩) := by have := h.en.has b _ hb; simp [this]
    have hblk : w.heap[bb]? = some (.cells l.toArray e (0, 0)) := h.own hi
    have hadr : (asAddr (a.tmps.getD b undef)).run P w = .ok ⟨bb, o, none⟩ w := by rw [eb]; rfl
    have hrun : (loadVar t ⟨bb, o, none⟩).run P w = .ok v w := by
      rcases hld with ⟨hg, hn⟩ | ⟨us, rfl, hg, hs, hat⟩
      · rw [nth_eq] at hn
        exact run_loadVar_one hg (by simp [World.cell?, hblk, hn])
      · exact run_loadVar_agg hg hs (cellsAt_blk hblk (at_get hat))
    simp only [List.mapM_cons, Sem.run_bind, Sem.run_pure, Result.andThen_ok, hadr, hrun, run_resV h h2]
  | [], _ :: _, hv => hv.elim
  | .tmp _ :: _, [], hv => hv.elim
  | .cell _ _ :: _, [], hv => hv.elim

def tupV : List Value → Value
  | [v] => v
  | vs => .tuple vs.toArray

theorem Fin.back {fn : Func} {rs : List ResultVar} {vs : List Value} {is js : List Nat} {R : Value → List Own → List Pers → Prop} (hr : fn.results = rs.toArray) (hv : resV P env G rs vs) (hsel : sel G is = some (G', Gr)) (hq : pickQ Q js = some Q') (hR : R (tupV vs) G' Q') (h : St c n env G Q a w) : Fin P fn c R .ret a w := by
  have hrun : (results fn a.tmps).run P w = .ok (tupV vs) w := by
    have h0 := run_resV (P := P) h hv
    have h1 : (rs.toArray.mapM fun | .tmp t => pure (a.tmps.getD t undef) | .cell b t => do loadVar t (← asAddr (a.tmps.getD b undef)) : Sem (Array Value)).run P w = .ok vs.toArray w := by
      rw [List.mapM_toArray, Sem.run_map]
      exact congrArg (fun r => Result.andThen r fun a w' => Result.ok (List.toArray a) w') h0
    simp only [results, hr, Sem.run_bind]
    refine (congrArg (fun r => Result.andThen r _) h1).trans ?_
    cases vs with
    | nil => rfl
    | cons v r => cases r <;> simp [tupV]
  obtain ⟨S, he, hh, hrel⟩ := h
  have hp := sel_perm hsel
  have hh1 := hh.perm hp
  have hrel1 := hrel.perm hp
  exact ⟨he.defers, _, hrun, _, G', Q', S, rfl, hR, hh1.sub (List.sublist_append_left _ _) (pickQ_mem hq), hrel.fr, hrel.old, fun k hk => hrel1.key k (by rw [keysOf_append]; exact List.mem_append_left _ hk)⟩
/-- .. where the body ends without 'return'. -/
theorem Fin.back0 {fn : Func} {is js : List Nat} {R : Value → List Own → List Pers → Prop} (hr : fn.results = #[]) (hsel : sel G is = some (G', Gr)) (hq : pickQ Q js = some Q') (hR : R (.tuple #[]) G' Q') (h : St c n env G Q a w) : Fin P fn c R .normal a w :=
  Fin.back (rs := []) (vs := []) (by rw [hr]) trivial hsel hq hR h

/-! ### rules on states -/
theorem St.sub (h : St c n env G Q a w) (hs : sub env env') : St c n env' G Q a w := by
  obtain ⟨S, he, hh, hrel⟩ := h
  exact ⟨S, he.sub hs, hh, hrel⟩
/-- Fewer slots, owned things in another row and fewer, fewer facts. -/
theorem St.cut {is js : List Nat} (h : St c n env G Q a w) (hs : Sx.sub env env') (hsel : sel G is = some (G', Gr)) (hq : pickQ Q js = some Q') : St c n env' G' Q' a w := by
  obtain ⟨S, he, hh, hrel⟩ := h
  have hp := sel_perm hsel
  exact ⟨S, he.sub hs, (hh.perm hp).sub (List.sublist_append_left _ _) (pickQ_mem hq), (hrel.perm hp).fr, hrel.old, fun k hk => (hrel.perm hp).key k (by rw [keysOf_append]; exact List.mem_append_left _ hk)⟩
/-- One fact more, that follows. -/
theorem St.know {q : Pers} (h : St c n env G Q a w) (hq : ∀ w S, (∀ p ∈ Q, p.h w S) → q.h w S) : St c n env G (q :: Q) a w := by
  obtain ⟨S, he, hh, hrel⟩ := h
  exact ⟨S, he, ⟨hh.own, hh.nod, hh.out, fun p hp => by
    rcases List.mem_cons.1 hp with rfl | hp
    · exact hq w S hh.per
    · exact hh.per p hp⟩, hrel⟩
/-- What is owned is given up: it is only read from now on. -/
theorem St.freeze {i : Nat} {o : Own} {QN : List Pers} (h : St c n env G Q a w) (ht : takeO G i = some (o, G')) (hq : ∀ w S, o.holds w → (∀ k ∈ o.keys, S k) → (∀ p ∈ Q, p.h w S) → ∀ q ∈ QN, q.h w S) : St c n env G' (QN ++ Q) a w := by
  obtain ⟨S, he, hh, hrel⟩ := h
  have hp := takeO_perm ht
  have hh1 := hh.perm hp
  have hrel1 := hrel.perm hp
  have hn : (o.keys ++ keysOf G').Nodup := hh1.nod
  rw [List.nodup_append] at hn
  have up : ∀ q ∈ Q, q.h w (fun k => S k ∨ k ∈ o.keys) := fun q hq => q.st (hh.per q hq) fun k hs _ => ⟨.inl hs, rfl⟩
  refine ⟨fun k => S k ∨ k ∈ o.keys, he, ⟨fun x hx => hh1.own x (List.mem_cons_of_mem _ hx), hn.2.1, fun k hk hs => ?_, fun q hq' => ?_⟩, ⟨hrel.fr, fun k hlt hL => ⟨fun hs => ?_, fun hs => .inl ((hrel.old k hlt hL).2 hs)⟩, fun k hk => hrel1.key k (by exact List.mem_append_right _ hk)⟩⟩
  · rcases hs with hs | hs
    · exact hh1.out k (List.mem_append_right _ hk) hs
    · exact hn.2.2 k hs k hk rfl
  · rcases List.mem_append.1 hq' with hq' | hq'
    · exact hq w _ (hh1.own o (List.mem_cons_self)) (fun k hk => .inr hk) up q hq'
    · exact up q hq'
  · rcases hs with hs | hs
    · exact (hrel.old k hlt hL).1 hs
    · rcases hrel1.key k (List.mem_append_left _ hs) with h1 | h1
      · exact absurd h1 hL
      · omega
/-- Another word for what is owned. -/
theorem St.recast {i : Nat} {o o' : Own} (h : St c n env G Q a w) (hi : nthO G i = some o) (hr : repl G i o' = some G') (hk : o'.keys = o.keys) (ho : ∀ w, o.holds w → o'.holds w) : St c n env G' Q a w := by
  obtain ⟨S, he, hh, hrel⟩ := h
  have hn : o'.keys.Nodup := by
    rw [hk]
    obtain ⟨x, y, rfl, _⟩ := repl_split hi hr
    have := hh.nod
    simp only [keysOf, List.flatMap_append, List.flatMap_cons, List.nodup_append] at this
    exact this.2.1.1
  exact St.write ⟨S, he, hh, hrel⟩ hi hr (Fr.refl _ _) (ho w (hh.own o (nthO_mem hi))) (fun k hkk => .inl (hk ▸ hkk)) hn he

/-! ### a test -/
theorem GC.cond {R : Exit → Asr} {z : Operand} {b : Bool} {thn els : Code} (hz : ev env z = some (.bool b)) (ht : b = true → GC P R thn (St c n env G Q)) (hf : b = false → GC P R els (St c n env G Q)) : GC P R (.cond z thn els) (St c n env G Q) :=
  fun a w h => wp_cond_split (h.en.eval hz) (fun e => ht e a w h) (fun e => hf e a w h)
theorem GC.cond_true {R : Exit → Asr} {z : Operand} {thn els : Code} (hz : ev env z = some (.bool true)) (ht : GC P R thn (St c n env G Q)) : GC P R (.cond z thn els) (St c n env G Q) :=
  fun a w h => wp_cond_true (h.en.eval hz) (ht a w h)
theorem GC.cond_false {R : Exit → Asr} {z : Operand} {thn els : Code} (hz : ev env z = some (.bool false)) (ht : GC P R els (St c n env G Q)) : GC P R (.cond z thn els) (St c n env G Q) :=
  fun a w h => wp_cond_false (h.en.eval hz) (ht a w h)
/-- A slot's truth is decided ahead of what hangs on it. -/
theorem GL.split {ops : Array Oper} {R : Exit → Asr} {rest : List Oper} {i : Nat} {b : Bool} (hi : look env i = some (.bool b)) (ht : b = true → GL P ops R rest (St c n ((i, .bool true) :: env) G Q)) (hf : b = false → GL P ops R rest (St c n ((i, .bool false) :: env) G Q)) : GL P ops R rest (St c n env G Q) := by
  rintro a w ⟨S, he, hh, hrel⟩
  cases b
  · exact hf rfl a w ⟨S, he.over hi, hh, hrel⟩
  · exact ht rfl a w ⟨S, he.over hi, hh, hrel⟩

/-! ### guards -/
theorem wanted_yes {ops : Array Oper} {o : Oper} {j s : Nat} {want : Bool} (hg : o.guard = some (j, want)) (hj : (ops[j]?).bind (·.dst) = some s) (hs : look env s = some (.bool want)) (he : Env n env a) : Region.wanted o (yielded ops a.tmps) = true := by
  have := he.has s _ hs
  simp [Region.wanted, hg, yielded, hj, this]
theorem wanted_no {ops : Array Oper} {o : Oper} {j s : Nat} {want : Bool} (hg : o.guard = some (j, want)) (hj : (ops[j]?).bind (·.dst) = some s) (hs : look env s = some (.bool (!want))) (he : Env n env a) : Region.wanted o (yielded ops a.tmps) = false := by
  have := he.has s _ hs
  cases want <;> simp [Region.wanted, hg, yielded, hj, this]
/-- .. of an operation that itself was passed over. -/
theorem wanted_undef {ops : Array Oper} {o : Oper} {j s : Nat} {want : Bool} (hg : o.guard = some (j, want)) (hj : (ops[j]?).bind (·.dst) = some s) (hs : look env s = some undef) (he : Env n env a) : Region.wanted o (yielded ops a.tmps) = false := by
  have := he.has s _ hs
  cases want <;> simp [Region.wanted, hg, yielded, hj, this, undef]

theorem GL.stepG {ops : Array Oper} {R : Exit → Asr} {rest : List Oper} {o : Oper} {B : Asr} {j s : Nat} {want : Bool} (hg : o.guard = some (j, want)) (hj : (ops[j]?).bind (·.dst) = some s) (hs : look env s = some (.bool want)) (h : Tr P o (St c n env G Q) B) (k : GL P ops R rest B) : GL P ops R (o :: rest) (St c n env G Q) :=
  fun a w ha => wpList_step fun K hK => by
    rw [if_pos (wanted_yes hg hj hs ha.en)]
    exact h a w ha K R fun a' w' hb => hK a' w' (k a' w' hb)
theorem GL.pureG {ops : Array Oper} {R : Exit → Asr} {rest : List Oper} {op : Op} {v : Value} {j s : Nat} {want : Bool} (hj : (ops[j]?).bind (·.dst) = some s) (hs : look env s = some (.bool want)) (hd : Nat.blt d n = true) (h : Pv P n env ⟨some d, op, ty, pos, aft, some (j, want)⟩ v) (k : GL P ops R rest (St c n ((d, v) :: env) G Q)) :
    GL P ops R (⟨some d, op, ty, pos, aft, some (j, want)⟩ :: rest) (St c n env G Q) := GL.stepG rfl hj hs (Tr.val hd h) k
theorem GL.pass {ops : Array Oper} {R : Exit → Asr} {rest : List Oper} {op : Op} {j s : Nat} {want : Bool} (hj : (ops[j]?).bind (·.dst) = some s) (hs : look env s = some (.bool (!want))) (hd : Nat.blt d n = true) (k : GL P ops R rest (St c n ((d, undef) :: env) G Q)) :
    GL P ops R (⟨some d, op, ty, pos, aft, some (j, want)⟩ :: rest) (St c n env G Q) := fun a w ha =>
  wpList_skip (wanted_no rfl hj hs ha.en) (k _ w (ha.keep (Fr.refl _ _) (ha.en.put hd _)))
theorem GL.passU {ops : Array Oper} {R : Exit → Asr} {rest : List Oper} {op : Op} {j s : Nat} {want : Bool} (hj : (ops[j]?).bind (·.dst) = some s) (hs : look env s = some undef) (hd : Nat.blt d n = true) (k : GL P ops R rest (St c n ((d, undef) :: env) G Q)) :
    GL P ops R (⟨some d, op, ty, pos, aft, some (j, want)⟩ :: rest) (St c n env G Q) := fun a w ha =>
  wpList_skip (wanted_undef rfl hj hs ha.en) (k _ w (ha.keep (Fr.refl _ _) (ha.en.put hd _)))

end
end Go.Sx
