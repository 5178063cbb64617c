/- REGIONS THAT DRAW THEIR ORDER: one walk of the text's order where all is read (GQ), or every order that may come up (GA). Plain definitions and theorems over any program. -/
import Derived.Test.YtmjfkjajedhciaaSx5
import Derived.Deep.Quiet
set_option linter.unusedVariables false
set_option linter.unusedSimpArgs false
namespace Go.Sx
open Go

def Mem (c : Cx) (G : List Own) (Q : List Pers) (w : World) : Prop := ∃ S, Heap S G Q w ∧ Rel c S G w
theorem Mem.of {c : Cx} {n : Nat} {env : List (Nat × Value)} {G : List Own} {Q : List Pers} {a : Act} {w : World} (h : St c n env G Q a w) : Mem c G Q w := by obtain ⟨S, _, hh, hr⟩ := h; exact ⟨S, hh, hr⟩
theorem Mem.st {c : Cx} {n : Nat} {env : List (Nat × Value)} {G : List Own} {Q : List Pers} {a : Act} {w : World} (h : Mem c G Q w) (he : Env n env a) : St c n env G Q a w := by obtain ⟨S, hh, hr⟩ := h; exact ⟨S, he, hh, hr⟩
theorem Mem.keep {c : Cx} {G : List Own} {Q : List Pers} {w w' : World} (h : Mem c G Q w) (hf : Fr [] w w') : Mem c G Q w' := by
  obtain ⟨S, hh, hrel⟩ := h
  exact ⟨S, hh.move fun k hlt _ => hf.block k hlt (by simp), hrel.step hf (by simp) (fun _ _ _ => Iff.rfl) fun k hk => .inl hk⟩
theorem Mem.own {c : Cx} {G : List Own} {Q : List Pers} {w : World} {i : Nat} {o : Own} (h : Mem c G Q w) (hi : nthO G i = some o) : o.holds w := by obtain ⟨S, hh, _⟩ := h; exact hh.own o (nthO_mem hi)
theorem Mem.per {c : Cx} {G : List Own} {Q : List Pers} {w : World} {i : Nat} {q : Pers} (h : Mem c G Q w) (hi : nthO Q i = some q) : ∃ S, q.h w S := by obtain ⟨S, hh, _⟩ := h; exact ⟨S, hh.per q (nthO_mem hi)⟩

section
variable {P : Program} {c : Cx} {n : Nat} {env env' : List (Nat × Value)} {G G' Gr : List Own} {Q Q' : List Pers} {d : Nat} {ty : TypeId} {pos : String} {aft : Array Edge} {g : Option (Nat × Bool)} {x y : Operand} {t : TypeId} {a a' : Act} {w w' : World}

/-! ### all is read: one walk -/
def GQ (P : Program) (c : Cx) (n : Nat) (G : List Own) (Q : List Pers) (ops : Array Oper) (l : List Oper) (env : List (Nat × Value)) (M : List (Nat × Value) → Prop) : Prop :=
  ∀ a, Env n env a → wpQuiet P ops (Mem c G Q) (fun a' => ∃ env', Env n env' a' ∧ M env') l a

theorem GQ.nil {ops : Array Oper} {M : List (Nat × Value) → Prop} (h : M env) : GQ P c n G Q ops [] env M := fun a ha => wpQuiet_nil ⟨env, ha, h⟩

/-- An operation's value in every world of the memory at hand. -/
def Pq (P : Program) (c : Cx) (n : Nat) (G : List Own) (Q : List Pers) (env : List (Nat × Value)) (o : Oper) (v : Value) : Prop := ∀ a w, Env n env a → Mem c G Q w → o.quietAt P a (Mem c G Q) w v

theorem GQ.step {ops : Array Oper} {rest : List Oper} {op : Op} {v : Value} {M : List (Nat × Value) → Prop} (hd : Nat.blt d n = true) (h : Pq P c n G Q env ⟨some d, op, ty, pos, aft, none⟩ v) (k : GQ P c n G Q ops rest ((d, v) :: env) M) : GQ P c n G Q ops (⟨some d, op, ty, pos, aft, none⟩ :: rest) env M := fun a ha =>
  wpQuiet_step fun K hK => by
    rw [if_pos (by simp [Region.wanted])]
    exact ⟨v, fun w hw => h a w ha hw, hK _ (k _ (ha.put hd v))⟩
theorem GQ.stepG {ops : Array Oper} {rest : List Oper} {op : Op} {v : Value} {M : List (Nat × Value) → Prop} {j s : Nat} {want : Bool} (hj : (ops[j]?).bind (·.dst) = some s) (hs : look env s = some (.bool want)) (hd : Nat.blt d n = true) (h : Pq P c n G Q env ⟨some d, op, ty, pos, aft, some (j, want)⟩ v) (k : GQ P c n G Q ops rest ((d, v) :: env) M) :
    GQ P c n G Q ops (⟨some d, op, ty, pos, aft, some (j, want)⟩ :: rest) env M := fun a ha =>
  wpQuiet_step fun K hK => by
    rw [if_pos (wanted_yes rfl hj hs ha)]
    exact ⟨v, fun w hw => h a w ha hw, hK _ (k _ (ha.put hd v))⟩
theorem GQ.pass {ops : Array Oper} {rest : List Oper} {op : Op} {M : List (Nat × Value) → Prop} {j s : Nat} {want : Bool} (hj : (ops[j]?).bind (·.dst) = some s) (hs : look env s = some (.bool (!want))) (hd : Nat.blt d n = true) (k : GQ P c n G Q ops rest ((d, undef) :: env) M) :
    GQ P c n G Q ops (⟨some d, op, ty, pos, aft, some (j, want)⟩ :: rest) env M := fun a ha =>
  wpQuiet_step fun K hK => by
    rw [if_neg (by rw [wanted_no rfl hj hs ha]; simp)]
    exact hK _ (k _ (ha.put hd undef))
theorem GQ.passU {ops : Array Oper} {rest : List Oper} {op : Op} {M : List (Nat × Value) → Prop} {j s : Nat} {want : Bool} (hj : (ops[j]?).bind (·.dst) = some s) (hs : look env s = some undef) (hd : Nat.blt d n = true) (k : GQ P c n G Q ops rest ((d, undef) :: env) M) :
    GQ P c n G Q ops (⟨some d, op, ty, pos, aft, some (j, want)⟩ :: rest) env M := fun a ha =>
  wpQuiet_step fun K hK => by
    rw [if_neg (by rw [wanted_undef rfl hj hs ha]; simp)]
    exact hK _ (k _ (ha.put hd undef))
theorem GQ.split {ops : Array Oper} {rest : List Oper} {M : List (Nat × Value) → Prop} {i : Nat} {b : Bool} (hi : look env i = some (.bool b)) (ht : b = true → GQ P c n G Q ops rest ((i, .bool true) :: env) M) (hf : b = false → GQ P c n G Q ops rest ((i, .bool false) :: env) M) : GQ P c n G Q ops rest env M := by
  intro a he
  cases b
  · exact hf rfl a (he.over hi)
  · exact ht rfl a (he.over hi)

theorem q_pure {o : Oper} {v : Value} (h : Pv P n env o v) : Pq P c n G Q env o v := fun a w he hm => by
  unfold Oper.quietAt
  rw [h a w he]
  exact ⟨rfl, rfl⟩
/-- A value that is read: in every world of the memory at hand, and the world stays. -/
def Pm (P : Program) (c : Cx) (n : Nat) (G : List Own) (Q : List Pers) (env : List (Nat × Value)) (o : Oper) (v : Value) : Prop := ∀ a w, Env n env a → Mem c G Q w → (execOp a.eval o).run P w = .ok (.value v) w
theorem q_mem {o : Oper} {v : Value} (h : Pm P c n G Q env o v) : Pq P c n G Q env o v := fun a w he hm => by
  unfold Oper.quietAt
  rw [h a w he hm]
  exact ⟨rfl, rfl⟩
theorem t_mem {op : Op} {v : Value} (hd : Nat.blt d n = true) (h : Pm P c n G Q env ⟨some d, op, ty, pos, aft, g⟩ v) : Tr P ⟨some d, op, ty, pos, aft, g⟩ (St c n env G Q) (St c n ((d, v) :: env) G Q) := fun a w hs K R hk => by
  unfold Oper.wp
  rw [h a w hs.en (Mem.of hs)]
  exact hk _ _ (hs.keep (Fr.refl _ _) (hs.en.put hd _))
theorem Pm.load {p : Addr} {v : Value} (hx : ev env x = some (.pointer (some p))) (h : ∀ w, Mem c G Q w → (loadVar t p).run P w = .ok v w) : Pm P c n G Q env ⟨some d, .load t x, ty, pos, aft, g⟩ v := fun a w he hm => by
  simp only [execOp, he.eval hx, Instr.loadAt, Instr.sureAddr, Sem.run_bind, Sem.run_pure, Result.andThen_ok, h w hm]
theorem m_load {i b o : Nat} {l : List Value} {e : TypeId} {v : Value} (hi : nthO G i = some (.cells b l e)) (hx : ev env x = some (.pointer (some ⟨b, o, none⟩))) (hg : aggB P t = some false) (hv : nth l o = some v) : Pm P c n G Q env ⟨some d, .load t x, ty, pos, aft, g⟩ v :=
  Pm.load hx fun w hs => run_loadVar_one hg (by
    have hb : w.heap[b]? = some (.cells l.toArray e (0, 0)) := hs.own hi
    rw [nth_eq] at hv
    simp [World.cell?, hb, hv])
theorem m_loadN {i b o : Nat} {l vs : List Value} {e : TypeId} (hi : nthO G i = some (.cells b l e)) (hx : ev env x = some (.pointer (some ⟨b, o, none⟩))) (hg : aggB P t = some true) (hs : sizeB P t = some vs.length) (hv : at_ l o vs) : Pm P c n G Q env ⟨some d, .load t x, ty, pos, aft, g⟩ (.agg vs.toArray) :=
  Pm.load hx fun w hst => run_loadVar_agg hg hs (cellsAt_blk (hst.own hi) (at_get hv))
theorem m_loadP {i o : Nat} {p : Addr} {l : List Value} {v : Value} (hi : nthO Q i = some (Pers.at p l)) (hx : ev env x = some (.pointer (some (p.add o)))) (hg : aggB P t = some false) (hv : nth l o = some v) : Pm P c n G Q env ⟨some d, .load t x, ty, pos, aft, g⟩ v :=
  Pm.load hx fun w hs => run_loadVar_one hg (by
    obtain ⟨S, _, _, hc⟩ := hs.per hi
    rw [nth_eq] at hv
    exact hc o v hv)
theorem m_loadPN {i o : Nat} {p : Addr} {l vs : List Value} (hi : nthO Q i = some (Pers.at p l)) (hx : ev env x = some (.pointer (some (p.add o)))) (hg : aggB P t = some true) (hs : sizeB P t = some vs.length) (hv : at_ l o vs) : Pm P c n G Q env ⟨some d, .load t x, ty, pos, aft, g⟩ (.agg vs.toArray) :=
  Pm.load hx fun w hst => run_loadVar_agg hg hs (by
    obtain ⟨S, _, _, hc⟩ := hst.per hi
    intro j u hj
    rw [add_add]
    exact hc _ u (at_get hv j u hj))
/-- A call of a function that only reads, and whose result is fixed. -/
theorem q_call {f : FuncId} {xs : List Operand} {vs : List Value} {ts : Array TypeId} {js : List Nat} {Q1 : List Pers} {v : Value} (hf : Ent P f) (hx : evs env xs = some vs) (hq : pickQ Q js = some Q1) (h : Ct P f vs [] Q1 (fun u G2 Q2 => u = v ∧ G2 = [] ∧ Q2 = [])) :
    Pq P c n G Q env ⟨some d, .call { callee := .value (.func f), args := xs.toArray, argTypes := ts }, ty, pos, aft, g⟩ v := fun a w he hm => by
  unfold Oper.quietAt
  rw [run_call hf hx a w he]
  refine ⟨rfl, ?_⟩
  obtain ⟨S, hh, hrel⟩ := hm
  refine (h w S ⟨by simp, by simp [keysOf], by simp [keysOf], fun q hq' => hh.per q (pickQ_mem hq q hq')⟩).mono ?_
  rintro e w' ⟨u, G2, Q2, S', rfl, ⟨rfl, rfl, rfl⟩, _, hfr, _⟩
  exact ⟨rfl, Mem.keep ⟨S, hh, hrel⟩ hfr⟩
/-- .. that reads what is owned (given to it and handed back). -/
theorem q_callO {f : FuncId} {xs : List Operand} {vs : List Value} {ts : Array TypeId} {is js : List Nat} {G1 : List Own} {Q1 : List Pers} {v : Value} (hf : Ent P f) (hx : evs env xs = some vs) (hsel : sel G is = some (G1, Gr)) (hq : pickQ Q js = some Q1) (h : Ct P f vs G1 Q1 (fun u G2 Q2 => u = v ∧ G2 = G1 ∧ Q2 = [])) :
    Pq P c n G Q env ⟨some d, .call { callee := .value (.func f), args := xs.toArray, argTypes := ts }, ty, pos, aft, g⟩ v := fun a w he hm => by
  unfold Oper.quietAt
  rw [run_call hf hx a w he]
  refine ⟨rfl, ?_⟩
  obtain ⟨S, hh, hrel⟩ := hm
  have hp := sel_perm hsel
  have hh1 := hh.perm hp
  have hrel1 := hrel.perm hp
  refine (h w S (hh1.sub (List.sublist_append_left _ _) (pickQ_mem hq))).mono ?_
  rintro e w' ⟨u, G2, Q2, S', rfl, ⟨rfl, rfl, rfl⟩, h', hfr, hS, hk⟩
  refine ⟨rfl, ?_⟩
  have h1 := St.called (n := n) (env := env) (a' := a) hh1 hrel1 h' hfr hS hk he
  obtain ⟨S2, _, h2, h3⟩ := h1
  exact ⟨S2, by rw [List.nil_append] at h2; exact h2.perm hp.symm, h3.perm hp.symm⟩

theorem GC.regionQ {R : Exit → Asr} {id : Nat} {l : List Oper} (hm : P.follows .mixedOrders = true) (hB : Region.lexB .any l.toArray = true) (h : GQ P c n G Q l.toArray l env (fun env' => ∀ a w, St c n env' G Q a w → R .normal a w)) : GC P R (.region id l.toArray true) (St c n env G Q) := fun a w ha => by
  refine wp_region_quiet (C := Mem c G Q) hm hB ((Mem.of ha).keep (Fr.drew [] w)) ?_
  have := h a ha.en
  simp only
  have key : ∀ (l' : List Oper) (a : Act) (F F' : Act → Prop), (∀ a, F a → F' a) → wpQuiet P l.toArray (Mem c G Q) F l' a → wpQuiet P l.toArray (Mem c G Q) F' l' a := by
    intro l'
    induction l' with
    | nil => exact fun a F F' hF h => hF a h
    | cons o r ih =>
      intro a F F' hF h
      simp only [wpQuiet] at h ⊢
      split
      · rename_i hw; rw [if_pos hw] at h; exact Oper.quiet_mono (fun a => ih a F F' hF) h
      · rename_i hw; rw [if_neg hw] at h; exact ih _ F F' hF h
  exact key l a _ _ (fun a' ⟨env', he', hM⟩ w' hw' => hM a' w' (hw'.st he')) this

/-! ### every order -/
def onlyN (M : Asr) : Exit → Asr
  | .normal => M
  | _ => fun _ _ => False

def GA (P : Program) (ops : Array Oper) (M : Asr) (I : World → Prop) (fuel : Nat) (listed : Array Bool) (A : Asr) : Prop := ∀ a w, A a w → wpAnyH P .any ops (onlyN M) I fuel listed a w

theorem GC.regionA {R : Exit → Asr} {A M : Asr} {I : World → Prop} {id m : Nat} {l : List Oper} (hm : P.follows .mixedOrders = true) (hsz : l.length = m) (hA : ∀ a w, A a w → A a w.drew) (h : GA P l.toArray M I m (Array.replicate m false) A) (k : ∀ a w, M a w → R .normal a w) : GC P R (.region id l.toArray true) A := fun a w ha => by
  refine Code.wp_mono (fun e a w he => ?_) (wp_region_held (Q := onlyN M) (S := I) hm ?_)
  · cases e <;> first | exact k _ _ he | exact he.elim
  · subst hsz
    have := h a _ (hA a w ha)
    simpa using this
theorem St.drew (h : St c n env G Q a w) : St c n env G Q a w.drew := h.keep (Fr.drew [] w) h.en

theorem GC.regionM {R : Exit → Asr} {M : Asr} {id m : Nat} {l : List Oper} {is js : List Nat} {GI : List Own} {QI : List Pers} (hm : P.follows .mixedOrders = true) (hsz : l.length = m) (hsel : sel G is = some (GI, Gr)) (hq : pickQ Q js = some QI) (h : GA P l.toArray M (Mem c GI QI) m (Array.replicate m false) (St c n env G Q)) (k : ∀ a w, M a w → R .normal a w) : GC P R (.region id l.toArray true) (St c n env G Q) :=
  GC.regionA hm hsz (fun a w h => h.drew) h k

variable {ops : Array Oper} {M A B : Asr} {I : World → Prop} {fuel : Nat} {listed : Array Bool}

theorem GA.done (hr : Region.ready .any ops listed = []) (h : ∀ a w, A a w → M a w) : GA P ops M I fuel listed A := fun a w ha => wpAnyH_done hr (h a w ha) fuel
theorem GA.ex {α : Type} {F : α → Asr} (k : ∀ x, GA P ops M I fuel listed (F x)) : GA P ops M I fuel listed (fun a w => ∃ x, F x a w) := fun a w ⟨x, hx⟩ => k x a w hx
theorem GA.imp (h : ∀ a w, A a w → B a w) (k : GA P ops M I fuel listed B) : GA P ops M I fuel listed A := fun a w ha => k a w (h a w ha)
theorem GA.split {i : Nat} {b : Bool} (hi : look env i = some (.bool b)) (ht : b = true → GA P ops M I fuel listed (St c n ((i, .bool true) :: env) G Q)) (hf : b = false → GA P ops M I fuel listed (St c n ((i, .bool false) :: env) G Q)) : GA P ops M I fuel listed (St c n env G Q) := by
  rintro a w ⟨S, he, hh, hrel⟩
  cases b
  · exact hf rfl a w ⟨S, he.over hi, hh, hrel⟩
  · exact ht rfl a w ⟨S, he.over hi, hh, hrel⟩

/-- An operation's value in every world that meets I. -/
def Pi (P : Program) (n : Nat) (I : World → Prop) (env : List (Nat × Value)) (o : Oper) (v : Value) : Prop := ∀ a w, Env n env a → I w → (execOp a.eval o).run P w = .ok (.value v) w
theorem i_pure {o : Oper} {v : Value} (h : Pv P n env o v) : Pi P n I env o v := fun a w he _ => h a w he
theorem i_mem {c' : Cx} {GI : List Own} {QI : List Pers} {v : Value} {o : Oper} (h : Pm P c' n GI QI env o v) : Pi P n (Mem c' GI QI) env o v := fun a w he hI => h a w he hI

/-- Taken first: it reads alone. -/
theorem GA.take {op : Op} {v : Value} (i : Nat) (hi : ops[i]? = some ⟨some d, op, ty, pos, aft, none⟩) (hs : Region.noSelect ops = true) (hf : Region.free .any ops listed i = true) (hr : (Region.ready .any ops listed).contains i = true) (hd : Nat.blt d n = true) (hI : ∀ a w, St c n env G Q a w → I w)
    (h : Pi P n I env ⟨some d, op, ty, pos, aft, none⟩ v) (k : GA P ops M I fuel (listed.setIfInBounds i true) (St c n ((d, v) :: env) G Q)) : GA P ops M I (fuel + 1) listed (St c n env G Q) := fun a w ha =>
  wpAnyH_take hi hs hf hr (fun _ _ _ h => h) (.inl ⟨by simp [Region.wanted], fun w' hw' => h a w' ha.en hw'⟩) (hI a w ha) (k _ w (ha.keep (Fr.refl _ _) (ha.en.put hd v)))
theorem GA.takeG {op : Op} {v : Value} {j s : Nat} {want : Bool} (i : Nat) (hi : ops[i]? = some ⟨some d, op, ty, pos, aft, some (j, want)⟩) (hj : (ops[j]?).bind (·.dst) = some s) (hs' : look env s = some (.bool want)) (hs : Region.noSelect ops = true) (hf : Region.free .any ops listed i = true) (hr : (Region.ready .any ops listed).contains i = true) (hd : Nat.blt d n = true) (hI : ∀ a w, St c n env G Q a w → I w)
    (h : Pi P n I env ⟨some d, op, ty, pos, aft, some (j, want)⟩ v) (k : GA P ops M I fuel (listed.setIfInBounds i true) (St c n ((d, v) :: env) G Q)) : GA P ops M I (fuel + 1) listed (St c n env G Q) := fun a w ha =>
  wpAnyH_take hi hs hf hr (fun _ _ _ h => h) (.inl ⟨wanted_yes rfl hj hs' ha.en, fun w' hw' => h a w' ha.en hw'⟩) (hI a w ha) (k _ w (ha.keep (Fr.refl _ _) (ha.en.put hd v)))
theorem GA.takeX {op : Op} {j s : Nat} {want : Bool} (i : Nat) (hi : ops[i]? = some ⟨some d, op, ty, pos, aft, some (j, want)⟩) (hj : (ops[j]?).bind (·.dst) = some s) (hs' : look env s = some (.bool (!want))) (hs : Region.noSelect ops = true) (hf : Region.free .any ops listed i = true) (hr : (Region.ready .any ops listed).contains i = true) (hd : Nat.blt d n = true) (hI : ∀ a w, St c n env G Q a w → I w)
    (k : GA P ops M I fuel (listed.setIfInBounds i true) (St c n ((d, undef) :: env) G Q)) : GA P ops M I (fuel + 1) listed (St c n env G Q) := fun a w ha =>
  wpAnyH_take hi hs hf hr (fun _ _ _ h => h) (.inr ⟨wanted_no rfl hj hs' ha.en, rfl⟩) (hI a w ha) (k _ w (ha.keep (Fr.refl _ _) (ha.en.put hd undef)))
theorem GA.takeU {op : Op} {j s : Nat} {want : Bool} (i : Nat) (hi : ops[i]? = some ⟨some d, op, ty, pos, aft, some (j, want)⟩) (hj : (ops[j]?).bind (·.dst) = some s) (hs' : look env s = some undef) (hs : Region.noSelect ops = true) (hf : Region.free .any ops listed i = true) (hr : (Region.ready .any ops listed).contains i = true) (hd : Nat.blt d n = true) (hI : ∀ a w, St c n env G Q a w → I w)
    (k : GA P ops M I fuel (listed.setIfInBounds i true) (St c n ((d, undef) :: env) G Q)) : GA P ops M I (fuel + 1) listed (St c n env G Q) := fun a w ha =>
  wpAnyH_take hi hs hf hr (fun _ _ _ h => h) (.inr ⟨wanted_undef rfl hj hs' ha.en, rfl⟩) (hI a w ha) (k _ w (ha.keep (Fr.refl _ _) (ha.en.put hd undef)))

/-- Those that may come up, one by one. -/
def GAs (P : Program) (ops : Array Oper) (M : Asr) (I : World → Prop) (fuel : Nat) (listed : Array Bool) (A : Asr) (rs : List Nat) : Prop :=
  ∀ i ∈ rs, ∀ a w, A a w → wpOp P ops (onlyN M) i (fun a' w' => I w' ∧ wpAnyH P .any ops (onlyN M) I fuel (listed.setIfInBounds i true) a' w') a w
theorem GA.all {rs : List Nat} (hr : Region.ready .any ops listed = rs) (hne : rs ≠ []) (h : GAs P ops M I fuel listed A rs) : GA P ops M I (fuel + 1) listed A := fun a w ha => wpAnyH_all hr hne fun i hi => h i hi a w ha
theorem GAs.nil : GAs P ops M I fuel listed A [] := fun i hi => by cases hi
theorem GAs.cons {o : Oper} {i : Nat} {rs : List Nat} (hi : ops[i]? = some o) (hg : o.guard = none) (h : Tr P o A B) (hI : ∀ a w, B a w → I w) (k : GA P ops M I fuel (listed.setIfInBounds i true) B) (r : GAs P ops M I fuel listed A rs) : GAs P ops M I fuel listed A (i :: rs) := by
  intro j hj a w ha
  rcases List.mem_cons.1 hj with rfl | hj
  · unfold wpOp
    rw [hi]
    simp only [Region.wanted, hg, if_true]
    exact .inl (h a w ha _ _ fun a' w' hb => ⟨hI _ _ hb, k a' w' hb⟩)
  · exact r j hj a w ha
theorem GAs.consG {o : Oper} {i j s : Nat} {want : Bool} {rs : List Nat} (hi : ops[i]? = some o) (hg : o.guard = some (j, want)) (hj : (ops[j]?).bind (·.dst) = some s) (hs : look env s = some (.bool want)) (h : Tr P o (St c n env G Q) B) (hI : ∀ a w, B a w → I w) (k : GA P ops M I fuel (listed.setIfInBounds i true) B) (r : GAs P ops M I fuel listed (St c n env G Q) rs) : GAs P ops M I fuel listed (St c n env G Q) (i :: rs) := by
  intro j' hj' a w ha
  rcases List.mem_cons.1 hj' with rfl | hj'
  · unfold wpOp
    rw [hi]
    simp only [wanted_yes hg hj hs ha.en, if_true]
    exact .inl (h a w ha _ _ fun a' w' hb => ⟨hI _ _ hb, k a' w' hb⟩)
  · exact r j' hj' a w ha

end
end Go.Sx
