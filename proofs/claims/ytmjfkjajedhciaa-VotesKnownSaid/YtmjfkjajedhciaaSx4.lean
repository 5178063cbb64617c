/- ONE OPERATION AT A TIME: memory (new variables, loads, stores, elements, new slices, append), calls by contract, the end of a function. Plain definitions and theorems over any program. -/
import Derived.Test.YtmjfkjajedhciaaSx3
import Derived.Maps.AppendAt
set_option linter.unusedVariables false
set_option linter.unusedSimpArgs false
namespace Go.Sx
open Go

/-! ### lists by place -/
def nthO {α : Type} : List α → Nat → Option α
  | [], _ => none
  | x :: _, 0 => some x
  | _ :: r, n + 1 => nthO r n
theorem nthO_mem {α : Type} : ∀ {l : List α} {i : Nat} {x : α}, nthO l i = some x → x ∈ l
  | [], i, x, h => by simp [nthO] at h
  | y :: r, 0, x, h => by simp only [nthO, Option.some.injEq] at h; subst h; exact List.mem_cons_self
  | y :: r, i + 1, x, h => List.mem_cons_of_mem _ (nthO_mem (l := r) (i := i) h)
def repl {α : Type} : List α → Nat → α → Option (List α)
  | [], _, _ => none
  | _ :: r, 0, x => some (x :: r)
  | y :: r, i + 1, x => (repl r i x).map (y :: ·)
theorem repl_split {α : Type} : ∀ {l l' : List α} {i : Nat} {x y : α}, nthO l i = some x → repl l i y = some l' → ∃ a b, l = a ++ x :: b ∧ l' = a ++ y :: b
  | [], l', i, x, y, h, _ => by simp [nthO] at h
  | z :: r, l', 0, x, y, h, h' => by
    simp only [nthO, Option.some.injEq] at h
    simp only [repl, Option.some.injEq] at h'
    exact ⟨[], r, by simp [h], by simp [← h']⟩
  | z :: r, l', i + 1, x, y, h, h' => by
    simp only [repl, Option.map_eq_some_iff] at h'
    obtain ⟨m, hm, rfl⟩ := h'
    obtain ⟨a, b, rfl, rfl⟩ := repl_split (l := r) (i := i) h hm
    exact ⟨z :: a, b, rfl, rfl⟩
def takeO {α : Type} : List α → Nat → Option (α × List α)
  | [], _ => none
  | x :: r, 0 => some (x, r)
  | y :: r, i + 1 => (takeO r i).map fun p => (p.1, y :: p.2)
theorem takeO_perm {α : Type} : ∀ {l r : List α} {i : Nat} {x : α}, takeO l i = some (x, r) → l.Perm (x :: r)
  | [], r, i, x, h => by simp [takeO] at h
  | y :: t, r, 0, x, h => by simp only [takeO, Option.some.injEq, Prod.mk.injEq] at h; obtain ⟨rfl, rfl⟩ := h; exact .refl _
  | y :: t, r, i + 1, x, h => by
    simp only [takeO, Option.map_eq_some_iff] at h
    obtain ⟨⟨z, s⟩, hs, he⟩ := h
    simp only [Prod.mk.injEq] at he
    obtain ⟨rfl, rfl⟩ := he
    exact ((takeO_perm hs).cons y).trans (.swap _ _ _)
/-- Some taken out, one after another (each place counted in what is left), and what stays. -/
def sel {α : Type} : List α → List Nat → Option (List α × List α)
  | l, [] => some ([], l)
  | l, i :: is => match takeO l i with
    | none => none
    | some (x, r) => (sel r is).map fun p => (x :: p.1, p.2)
theorem sel_perm {α : Type} : ∀ {is : List Nat} {l a b : List α}, sel l is = some (a, b) → l.Perm (a ++ b)
  | [], l, a, b, h => by simp only [sel, Option.some.injEq, Prod.mk.injEq] at h; obtain ⟨rfl, rfl⟩ := h; exact .refl _
  | i :: is, l, a, b, h => by
    simp only [sel] at h
    cases ht : takeO l i with
    | none => simp [ht] at h
    | some p =>
      obtain ⟨x, r⟩ := p
      simp only [ht, Option.map_eq_some_iff] at h
      obtain ⟨⟨a', b'⟩, hs, he⟩ := h
      simp only [Prod.mk.injEq] at he
      obtain ⟨rfl, rfl⟩ := he
      exact (takeO_perm ht).trans ((sel_perm hs).cons x)
/-- Those at the places. -/
def pickQ {α : Type} (l : List α) : List Nat → Option (List α)
  | [] => some []
  | i :: is => match nthO l i, pickQ l is with
    | some x, some r => some (x :: r)
    | _, _ => none
theorem pickQ_mem {α : Type} {l : List α} : ∀ {is : List Nat} {r : List α}, pickQ l is = some r → ∀ x ∈ r, x ∈ l
  | [], r, h => by simp only [pickQ, Option.some.injEq] at h; subst h; simp
  | i :: is, r, h => by
    simp only [pickQ] at h
    split at h
    · rename_i x s h1 h2
      simp only [Option.some.injEq] at h
      subst h
      intro y hy
      rcases List.mem_cons.1 hy with rfl | hy
      · exact nthO_mem h1
      · exact pickQ_mem h2 y hy
    · cases h

/-! ### one owned thing is written -/
theorem mem_keys_split {a b : List Own} {x : Own} {k : Nat} : k ∈ keysOf (a ++ x :: b) ↔ k ∈ keysOf a ∨ k ∈ x.keys ∨ k ∈ keysOf b := by simp [keysOf]

theorem Heap.write {S : Blocks} {G G' : List Own} {Q : List Pers} {w w' : World} {i : Nat} {o o' : Own} (h : Heap S G Q w) (hi : nthO G i = some o) (hr : repl G i o' = some G')
    (hf : Fr o.keys w w') (ho : o'.holds w') (hfresh : ∀ k ∈ o'.keys, k ∈ o.keys ∨ w.heap.size ≤ k) (hn : o'.keys.Nodup) : Heap (fun k => S k ∧ k ∉ o'.keys) G' Q w' := by
  obtain ⟨a, b, rfl, rfl⟩ := repl_split hi hr
  have hn0 : (keysOf a ++ (o.keys ++ keysOf b)).Nodup := by have := h.nod; simpa [keysOf] using this
  rw [List.nodup_append] at hn0
  obtain ⟨na, nob, dab⟩ := hn0
  rw [List.nodup_append] at nob
  obtain ⟨no, nb, dob⟩ := nob
  have lta : ∀ k ∈ keysOf a, k < w.heap.size := fun k hk => h.lt (mem_keys_split.2 (.inl hk))
  have ltb : ∀ k ∈ keysOf b, k < w.heap.size := fun k hk => h.lt (mem_keys_split.2 (.inr (.inr hk)))
  have naO : ∀ k ∈ keysOf a, k ∉ o.keys := fun k hk ho => dab k hk k (List.mem_append_left _ ho) rfl
  have nbO : ∀ k ∈ keysOf b, k ∉ o.keys := fun k hk ho => dob k ho k hk rfl
  have other : ∀ k, k ∈ keysOf a ∨ k ∈ keysOf b → k ∉ o'.keys := by
    intro k hk ho'
    have hlt : k < w.heap.size := hk.elim (lta k) (ltb k)
    rcases hfresh k ho' with h1 | h1
    · exact hk.elim (fun x => naO k x h1) (fun x => nbO k x h1)
    · omega
  constructor
  · intro x hx
    rcases List.mem_append.1 hx with hx | hx
    · exact Own.move (h.own x (by simp [hx])) fun k hkk => hf.block k (Own.lt (h.own x (by simp [hx])) hkk) (naO k (mem_keysOf.2 ⟨x, hx, hkk⟩))
    · rcases List.mem_cons.1 hx with rfl | hx
      · exact ho
      · exact Own.move (h.own x (by simp [hx])) fun k hkk => hf.block k (Own.lt (h.own x (by simp [hx])) hkk) (nbO k (mem_keysOf.2 ⟨x, hx, hkk⟩))
  · have : (keysOf a ++ (o'.keys ++ keysOf b)).Nodup := by
      rw [List.nodup_append]
      refine ⟨na, ?_, fun k hk l hl e => ?_⟩
      · rw [List.nodup_append]
        exact ⟨hn, nb, fun k hk l hl e => other l (.inr hl) (e ▸ hk)⟩
      · subst e
        rcases List.mem_append.1 hl with hl | hl
        · exact other k (.inl hk) hl
        · exact dab k hk k (List.mem_append_right _ hl) rfl
    simpa [keysOf] using this
  · intro k hkk hS
    rcases mem_keys_split.1 hkk with hkk | hkk | hkk
    · exact h.out k (mem_keys_split.2 (.inl hkk)) hS.1
    · exact hS.2 hkk
    · exact h.out k (mem_keys_split.2 (.inr (.inr hkk))) hS.1
  · intro q hq
    refine q.st (h.per q hq) fun k hS hlt => ?_
    have hno : k ∉ o.keys := fun hko => h.out k (mem_keys_split.2 (.inr (.inl hko))) hS
    refine ⟨⟨hS, fun hko' => ?_⟩, hf.block k hlt hno⟩
    rcases hfresh k hko' with h1 | h1
    · exact hno h1
    · omega

theorem Rel.step {c : Cx} {S S' : Blocks} {G G' : List Own} {w w' : World} {L : List Nat} (h : Rel c S G w) (hf : Fr L w w') (hL : ∀ k ∈ L, k ∈ keysOf G)
    (hS : ∀ k, k < w.heap.size → k ∉ L → (S' k ↔ S k)) (hG : ∀ k ∈ keysOf G', k ∈ keysOf G ∨ w.heap.size ≤ k) : Rel c S' G' w' := by
  have key : ∀ k, k < c.w0.heap.size → k ∉ c.L0 → k ∉ L := fun k hlt hn hl => by
    rcases h.key k (hL k hl) with h1 | h1
    · exact hn h1
    · omega
  have le := h.fr.size
  exact {
    fr := ⟨hf.os.trans h.fr.os, hf.tape.trans h.fr.tape, hf.output.trans h.fr.output, Nat.le_trans le hf.size, fun k hlt hn => (hf.block k (by omega) (key k hlt hn)).trans (h.fr.block k hlt hn)⟩
    old := fun k hlt hn => (hS k (by omega) (key k hlt hn)).trans (h.old k hlt hn)
    key := fun k hk => by
      rcases hG k hk with h1 | h1
      · exact h.key k h1
      · exact .inr (by omega) }

section
variable {P : Program} {c : Cx} {n : Nat} {env env' : List (Nat × Value)} {G G' : List Own} {Q : List Pers} {a a' : Act} {w w' : World}

theorem St.write {i : Nat} {o o' : Own} (h : St c n env G Q a w) (hi : nthO G i = some o) (hr : repl G i o' = some G')
    (hf : Fr o.keys w w') (ho : o'.holds w') (hk : ∀ k ∈ o'.keys, k ∈ o.keys ∨ w.heap.size ≤ k) (hn : o'.keys.Nodup) (he : Env n env' a') : St c n env' G' Q a' w' := by
  obtain ⟨S, _, hh, hrel⟩ := h
  refine ⟨fun k => S k ∧ k ∉ o'.keys, he, hh.write hi hr hf ho hk hn, ?_⟩
  have hin : ∀ k ∈ o.keys, k ∈ keysOf G := fun k hko => mem_keysOf.2 ⟨o, nthO_mem hi, hko⟩
  refine hrel.step hf hin (fun k hlt hko => ⟨fun hs => hs.1, fun hs => ⟨hs, fun hko' => ?_⟩⟩) fun k hkk => ?_
  · rcases hk k hko' with h1 | h1
    · exact hko h1
    · omega
  · obtain ⟨x, y, rfl, rfl⟩ := repl_split hi hr
    rcases mem_keys_split.1 hkk with h1 | h1 | h1
    · exact .inl (mem_keys_split.2 (.inl h1))
    · exact (hk k h1).imp (fun h2 => mem_keys_split.2 (.inr (.inl h2))) id
    · exact .inl (mem_keys_split.2 (.inr (.inr h1)))

/-- A new block. -/
theorem St.new (h : St c n env G Q a w) (o : Obj) (he : Env n env' a') : St c n env' (.blk w.heap.size o :: G) Q a' (w.alloc o) := by
  obtain ⟨S, _, hh, hrel⟩ := h
  refine ⟨_, he, hh.alloc o, hrel.step (Fr.alloc [] w o) (by simp) (fun k hlt _ => ⟨fun hs => hs.1, fun hs => ⟨hs, Nat.ne_of_lt hlt⟩⟩) fun k hk => ?_⟩
  rcases List.mem_cons.1 (show k ∈ w.heap.size :: keysOf G from hk) with rfl | hk
  · exact .inr (Nat.le_refl _)
  · exact .inl hk

/-- Nothing but a draw, and slots. -/
theorem St.keep (h : St c n env G Q a w) (hf : Fr [] w w') (he : Env n env' a') : St c n env' G Q a' w' := by
  obtain ⟨S, _, hh, hrel⟩ := h
  exact ⟨S, he, hh.move fun k hlt _ => hf.block k hlt (by simp), hrel.step hf (by simp) (fun _ _ _ => Iff.rfl) fun k hk => .inl hk⟩

theorem St.en (h : St c n env G Q a w) : Env n env a := by obtain ⟨S, he, _⟩ := h; exact he
theorem St.own {i : Nat} {o : Own} (h : St c n env G Q a w) (hi : nthO G i = some o) : o.holds w := by obtain ⟨S, he, hh, _⟩ := h; exact hh.own o (nthO_mem hi)
theorem St.per {i : Nat} {q : Pers} (h : St c n env G Q a w) (hi : nthO Q i = some q) : ∃ S, q.h w S := by obtain ⟨S, he, hh, _⟩ := h; exact ⟨S, hh.per q (nthO_mem hi)⟩
end

section
variable {P : Program} {c : Cx} {n : Nat} {env : List (Nat × Value)} {G : List Own} {Q : List Pers} {d : Nat} {ty : TypeId} {pos : String} {aft : Array Edge} {g : Option (Nat × Bool)} {x y : Operand} {t : TypeId}

/-! ### new variables -/
theorem t_alloc {z : List Value} (hd : Nat.blt d n = true) (hz : zeroL P t = some z) : Tr P ⟨some d, .alloc t, ty, pos, aft, g⟩ (St c n env G Q)
    (fun a w => ∃ b, St c n ((d, .pointer (some ⟨b, 0, none⟩)) :: env) (.cells b z t :: G) Q a w) := by
  intro a w h K R hk
  obtain ⟨zv, hzv, rfl⟩ := Option.map_eq_some_iff.1 hz
  have hrun : (execOp a.eval ⟨some d, .alloc t, ty, pos, aft, g⟩).run P w = .ok (.value (.pointer (some ⟨w.heap.size, 0, none⟩))) (w.alloc (.cells (vcells zv).toArray t (0, 0))) := by
    have e : (vcells zv).toArray = zv.cells := by rw [← vcells_eq]
    rw [e]
    simp [execOp, Instr.alloc, run_zeroB hzv, newVar, newRow]
  unfold Oper.wp
  rw [hrun]
  exact hk _ _ ⟨w.heap.size, h.new _ (h.en.put hd _)⟩

theorem t_box {v : Value} {l : List Value} (hd : Nat.blt d n = true) (hx : ev env x = some v) (hv : v.cells.toList = l) : Tr P ⟨some d, .box t x, ty, pos, aft, g⟩ (St c n env G Q)
    (fun a w => ∃ b, St c n ((d, .pointer (some ⟨b, 0, none⟩)) :: env) (.cells b l t :: G) Q a w) := by
  intro a w h K R hk
  have hrun : (execOp a.eval ⟨some d, .box t x, ty, pos, aft, g⟩).run P w = .ok (.value (.pointer (some ⟨w.heap.size, 0, none⟩))) (w.alloc (.cells l.toArray t (0, 0))) := by
    have e : l.toArray = v.cells := by rw [← hv]
    rw [e]
    simp [execOp, h.en.eval hx, Instr.box, newVar, newRow]
  unfold Oper.wp
  rw [hrun]
  exact hk _ _ ⟨w.heap.size, h.new _ (h.en.put hd _)⟩

/-! ### loads -/
theorem run_loadVar_one {p : Addr} {v : Value} (hg : aggB P t = some false) {w : World} (hc : w.cell? p = some v) : (loadVar t p).run P w = .ok v w := by
  simp [loadVar, run_aggB hg, hc]
theorem run_loadVar_agg {p : Addr} {vs : List Value} (hg : aggB P t = some true) (hs : sizeB P t = some vs.length) {w : World} (hc : CellsAt w p vs) : (loadVar t p).run P w = .ok (.agg vs.toArray) w := by
  simp only [loadVar, Sem.run_bind, run_aggB hg, Result.andThen_ok, if_true, run_sizeB hs, run_loadCells_list w p vs hc, Sem.run_pure]

theorem Tr.load {p : Addr} {v : Value} (hd : Nat.blt d n = true) (hx : ev env x = some (.pointer (some p))) (h : ∀ a w, St c n env G Q a w → (loadVar t p).run P w = .ok v w) : Tr P ⟨some d, .load t x, ty, pos, aft, g⟩ (St c n env G Q) (St c n ((d, v) :: env) G Q) := by
  intro a w hs K R hk
  have hrun : (execOp a.eval ⟨some d, .load t x, ty, pos, aft, g⟩).run P w = .ok (.value v) w := by
    simp only [execOp, hs.en.eval hx, Instr.loadAt, Instr.sureAddr, Sem.run_bind, Sem.run_pure, Result.andThen_ok, h a w hs]
  unfold Oper.wp
  rw [hrun]
  exact hk _ _ (hs.keep (Fr.refl _ _) (hs.en.put hd _))

theorem t_load {i b o : Nat} {l : List Value} {e : TypeId} {v : Value} (hd : Nat.blt d n = true) (hi : nthO G i = some (.cells b l e)) (hx : ev env x = some (.pointer (some ⟨b, o, none⟩))) (hg : aggB P t = some false) (hv : nth l o = some v) :
    Tr P ⟨some d, .load t x, ty, pos, aft, g⟩ (St c n env G Q) (St c n ((d, v) :: env) G Q) :=
  Tr.load hd hx fun a w hs => run_loadVar_one hg (by
    have hb : w.heap[b]? = some (.cells l.toArray e (0, 0)) := hs.own hi
    rw [nth_eq] at hv
    simp [World.cell?, hb, hv])
theorem t_loadN {i b o : Nat} {l vs : List Value} {e : TypeId} (hd : Nat.blt d n = true) (hi : nthO G i = some (.cells b l e)) (hx : ev env x = some (.pointer (some ⟨b, o, none⟩))) (hg : aggB P t = some true) (hs : sizeB P t = some vs.length) (hv : at_ l o vs) :
    Tr P ⟨some d, .load t x, ty, pos, aft, g⟩ (St c n env G Q) (St c n ((d, .agg vs.toArray) :: env) G Q) :=
  Tr.load hd hx fun a w hst => run_loadVar_agg hg hs (cellsAt_blk (hst.own hi) (at_get hv))
/-- .. out of cells that are only read. -/
theorem t_loadP {i o : Nat} {p : Addr} {l : List Value} {v : Value} (hd : Nat.blt d n = true) (hi : nthO Q i = some (Pers.at p l)) (hx : ev env x = some (.pointer (some (p.add o)))) (hg : aggB P t = some false) (hv : nth l o = some v) :
    Tr P ⟨some d, .load t x, ty, pos, aft, g⟩ (St c n env G Q) (St c n ((d, v) :: env) G Q) :=
  Tr.load hd hx fun a w hs => run_loadVar_one hg (by
    obtain ⟨S, _, _, hc⟩ := hs.per hi
    rw [nth_eq] at hv
    exact hc o v hv)
theorem t_loadPN {i o : Nat} {p : Addr} {l vs : List Value} (hd : Nat.blt d n = true) (hi : nthO Q i = some (Pers.at p l)) (hx : ev env x = some (.pointer (some (p.add o)))) (hg : aggB P t = some true) (hs : sizeB P t = some vs.length) (hv : at_ l o vs) :
    Tr P ⟨some d, .load t x, ty, pos, aft, g⟩ (St c n env G Q) (St c n ((d, .agg vs.toArray) :: env) G Q) :=
  Tr.load hd hx fun a w hst => run_loadVar_agg hg hs (by
    obtain ⟨S, _, _, hc⟩ := hst.per hi
    intro j u hj
    rw [add_add]
    exact hc _ u (at_get hv j u hj))

/-! ### stores -/
theorem Fr.setRow (w : World) (b : Nat) (cs : Array Value) : Fr [b] w (w.setRow b cs) :=
  ⟨rfl, rfl, rfl, by simp, fun k hk hn => setRow_other w b k cs (by simpa using hn)⟩

theorem Tr.store {i b o : Nat} {l l' vs : List Value} {e : TypeId} {v : Value} {G' : List Own} (hi : nthO G i = some (.cells b l e)) (hx : ev env x = some (.pointer (some ⟨b, o, none⟩))) (hy : ev env y = some v) (hv : v.cells.toList = vs) (hs : sizeB P t = some vs.length) (h1 : allOne vs = true)
    (hu : upd l o vs = some l') (hr : repl G i (.cells b l' e) = some G') : Tr P ⟨none, .store t x y, ty, pos, aft, g⟩ (St c n env G Q) (St c n env G' Q) := by
  intro a w hst K R hk
  have hb : w.heap[b]? = some (.cells l.toArray e (0, 0)) := hst.own hi
  obtain ⟨he, hfit⟩ := upd_eq hu
  have hsz : v.cells.size = vs.length := by rw [← hv, Array.length_toList]
  have hrun : (execOp a.eval ⟨none, .store t x y, ty, pos, aft, g⟩).run P w = .ok .skip (w.setRow b l'.toArray) := by
    have hst' := run_storeCells_at (P := P) b o e vs 0 l.toArray w hb (by simpa using hfit) (allOne_mem h1)
    rw [Nat.add_zero] at hst'
    subst he
    simp only [execOp, hst.en.eval hx, hst.en.eval hy, Instr.storeAt, Instr.sureAddr, storeVar, Sem.run_bind, Sem.run_pure, Result.andThen_ok, run_sizeB hs, hsz, ne_eq, not_true_eq_false, if_false, hv]
    simpa using congrArg (fun r => Result.andThen r fun _ w' => Result.ok Next.skip w') hst'
  unfold Oper.wp
  rw [hrun]
  refine hk _ _ (hst.write hi hr (Fr.setRow w b _) (setRow_heap w b _ _ _ _ hb) (fun k hk => .inl hk) (by simp [Own.keys]) ?_)
  exact hst.en
theorem t_store {i b o : Nat} {l l' : List Value} {e : TypeId} {v : Value} {G' : List Own} (hi : nthO G i = some (.cells b l e)) (hx : ev env x = some (.pointer (some ⟨b, o, none⟩))) (hy : ev env y = some v) (hv : v.cells.toList = [v]) (hs : sizeB P t = some 1) (h1 : v.oneCell' = true)
    (hu : upd l o [v] = some l') (hr : repl G i (.cells b l' e) = some G') : Tr P ⟨none, .store t x y, ty, pos, aft, g⟩ (St c n env G Q) (St c n env G' Q) :=
  Tr.store hi hx hy hv hs (by simp [allOne, h1]) hu hr
theorem t_storeN {i b o : Nat} {l l' vs : List Value} {e : TypeId} {G' : List Own} (hi : nthO G i = some (.cells b l e)) (hx : ev env x = some (.pointer (some ⟨b, o, none⟩))) (hy : ev env y = some (.agg vs.toArray)) (hs : sizeB P t = some vs.length) (h1 : allOne vs = true)
    (hu : upd l o vs = some l') (hr : repl G i (.cells b l' e) = some G') : Tr P ⟨none, .store t x y, ty, pos, aft, g⟩ (St c n env G Q) (St c n env G' Q) :=
  Tr.store hi hx hy rfl hs h1 hu hr

/-! ### elements -/
theorem run_indexAt {p : Addr} {len cap sz : Nat} {k : IntKind} {m : Int} {e : TypeId} (ht : P.underlying t = some (.slice e)) (hs : sizeB P e = some sz) (h0 : 0 ≤ m) (h1 : m < len) (w : World) :
    (Instr.indexAt t (.slice (some p) len cap) (.int k m)).run P w = .ok (.pointer (some (p.add (m.toNat * sz)))) w := by
  simp [Instr.indexAt, asIntOf, run_underlying ht, h0, h1, run_sizeB hs]

theorem t_index {α : Type} {kd : Kd α} {i cap : Nat} {A : Option Addr} {xs : List α} {z : α} {k : IntKind} {m : Int} {e : TypeId} (hd : Nat.blt d n = true) (hi : nthO Q i = some (Pers.row kd A xs)) (hx : ev env x = some (.slice A xs.length cap)) (hy : ev env y = some (.int k m))
    (ht : P.underlying t = some (.slice e)) (hs : sizeB P e = some kd.sz) (h0 : 0 ≤ m) (hz : xs[m.toNat]? = some z) :
    Tr P ⟨some d, .indexAddr t x y, ty, pos, aft, g⟩ (St c n env G Q)
      (fun a w => ∃ p, ∃ r, kd.ok z r ∧ St c n ((d, .pointer (some (Addr.add p 0))) :: env) G (Pers.at p (kd.cells z r) :: (kd.pers z r ++ Q)) a w) := by
  intro a w h K R hk
  obtain ⟨S, he, hh, hrel⟩ := h
  have hlt : m.toNat < xs.length := (List.getElem?_eq_some_iff.1 hz).1
  rcases hh.per _ (nthO_mem hi) with h1 | ⟨p, rfl, hS, hb, hrow⟩
  · subst h1; simp at hlt
  · obtain ⟨cs, ⟨r, hok, rfl, hper⟩, hc⟩ := hrow _ _ hz
    have hrun : (execOp a.eval ⟨some d, .indexAddr t x y, ty, pos, aft, g⟩).run P w = .ok (.value (.pointer (some ((p.add (m.toNat * kd.sz)).add 0)))) w := by
      have hm : m < (xs.length : Int) := by omega
      rw [add_zero]
      simp only [execOp, he.eval hx, he.eval hy, run_indexAt ht hs h0 hm, Sem.run_bind, Result.andThen_ok, Sem.run_pure]
    unfold Oper.wp
    rw [hrun]
    refine hk _ _ ⟨p.add (m.toNat * kd.sz), r, hok, S, he.put hd _, ⟨hh.own, hh.nod, hh.out, fun q hq => ?_⟩, hrel⟩
    rcases List.mem_cons.1 hq with rfl | hq
    · exact ⟨by rw [add_block]; exact hS, by rw [add_block]; exact hb, hc⟩
    · rcases List.mem_append.1 hq with hq | hq
      · exact hper q hq
      · exact hh.per q hq

/-- The place of an element in a row of one's own. -/
theorem p_indexB {b o len cap sz : Nat} {k : IntKind} {m : Int} {e : TypeId} (hx : ev env x = some (.slice (some ⟨b, o, none⟩) len cap)) (hy : ev env y = some (.int k m)) (ht : P.underlying t = some (.slice e)) (hs : sizeB P e = some sz) (h0 : 0 ≤ m) (h1 : m < len) :
    Pv P n env ⟨some d, .indexAddr t x y, ty, pos, aft, g⟩ (.pointer (some ⟨b, o + m.toNat * sz, none⟩)) := fun a w he => by
  simp only [execOp, he.eval hx, he.eval hy, run_indexAt ht hs h0 h1, Sem.run_bind, Result.andThen_ok, Sem.run_pure, add_lit]

/-! ### slices written out -/
theorem range_map_reps (z : List Value) (hz : 0 < z.length) (m : Nat) : (Array.range (m * z.length)).map (fun i => z.toArray[i % z.toArray.size]!) = (reps z m).toArray := by
  apply Array.toList_inj.1
  apply List.ext_getElem?
  intro i
  simp only [Array.toList_map, Array.toList_range, List.getElem?_map]
  by_cases hi : i < m * z.length
  · rw [List.getElem?_range hi, reps_get z hz m i hi]
    have : i % z.length < z.length := Nat.mod_lt _ hz
    simp [this]
  · have h1 : (List.range (m * z.length))[i]? = none := by simp; omega
    have h2 : (reps z m)[i]? = none := by rw [List.getElem?_eq_none_iff, reps_length]; omega
    rw [h1, h2]; rfl

theorem t_buildSlice {e : TypeId} {len sz : Nat} {ps : List (Nat × Operand)} {parts : List (Nat × Value)} {z z0 l : List Value} (hd : Nat.blt d n = true) (ht : P.underlying t = some (.slice e)) (hs : sizeB P e = some sz) (hz : zeroL P e = some z) (hzs : Nat.beq z.length sz = true) (h0 : Nat.blt 0 sz = true) (hp : evP env ps = some parts)
    (hsm : Nat.ble (len * sz) 16777216 = true) (hn : norm (reps z len) = some z0) (hl : fillF (fun i => some (i * sz, sz)) z0 parts = some l) :
    Tr P ⟨some d, .buildSlice t len ps.toArray, ty, pos, aft, g⟩ (St c n env G Q)
      (fun a w => ∃ b, St c n ((d, .slice (some ⟨b, 0, none⟩) len len) :: env) (.cells b l e :: G) Q a w) := by
  intro a w h K R hk
  have hzs := Nat.eq_of_beq_eq_true hzs
  have h0 : 0 < sz := Nat.le_of_ble_eq_true h0
  have hsm := Nat.le_of_ble_eq_true hsm
  obtain ⟨zv, hzv, hzz⟩ := Option.map_eq_some_iff.1 hz
  have hpm : (ps.toArray.map fun (p : Nat × Operand) => (p.1, a.eval p.2)) = parts.toArray := by rw [List.map_toArray, h.en.evPs hp]
  have hn := norm_eq hn
  have hcells : zv.cells = z.toArray := by rw [← hzz, ← vcells_eq]
  have hfill := fill_fillF (fun i => some (i * sz, sz)) parts z0 l hl
  have hrun : (execOp a.eval ⟨some d, .buildSlice t len ps.toArray, ty, pos, aft, g⟩).run P w = .ok (.value (.slice (some ⟨w.heap.size, 0, none⟩) len len)) (w.alloc (.cells l.toArray e (0, 0))) := by
    by_cases hl0 : len * sz = 0
    · have hl1 : len = 0 := by rcases Nat.mul_eq_zero.1 hl0 with h1 | h1 <;> omega
      have hz0 : z0 = [] := by rw [hn, hl1]; rfl
      rw [hz0] at hfill
      have ha : ∀ f : Nat → Value, (Array.range (len * sz)).map f = #[] := fun f => by rw [hl0]; simp
      simp only [execOp, hpm, Instr.buildSlice, Sem.run_bind, run_underlying ht, Result.andThen_ok, run_sizeB hs, if_neg (by omega : ¬ len * sz > 2 ^ 24), if_pos hl0, Sem.run_pure, ha, hfill, newRow, run_newObj]
      rfl
    · have harr : (Array.range (len * sz)).map (fun i => z.toArray[i % z.toArray.size]!) = z0.toArray := by
        rw [hn, ← hzs]
        exact range_map_reps z (by omega) len
      simp only [execOp, hpm, Instr.buildSlice, Sem.run_bind, run_underlying ht, Result.andThen_ok, run_sizeB hs, if_neg (by omega : ¬ len * sz > 2 ^ 24), if_neg hl0, Sem.run_pure, run_zeroB hzv, hcells, harr, hfill, newRow, run_newObj]
      rfl
  unfold Oper.wp
  rw [hrun]
  exact hk _ _ ⟨w.heap.size, h.new _ (h.en.put hd _)⟩

end
end Go.Sx
