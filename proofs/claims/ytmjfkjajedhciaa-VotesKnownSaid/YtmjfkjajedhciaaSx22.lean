/- REGIONS OF DRAWN ORDER, the world kept in exact words: it was drawn from, and new blocks stand behind. Plain theorems over any program. -/
import Derived.Test.YtmjfkjajedhciaaSx17
set_option linter.unusedVariables false
set_option linter.unusedSimpArgs false
namespace Go.Sx
open Go Go.Sort Go.Proofs
def IW (W w : World) : Prop := ∃ q os, w = grow (W.drewN q) os
theorem IW.refl (W : World) : IW W W := ⟨0, #[], by simp [World.drewN_zero]⟩
theorem IW.drew {W w : World} (h : IW W w) : IW W w.drew := by
  obtain ⟨q, os, rfl⟩ := h
  exact ⟨q + 1, os, by rw [drew_grow, World.drew_drewN]⟩
theorem IW.trans {W w w' : World} (h : IW W w) (h' : IW w w') : IW W w' := by
  obtain ⟨q, os, rfl⟩ := h
  obtain ⟨q', os', rfl⟩ := h'
  refine ⟨q + q', os ++ os', ?_⟩
  rw [← grow_grow]
  congr 1
  rw [← World.drewN_drewN]; rfl
theorem IW.alloc (W : World) (o : Obj) : IW W (W.alloc o) := ⟨0, #[o], by rw [alloc_eq_grow, World.drewN_zero]⟩
theorem IW.old {W w : World} (h : IW W w) {k : Nat} (hk : k < W.heap.size) : w.heap[k]? = W.heap[k]? := by
  obtain ⟨q, os, rfl⟩ := h
  rw [heap_grow_old _ _ (by simpa using hk)]; simp
def XS (W : World) (n : Nat) (env : List (Nat × Value)) : Asr := fun a w => Env n env a ∧ IW W w
section
variable {P : Program} {W : World} {n : Nat} {env env' : List (Nat × Value)} {d : Nat} {ty : TypeId} {pos : String} {aft : Array Edge} {g : Option (Nat × Bool)} {x y : Operand} {t : TypeId} {ops : Array Oper} {M A B : Asr} {fuel : Nat} {listed : Array Bool}
theorem XA.take {op : Op} {v : Value} (i : Nat) (hi : ops[i]? = some ⟨some d, op, ty, pos, aft, none⟩) (hs : Region.noSelect ops = true) (hf : Region.free .any ops listed i = true) (hr : (Region.ready .any ops listed).contains i = true) (hd : Nat.blt d n = true)
    (h : Pi P n (IW W) env ⟨some d, op, ty, pos, aft, none⟩ v) (k : GA P ops M (IW W) fuel (listed.setIfInBounds i true) (XS W n ((d, v) :: env))) : GA P ops M (IW W) (fuel + 1) listed (XS W n env) := fun a w ha =>
  wpAnyH_take hi hs hf hr (fun _ _ _ h => h) (.inl ⟨by simp [Region.wanted], fun w' hw' => h a w' ha.1 hw'⟩) ha.2 (k _ w ⟨ha.1.put hd v, ha.2⟩)
theorem x_load {b o : Nat} {l : List Value} {e : TypeId} {fr : Nat × Nat} {v : Value} (hb : W.heap[b]? = some (.cells l.toArray e fr)) (hx : ev env x = some (.pointer (some ⟨b, o, none⟩))) (hg : aggB P t = some false) (hv : nth l o = some v) : Pi P n (IW W) env ⟨some d, .load t x, ty, pos, aft, g⟩ v := fun a w he hi => by
  have hlt : b < W.heap.size := (Array.getElem?_eq_some_iff.1 hb).1
  have hb' : w.heap[b]? = some (.cells l.toArray e fr) := by rw [hi.old hlt]; exact hb
  have := run_loadVar_one (P := P) (w := w) (p := ⟨b, o, none⟩) (v := v) hg (by
    rw [nth_eq] at hv
    simp [World.cell?, hb', hv])
  simp only [execOp, he.eval hx, Instr.loadAt, Instr.sureAddr, Sem.run_bind, Sem.run_pure, Result.andThen_ok, this]
theorem x_call {f : FuncId} {xs : List Operand} {vs : List Value} {ts : Array TypeId} {r : Value} (hd : Nat.blt d n = true) (hf : Ent P f) (hx : evs env xs = some vs) (hA : ∀ a w, A a w → XS W n env a w) (h : ∀ a w, A a w → Calls P f vs.toArray w fun e w' => e = .returned r ∧ IW w w') :
    Tr P ⟨some d, .call { callee := .value (.func f), args := xs.toArray, argTypes := ts }, ty, pos, aft, g⟩ A (XS W n ((d, r) :: env)) := by
  intro a w ha K Q' hk
  obtain ⟨he, hi⟩ := hA a w ha
  unfold Oper.wp
  rw [run_call hf hx a w he]
  rw [Oper.upon_enter]
  refine (h a w ha).mono ?_
  rintro e w' ⟨rfl, hi'⟩
  exact hk _ _ ⟨he.put hd r, hi.trans hi'⟩
theorem x_buildSlice {e : TypeId} {len sz : Nat} {ps : List (Nat × Operand)} {parts : List (Nat × Value)} {z z0 l : List Value} (hd : Nat.blt d n = true) (ht : P.underlying t = some (.slice e)) (hs : sizeB P e = some sz) (hz : zeroL P e = some z) (hzs : Nat.beq z.length sz = true) (h0 : Nat.blt 0 sz = true) (hp : evP env ps = some parts)
    (hsm : Nat.ble (len * sz) 16777216 = true) (hl0 : len * sz ≠ 0) (hn : norm (reps z len) = some z0) (hl : fillF (fun i => some (i * sz, sz)) z0 parts = some l) :
    Tr P ⟨some d, .buildSlice t len ps.toArray, ty, pos, aft, g⟩ (XS W n env)
      (fun a w => ∃ b, XS W n ((d, .slice (some ⟨b, 0, none⟩) len len) :: env) a w ∧ w.heap[b]? = some (.cells l.toArray e (0, 0))) := by
  rintro a w ⟨he, hi⟩ K R hk
  have hzs := Nat.eq_of_beq_eq_true hzs
  have h0 : 0 < sz := Nat.le_of_ble_eq_true h0
  have hsm := Nat.le_of_ble_eq_true hsm
  obtain ⟨zv, hzv, hzz⟩ := Option.map_eq_some_iff.1 hz
  have hpm : (ps.toArray.map fun (p : Nat × Operand) => (p.1, a.eval p.2)) = parts.toArray := by rw [List.map_toArray, he.evPs hp]
  have hn := norm_eq hn
  have hcells : zv.cells = z.toArray := by rw [← hzz, ← vcells_eq]
  have hfill := fill_fillF (fun i => some (i * sz, sz)) parts z0 l hl
  have hrun : (execOp a.eval ⟨some d, .buildSlice t len ps.toArray, ty, pos, aft, g⟩).run P w = .ok (.value (.slice (some ⟨w.heap.size, 0, none⟩) len len)) (w.alloc (.cells l.toArray e (0, 0))) := by
    have harr : (Array.range (len * sz)).map (fun i => z.toArray[i % z.toArray.size]!) = z0.toArray := by
      rw [hn, ← hzs]
      exact range_map_reps z (by omega) len
    simp only [execOp, hpm, Instr.buildSlice, Sem.run_bind, run_underlying ht, Result.andThen_ok, run_sizeB hs, if_neg (by omega : ¬ len * sz > 2 ^ 24), if_neg hl0, Sem.run_pure, run_zeroB hzv, hcells, harr, hfill, newRow, run_newObj]
    rfl
  unfold Oper.wp
  rw [hrun]
  exact hk _ _ ⟨w.heap.size, ⟨he.put hd _, hi.trans (IW.alloc w _)⟩, by rw [alloc_eq_grow]; unfold grow; simp only [Array.getElem?_append, Nat.lt_irrefl, if_false, Nat.sub_self]; rfl⟩
end
end Go.Sx
