/- SLICES: made, cut, copied, cleared; elements of blocks of one's own by number. Plain definitions and theorems. -/
import Derived.Test.YtmjfkjajedhciaaSx10
import Derived.Laws.MakeOwn
import Derived.Laws.Slices
import Derived.Laws.CopyRow
set_option linter.unusedVariables false
set_option linter.unusedSimpArgs false
namespace Go.Sx
open Go

/-! ### cells by number -/
theorem nth_map {α : Type} [Inhabited α] (enc : α → Value) {xs : List α} {i : Int} (h0 : 0 ≤ i) (h : i < (xs.length : Int)) : nth (xs.map enc) (0 + i.toNat * 1) = some (enc (gt xs i)) := by
  rw [nth_eq, Nat.zero_add, Nat.mul_one, List.getElem?_map, gt_ok h0 h]; rfl
theorem upd_at : ∀ (l : List Value) (o : Nat) (vs : List Value), o + vs.length ≤ l.length → upd l o vs = some (l.take o ++ vs ++ l.drop (o + vs.length))
  | l, 0, [], _ => by cases l <;> simp [upd]
  | [], 0, v :: vs, h => by simp at h
  | x :: r, 0, v :: vs, h => by
    have := upd_at r 0 vs (by simpa using h)
    simp only [upd, this, Option.map_some]
    simp
  | [], o + 1, vs, h => by simp at h
  | x :: r, o + 1, vs, h => by
    have := upd_at r o vs (by simp at h; omega)
    simp only [upd, this, Option.map_some]
    simp [show o + 1 + vs.length = o + vs.length + 1 by omega]
theorem upd_map {α : Type} (enc : α → Value) {xs : List α} {i : Int} {x : α} (h0 : 0 ≤ i) (h : i < (xs.length : Int)) : upd (xs.map enc) (0 + i.toNat * 1) [enc x] = some ((xs.set i.toNat x).map enc) := by
  rw [Nat.zero_add, Nat.mul_one, upd_at _ _ _ (by simp; omega)]
  congr 1
  rw [List.map_set, List.set_eq_take_append_cons_drop, if_pos (by simp; omega)]
  simp
theorem reps_one (v : Value) : ∀ n, reps [v] n = List.replicate n v
  | 0 => rfl
  | n + 1 => by rw [reps, reps_one v n]; rfl
theorem reps_u8 (n : Nat) : reps [.int .u8 0] n = (List.replicate n (0 : UInt8)).map (fun b => Value.int .u8 (b.toNat : Int)) := by rw [reps_one, List.map_replicate]; rfl
theorem reps_i64 (n : Nat) : reps [.int .i64 0] n = (List.replicate n (0 : Int)).map (fun z => Value.int .i64 z) := by rw [reps_one, List.map_replicate]

/-- A piece of a list. -/
def seg {α : Type} (xs : List α) (l h : Nat) : List α := (xs.take h).drop l
theorem seg_length {α : Type} {xs : List α} {l h : Nat} (hh : h ≤ xs.length) : (seg xs l h).length = h - l := by simp [seg]; omega
/-- A piece laid into a list. -/
def laid {α : Type} (xs : List α) (o : Nat) (ys : List α) : List α := xs.take o ++ ys ++ xs.drop (o + ys.length)
theorem laid_length {α : Type} {xs ys : List α} {o : Nat} (h : o + ys.length ≤ xs.length) : (laid xs o ys).length = xs.length := by simp [laid]; omega
theorem laid_map {α β : Type} (f : α → β) (xs ys : List α) (o : Nat) : (laid xs o ys).map f = laid (xs.map f) o (ys.map f) := by simp [laid]

section
variable {P : Program} {c : Cx} {n : Nat} {env env' : List (Nat × Value)} {G G' Gr : List Own} {Q Q' : List Pers} {d : Nat} {ty : TypeId} {pos : String} {aft : Array Edge} {g : Option (Nat × Bool)} {x y z u : Operand} {t : TypeId} {a a' : Act} {w w' : World}
variable {ops : Array Oper} {R : Exit → Asr} {rest : List Oper} {A B : Asr} {cd : Code}

theorem reps_eq (z : List Value) (hz : 0 < z.length) (m : Nat) : madeCells z.toArray (m * z.length) = (reps z m).toArray := by
  unfold madeCells
  exact range_map_reps z hz m

theorem t_make {k k' : IntKind} {m : Int} {e : TypeId} {sz by_ : Nat} {zl : List Value} (hd : Nat.blt d n = true) (hel : El P t e sz by_ zl) (hx : ev env x = some (.int k m)) (hy : ev env y = some (.int k' m)) (h0 : 0 ≤ m) (hb : m * by_ ≤ 281474976710656) :
    Tr P ⟨some d, .makeSlice t x y, ty, pos, aft, g⟩ (St c n env G Q) (fun a w => ∃ b, St c n ((d, .slice (some ⟨b, 0, none⟩) m.toNat m.toNat) :: env) (.cells b (reps zl m.toNat) e :: G) Q a w) := by
  intro a w h K R hk
  obtain ⟨i, hi, hby⟩ := Option.map_eq_some_iff.1 hel.byt
  have hsz : i.size = sz := by have := hel.size; unfold sizeB at this; rw [hi] at this; simpa using this
  obtain ⟨zv, hzv, hzz⟩ := Option.map_eq_some_iff.1 hel.zero
  have hz' : i.zero = some zv := by unfold zeroB at hzv; rw [hi] at hzv; simpa using hzv
  have hzc : zv.cells = zl.toArray := by rw [← hzz, ← vcells_eq]
  have hpos := hel.bpos
  have hm1 : m ≤ 281474976710656 := by
    refine Int.le_trans ?_ hb
    have : m * 1 ≤ m * (by_ : Int) := Int.mul_le_mul_of_nonneg_left (by omega) h0
    simpa using this
  have hrun : (execOp a.eval ⟨some d, .makeSlice t x y, ty, pos, aft, g⟩).run P w = .ok (.value (.slice (some ⟨w.heap.size, 0, none⟩) m.toNat m.toNat)) (w.alloc (.cells (reps zl m.toNat).toArray e (0, 0))) := by
    have := run_make (P := P) w t e i zv hel.und hi hz' k k' m m h0 (Int.le_refl _) (by rw [hby, Int.mul_comm]; exact hb) (by omega)
    rw [hzc, hsz, ← hel.zlen, reps_eq zl (by rw [hel.zlen]; exact hel.spos)] at this
    simp only [execOp, h.en.eval hx, h.en.eval hy, Sem.run_bind, this, Result.andThen_ok, Sem.run_pure]
  unfold Oper.wp
  rw [hrun]
  exact hk _ _ ⟨w.heap.size, h.new _ (h.en.put hd _)⟩

/-! ### cutting -/
theorem elem_of {e : TypeId} (ht : P.underlying t = some (.slice e)) : P.elem t = e := by simp [Program.elem, ht]
theorem p_cut {v : Value} {lo hi mx : Option Operand} {lo' hi' mx' : Option Value} (hx : ev env x = some v) (hlo : lo.bind (ev env) = lo') (hhi : hi.bind (ev env) = hi') (hmx : mx.bind (ev env) = mx') (hlo2 : lo.isSome = lo'.isSome) (hhi2 : hi.isSome = hi'.isSome) (hmx2 : mx.isSome = mx'.isSome) {r : Value} (hr : ∀ w, (Instr.sliceAt t v lo' hi' mx').run P w = .ok r w) :
    Pv P n env ⟨some d, .slice t x lo hi mx, ty, pos, aft, g⟩ r := fun a w he => by
  have key : ∀ (o : Option Operand) (o' : Option Value), o.bind (ev env) = o' → o.isSome = o'.isSome → o.map a.eval = o' := by
    intro o o' h1 h2
    cases o with
    | none => simpa using h1
    | some p =>
      simp only [Option.bind_some] at h1
      subst h1
      cases hp : ev env p with
      | none => rw [hp] at h2; simp at h2
      | some q => simp [he.eval hp]
  simp only [execOp, he.eval hx, key lo lo' hlo hlo2, key hi hi' hhi hhi2, key mx mx' hmx hmx2, hr, Sem.run_bind, Result.andThen_ok, Sem.run_pure]

theorem sliced_eq {A A' : Option Addr} {l h m s len' cap' : Nat} (e1 : h - l = len') (e2 : m - l = cap') (hA : slA A s l m = A') : sliced A l h m s = .slice A' len' cap' := by
  subst e1; subst e2; subst hA; rfl
theorem p_cut_lhm {A A' : Option Addr} {len cap sz len' cap' : Nat} {kl kh km : IntKind} {l h m : Int} {e : TypeId} (hx : ev env x = some (.slice A len cap)) (hl : ev env y = some (.int kl l)) (hh : ev env z = some (.int kh h)) (hm : ev env u = some (.int km m)) (ht : P.underlying t = some (.slice e)) (hs : sizeB P e = some sz)
    (h0 : 0 ≤ l) (h1 : l ≤ h) (h2 : h ≤ m) (h3 : m ≤ cap) (e1 : h.toNat - l.toNat = len') (e2 : m.toNat - l.toNat = cap') (hA : slA A sz l.toNat m.toNat = A') : Pv P n env ⟨some d, .slice t x (some y) (some z) (some u), ty, pos, aft, g⟩ (.slice A' len' cap') :=
  p_cut hx (lo' := some (.int kl l)) (hi' := some (.int kh h)) (mx' := some (.int km m)) (show (some y).bind (ev env) = _ from hl) (show (some z).bind (ev env) = _ from hh) (show (some u).bind (ev env) = _ from hm) rfl rfl rfl fun w => by
    have he := elem_of ht
    rw [run_sliceAt_slice _ _ _ _ _ _ (by rw [he]; exact ht), run_slice_lhm _ _ _ _ _ (by rw [he]; exact ht) kl kh km l h m h0 h1 h2 h3, he, run_sizeB hs]
    simp only [Result.andThen_ok, sliced_eq e1 e2 hA]
theorem p_cut_lh {A A' : Option Addr} {len cap sz len' cap' : Nat} {kl kh : IntKind} {l h : Int} {e : TypeId} (hx : ev env x = some (.slice A len cap)) (hl : ev env y = some (.int kl l)) (hh : ev env z = some (.int kh h)) (ht : P.underlying t = some (.slice e)) (hs : sizeB P e = some sz)
    (h0 : 0 ≤ l) (h1 : l ≤ h) (h2 : h ≤ cap) (e1 : h.toNat - l.toNat = len') (e2 : cap - l.toNat = cap') (hA : slA A sz l.toNat cap = A') : Pv P n env ⟨some d, .slice t x (some y) (some z) none, ty, pos, aft, g⟩ (.slice A' len' cap') :=
  p_cut hx (lo' := some (.int kl l)) (hi' := some (.int kh h)) (mx' := none) (show (some y).bind (ev env) = _ from hl) (show (some z).bind (ev env) = _ from hh) rfl rfl rfl rfl fun w => by
    have he := elem_of ht
    rw [run_sliceAt_slice _ _ _ _ _ _ (by rw [he]; exact ht), run_slice_lh _ _ _ _ _ (by rw [he]; exact ht) kl kh l h h0 h1 h2, he, run_sizeB hs]
    simp only [Result.andThen_ok, sliced_eq e1 e2 hA]
theorem p_cut_h {A A' : Option Addr} {len cap sz len' cap' : Nat} {kh : IntKind} {h : Int} {e : TypeId} (hx : ev env x = some (.slice A len cap)) (hh : ev env z = some (.int kh h)) (ht : P.underlying t = some (.slice e)) (hs : sizeB P e = some sz)
    (h0 : 0 ≤ h) (h2 : h ≤ cap) (e1 : h.toNat - 0 = len') (e2 : cap - 0 = cap') (hA : slA A sz 0 cap = A') : Pv P n env ⟨some d, .slice t x none (some z) none, ty, pos, aft, g⟩ (.slice A' len' cap') :=
  p_cut hx (lo' := none) (hi' := some (.int kh h)) (mx' := none) rfl (show (some z).bind (ev env) = _ from hh) rfl rfl rfl rfl fun w => by
    have he := elem_of ht
    rw [run_sliceAt_slice _ _ _ _ _ _ (by rw [he]; exact ht), run_slice_h _ _ _ _ _ (by rw [he]; exact ht) kh h h0 h2, he, run_sizeB hs]
    simp only [Result.andThen_ok, sliced_eq e1 e2 hA]
theorem p_cut_l {A A' : Option Addr} {len cap sz len' cap' : Nat} {kl : IntKind} {l : Int} {e : TypeId} (hx : ev env x = some (.slice A len cap)) (hl : ev env y = some (.int kl l)) (ht : P.underlying t = some (.slice e)) (hs : sizeB P e = some sz)
    (h0 : 0 ≤ l) (h1 : l ≤ len) (e1 : len - l.toNat = len') (e2 : cap - l.toNat = cap') (hA : slA A sz l.toNat cap = A') : Pv P n env ⟨some d, .slice t x (some y) none none, ty, pos, aft, g⟩ (.slice A' len' cap') :=
  p_cut hx (lo' := some (.int kl l)) (hi' := none) (mx' := none) (show (some y).bind (ev env) = _ from hl) rfl rfl rfl rfl rfl fun w => by
    have he := elem_of ht
    rw [run_sliceAt_slice _ _ _ _ _ _ (by rw [he]; exact ht), run_slice_l _ _ _ _ _ (by rw [he]; exact ht) kl l h0 h1, he, run_sizeB hs]
    simp only [Result.andThen_ok, sliced_eq e1 e2 hA]
theorem p_cut_all {A A' : Option Addr} {len cap sz len' cap' : Nat} {e : TypeId} (hx : ev env x = some (.slice A len cap)) (ht : P.underlying t = some (.slice e)) (hs : sizeB P e = some sz)
    (e1 : len - 0 = len') (e2 : cap - 0 = cap') (hA : slA A sz 0 cap = A') : Pv P n env ⟨some d, .slice t x none none none, ty, pos, aft, g⟩ (.slice A' len' cap') :=
  p_cut hx (lo' := none) (hi' := none) (mx' := none) rfl rfl rfl rfl rfl rfl fun w => by
    have he := elem_of ht
    rw [run_sliceAt_slice _ _ _ _ _ _ (by rw [he]; exact ht), run_slice_all _ _ _ _ _ (by rw [he]; exact ht), he, run_sizeB hs]
    simp only [Result.andThen_ok, sliced_eq e1 e2 hA]

theorem slA_blk {b o sz l m : Nat} (h : l < m) : slA (some ⟨b, o, none⟩) sz l m = some ⟨b, o + l * sz, none⟩ := by
  unfold slA
  rw [if_neg (by omega)]
  simp [add_lit]

/-- A piece of a row that is read. -/
theorem row_sub {α : Type} {kd : Kd α} {A : Option Addr} {xs : List α} {S : Blocks} {l h m : Nat} (hr : (Pers.row kd A xs).h w S) (hh : h ≤ xs.length) (hm : h ≤ m) : (Pers.row kd (slA A kd.sz l m) (seg xs l h)).h w S := by
  by_cases hl : l < h
  · rcases hr with rfl | ⟨p, rfl, h1, h2, h3⟩
    · simp at hh; omega
    · right
      refine ⟨p.add (l * kd.sz), ?_, by rw [add_block]; exact h1, by rw [add_block]; exact h2, fun i x hx => ?_⟩
      · unfold slA; rw [if_neg (by omega)]; rfl
      · have hx2 : xs[l + i]? = some x := by
          unfold seg at hx
          rw [List.getElem?_drop, List.getElem?_take] at hx
          split at hx
          · exact hx
          · cases hx
        obtain ⟨cs, h4, h5⟩ := h3 _ _ hx2
        refine ⟨cs, h4, ?_⟩
        rw [add_add]
        rw [Nat.add_mul] at h5
        exact h5
  · left
    unfold seg
    apply List.drop_of_length_le
    simp; omega
/-- .. of a block of one's own. -/
theorem blk_sub {α : Type} {enc : α → Value} {h1 : ∀ x, (enc x).oneCell' = true} {b l h : Nat} {e : TypeId} {xs : List α} {S : Blocks} (ho : (Own.cells b (xs.map enc) e).holds w) (hS : S b) : (Pers.row (Kd.sc enc h1) (some ⟨b, l, none⟩) (seg xs l h)).h w S := by
  right
  have hb : w.heap[b]? = some (.cells (xs.map enc).toArray e (0, 0)) := ho
  refine ⟨_, rfl, hS, (Array.getElem?_eq_some_iff.1 hb).1, fun i x hx => ⟨[enc x], ⟨(), trivial, rfl, fun q hq => by cases hq⟩, ?_⟩⟩
  have hx2 : xs[l + i]? = some x := by
    unfold seg at hx
    rw [List.getElem?_drop, List.getElem?_take] at hx
    split at hx
    · exact hx
    · cases hx
  rw [show (i * (Kd.sc enc h1).sz) = i from Nat.mul_one i, add_lit]
  refine cellsAt_blk hb fun j u hj => ?_
  match j, hj with
  | 0, hj => simp at hj; subst hj; simp [hx2]
  | j + 1, hj => simp at hj

/-! ### copy and clear -/
theorem run_copy_zero {dT sT ty e : TypeId} {p : Addr} {A : Option Addr} {dLen dCap sCap : Nat} {w : World} (hu : P.underlying dT = some (.slice e)) (hs : sizeB P e = some 1) :
    (Builtin.copy_ #[dT, sT] ty #[.slice (some p) dLen dCap, .slice A 0 sCap]).run P w = .ok (goInt 0) w := by
  obtain ⟨i, hi, hs'⟩ := Option.map_eq_some_iff.1 hs
  cases A with
  | none => simp [Builtin.copy_, run_underlying hu, Builtin.lenOf, Builtin.firstCells, sizeOf, typeInfo, hi, storeCells]
  | some q => simp [Builtin.copy_, run_underlying hu, Builtin.lenOf, Builtin.firstCells, sizeOf, typeInfo, hi, storeCells, loadCells, loadCellsFrom]

theorem t_copyB {α : Type} {enc : α → Value} {h1 : ∀ x, (enc x).oneCell' = true} {xs : List α} {i k b o dLen dCap sCap : Nat} {l l' : List Value} {e e' : TypeId} {A : Option Addr} {sT : TypeId}
    (hd : Nat.blt d n = true) (hi : nthO G i = some (.cells b l e')) (hk : nthO Q k = some (Pers.row (Kd.sc enc h1) A xs)) (hx : ev env x = some (.slice (some ⟨b, o, none⟩) dLen dCap)) (hy : ev env y = some (.slice A xs.length sCap))
    (ht : P.underlying t = some (.slice e)) (hs : sizeB P e = some 1) (hlen : xs.length ≤ dLen) (hfit : o + xs.length ≤ l.length) (hl' : laid l o (xs.map enc) = l') (hr : repl G i (.cells b l' e') = some G') :
    Tr P ⟨some d, .call { callee := .builtin .copy, args := #[x, y], argTypes := #[t, sT] }, ty, pos, aft, g⟩ (St c n env G Q) (St c n ((d, .int .i64 (xs.length : Int)) :: env) G' Q) := by
  intro a w hst K R hk2
  have he := hst.en
  have hb : w.heap[b]? = some (.cells l.toArray e' (0, 0)) := hst.own hi
  obtain ⟨S, hp⟩ := hst.per hk
  have hrun0 : (Builtin.copy_ #[t, sT] ty #[.slice (some ⟨b, o, none⟩) dLen dCap, .slice A xs.length sCap]).run P w = .ok (.int .i64 (xs.length : Int)) (w.setRow b l'.toArray) := by
    rcases row_scalar hp with h0 | ⟨p, rfl, _, _, hc⟩
    · subst h0
      have : l' = l := by rw [← hl']; simp [laid]
      rw [this, setRow_self w b l.toArray e' (0, 0) hb]
      exact run_copy_zero ht hs
    · have := run_copy_row P w t sT ty e b o dLen dCap p xs.length sCap l.toArray e' (xs.map enc) ht hs hb (by rw [List.length_map]; exact (Nat.min_eq_left hlen).symm) hc (by simpa using hfit) (by intro v hv; obtain ⟨x, _, rfl⟩ := List.mem_map.1 hv; exact h1 x)
      rw [this]
      simp only [List.length_map]
      rw [← hl']
      simp [laid, goInt]
  have hop : (execOp a.eval ⟨some d, .call { callee := .builtin .copy, args := #[x, y], argTypes := #[t, sT] }, ty, pos, aft, g⟩).run P w = .ok (.value (.int .i64 (xs.length : Int))) (w.setRow b l'.toArray) := by
    simp only [execOp, resolve, invoke, builtin, Sem.run_bind, Sem.run_pure, Result.andThen_ok, List.map_toArray, List.map_cons, List.map_nil, he.eval hx, he.eval hy, hrun0]
  unfold Oper.wp
  rw [hop]
  exact hk2 _ _ (hst.write hi hr (Fr.setRow w b _) (setRow_heap w b _ _ _ _ hb) (fun k hk => .inl hk) (by simp [Own.keys]) (he.put hd _))

theorem t_clearB {i b o dLen dCap : Nat} {v : Value} {l l' : List Value} {e e' : TypeId} (hi : nthO G i = some (.cells b l e')) (hx : ev env x = some (.slice (some ⟨b, o, none⟩) dLen dCap)) (ht : P.underlying t = some (.slice e)) (hz : zeroL P e = some [v]) (h1 : v.oneCell' = true)
    (hfit : o + dLen ≤ l.length) (hl' : laid l o (List.replicate dLen v) = l') (hr : repl G i (.cells b l' e') = some G') :
    Tr P ⟨none, .call { callee := .builtin .clear, args := #[x], argTypes := #[t] }, ty, pos, aft, g⟩ (St c n env G Q) (St c n env G' Q) := by
  intro a w hst K R hk2
  have he := hst.en
  have hb : w.heap[b]? = some (.cells l.toArray e' (0, 0)) := hst.own hi
  obtain ⟨zv, hzv, hzz⟩ := Option.map_eq_some_iff.1 hz
  have hzc : zv.cells = [v].toArray := by rw [← hzz, ← vcells_eq]
  have hrun0 : (Builtin.clear_ #[t] ty #[.slice (some ⟨b, o, none⟩) dLen dCap]).run P w = .ok (.tuple #[]) (w.setRow b l'.toArray) := by
    cases hn : dLen with
    | zero =>
      have : l' = l := by rw [← hl', hn]; simp [laid]
      rw [this, setRow_self w b l.toArray e' (0, 0) hb]
      simp [Builtin.clear_, run_underlying ht]
    | succ m =>
      have hcells : (Builtin.zeroCells zv.cells (m + 1)).toList = List.replicate (m + 1) v := by
        rw [hzc]
        simp [Builtin.zeroCells]
        apply List.ext_getElem
        · simp
        · intro i h1 h2
          simp [Nat.mod_one]
      have hstore := run_storeCells_at (P := P) b o e' (List.replicate (m + 1) v) 0 l.toArray w hb (by simp; omega) (by intro u hu; rw [List.eq_of_mem_replicate hu]; exact h1)
      rw [Nat.add_zero] at hstore
      simp only [Builtin.clear_, Sem.run_bind, run_underlying ht, Result.andThen_ok, List.getElem?_toArray, List.getElem?_cons_zero, Sem.run_pure, run_zeroB hzv, hcells, hstore]
      rw [← hl', hn]
      simp [laid]
  have hop : (execOp a.eval ⟨none, .call { callee := .builtin .clear, args := #[x], argTypes := #[t] }, ty, pos, aft, g⟩).run P w = .ok (.value (.tuple #[])) (w.setRow b l'.toArray) := by
    simp only [execOp, resolve, invoke, builtin, Sem.run_bind, Sem.run_pure, Result.andThen_ok, List.map_toArray, List.map_cons, List.map_nil, he.eval hx, hrun0]
  unfold Oper.wp
  rw [hop]
  exact hk2 _ _ (hst.write hi hr (Fr.setRow w b _) (setRow_heap w b _ _ _ _ hb) (fun k hk => .inl hk) (by simp [Own.keys]) he)
end
end Go.Sx
