/- MAPS WITH WHOLE NUMBERS FOR KEYS: a map is a list of pairs. Plain definitions and theorems over any program. -/
import Derived.Test.YtmjfkjajedhciaaSx8
set_option linter.unusedVariables false
set_option linter.unusedSimpArgs false
namespace Go.Sx
open Go

def mget {α : Type} : List (Int × α) → Int → Option α
  | [], _ => none
  | (k, x) :: r, j => if k = j then some x else mget r j
def mput {α : Type} : List (Int × α) → Int → α → List (Int × α)
  | [], j, y => [(j, y)]
  | (k, x) :: r, j, y => if k = j then (j, y) :: r else (k, x) :: mput r j y

theorem mget_mput_same {α : Type} (T : List (Int × α)) (j : Int) (y : α) : mget (mput T j y) j = some y := by
  induction T with
  | nil => simp [mput, mget]
  | cons p r ih =>
    obtain ⟨k, x⟩ := p
    by_cases h : k = j <;> simp [mput, mget, h, ih]
theorem mget_mput_other {α : Type} (T : List (Int × α)) {i j : Int} (y : α) (h : i ≠ j) : mget (mput T j y) i = mget T i := by
  induction T with
  | nil => simp [mput, mget]; omega
  | cons p r ih =>
    obtain ⟨k, x⟩ := p
    by_cases hk : k = j
    · subst hk
      have : ¬ k = i := fun e => h e.symm
      simp [mput, mget, this]
    · by_cases hi : k = i
      · simp only [mput, if_neg hk, mget, if_pos hi]
      · simp only [mput, if_neg hk, mget, if_neg hi, ih]
theorem mput_length {α : Type} (T : List (Int × α)) (j : Int) (y : α) : (mput T j y).length = T.length + (if (mget T j).isSome then 0 else 1) := by
  induction T with
  | nil => simp [mput, mget]
  | cons p r ih =>
    obtain ⟨k, x⟩ := p
    by_cases h : k = j
    · simp [mput, mget, h]
    · simp [mput, mget, h, ih]; omega

def mkV (agg : Bool) (cs : List Value) : Value := if agg then .agg cs.toArray else cs.headD undef

def MapReps {α : Type} (d : Kd α) (agg : Bool) (w : World) (S : Blocks) : List (Int × α) → List MapEntry → Prop
  | [], [] => True
  | (k, x) :: T, e :: es => e.key = .int .i64 k ∧ (∃ cs, e.val = mkV agg cs ∧ d.K w S x cs) ∧ MapReps d agg w S T es
  | _, _ => False

theorem MapReps.st {α : Type} {d : Kd α} {agg : Bool} {w w' : World} {S S' : Blocks} (hm : ∀ k, S k → k < w.heap.size → S' k ∧ w'.heap[k]? = w.heap[k]?) : ∀ {T : List (Int × α)} {es : List MapEntry}, MapReps d agg w S T es → MapReps d agg w' S' T es
  | [], [], h => trivial
  | (k, x) :: T, e :: es, ⟨h1, ⟨cs, h2, h3⟩, h4⟩ => ⟨h1, ⟨cs, h2, Kd.K_st h3 hm⟩, MapReps.st hm h4⟩
  | [], _ :: _, h => h.elim
  | _ :: _, [], h => h.elim
theorem MapReps.length {α : Type} {d : Kd α} {agg : Bool} {w : World} {S : Blocks} : ∀ {T : List (Int × α)} {es : List MapEntry}, MapReps d agg w S T es → es.length = T.length
  | [], [], h => rfl
  | (k, x) :: T, e :: es, ⟨_, _, h4⟩ => by simp [MapReps.length h4]
  | [], _ :: _, h => h.elim
  | _ :: _, [], h => h.elim

/-- The entries' numbers: apart, and below the clock. -/
def Stamped (es : Array MapEntry) (ck : Nat) : Prop := (∀ x ∈ es.toList, x.born < ck) ∧ (es.toList.map (·.born)).Nodup
theorem Stamped.nil : Stamped #[] 0 := ⟨by simp, by simp⟩
theorem Stamped.push {es : Array MapEntry} {ck : Nat} (h : Stamped es ck) (k v : Value) : Stamped (es.push { key := k, val := v, born := ck }) (ck + 1) := by
  constructor
  · intro x hx
    simp only [Array.toList_push, List.mem_append, List.mem_singleton] at hx
    rcases hx with hx | rfl
    · exact Nat.lt_succ_of_lt (h.1 x hx)
    · exact Nat.lt_succ_self _
  · rw [Array.toList_push, List.map_append, List.nodup_append]
    refine ⟨h.2, by simp, fun a ha b hb e => ?_⟩
    obtain ⟨x, hx, rfl⟩ := List.mem_map.1 ha
    simp only [List.map_cons, List.map_nil, List.mem_singleton] at hb
    have := h.1 x hx
    omega
theorem Stamped.modify {es : Array MapEntry} {ck : Nat} (h : Stamped es ck) (j : Nat) (k v : Value) : Stamped (es.modify j fun e => { e with key := k, val := v }) ck := by
  have e : (es.modify j fun e => { e with key := k, val := v }).toList.map (·.born) = es.toList.map (·.born) := by
    apply List.ext_getElem?
    intro i
    simp only [Array.toList_modify, List.getElem?_map, List.getElem?_modify]
    cases es.toList[i]? with
    | none => rfl
    | some x => by_cases hij : j = i <;> simp [hij]
  refine ⟨fun x hx => ?_, by rw [e]; exact h.2⟩
  have hb : x.born ∈ (es.modify j fun e => { e with key := k, val := v }).toList.map (·.born) := List.mem_map.2 ⟨x, hx, rfl⟩
  rw [e] at hb
  obtain ⟨y, hy, hy2⟩ := List.mem_map.1 hb
  rw [← hy2]
  exact h.1 y hy
def Pers.map {α : Type} (d : Kd α) (agg : Bool) (T : List (Int × α)) (es : Array MapEntry) (ck : Nat) : Pers where
  h := fun w S => MapReps d agg w S T es.toList ∧ Stamped es ck
  st := fun h hm => ⟨MapReps.st hm h.1, h.2⟩

theorem find_none {α : Type} {d : Kd α} {agg : Bool} {w : World} {S : Blocks} {k : Int} : ∀ {T : List (Int × α)} {es : List MapEntry} (i : Nat), MapReps d agg w S T es → mget T k = none → Instr.findNow (.int .i64) (.int .i64 k) es i = some none
  | [], [], i, _, _ => rfl
  | (j, x) :: T, e :: es, i, ⟨h1, _, h4⟩, hn => by
    by_cases hj : j = k
    · simp [mget, hj] at hn
    · simp only [mget, if_neg hj] at hn
      have hb : (k == j) = false := by simp; exact fun e => hj e.symm
      simp only [Instr.findNow, h1, Instr.sameNow, if_true, hb]
      exact find_none (i + 1) h4 hn
  | [], _ :: _, _, h, _ => h.elim
  | _ :: _, [], _, h, _ => h.elim
theorem find_some {α : Type} {d : Kd α} {agg : Bool} {w : World} {S : Blocks} {k : Int} {x : α} : ∀ {T : List (Int × α)} {es : List MapEntry} (i : Nat), MapReps d agg w S T es → mget T k = some x →
    ∃ j v cs, Instr.findNow (.int .i64) (.int .i64 k) es i = some (some (i + j, v)) ∧ v = mkV agg cs ∧ d.K w S x cs ∧ (∃ e, es[j]? = some e ∧ e.key = .int .i64 k) ∧
      ∀ (y : α) (cs' : List Value), d.K w S y cs' → MapReps d agg w S (mput T k y) (es.modify j fun e => { e with key := .int .i64 k, val := mkV agg cs' })
  | [], [], i, _, h => by simp [mget] at h
  | (j, z) :: T, e :: es, i, ⟨h1, ⟨cs, h2, h3⟩, h4⟩, hs => by
    by_cases hj : j = k
    · subst hj
      simp only [mget, if_true, Option.some.injEq] at hs
      subst hs
      refine ⟨0, e.val, cs, ?_, h2, h3, ⟨e, rfl, h1⟩, fun y cs' hy => ?_⟩
      · simp [Instr.findNow, h1, Instr.sameNow]
      · simp only [mput, if_true, List.modify_zero_cons]
        exact ⟨rfl, ⟨cs', rfl, hy⟩, h4⟩
    · simp only [mget, if_neg hj] at hs
      have hb : (k == j) = false := by simp; exact fun e => hj e.symm
      obtain ⟨j', v, cs', h5, h6, h7, ⟨e', h8, h9⟩, h10⟩ := find_some (i + 1) h4 hs
      refine ⟨j' + 1, v, cs', ?_, h6, h7, ⟨e', by simpa using h8, h9⟩, fun y c hy => ?_⟩
      · simp only [Instr.findNow, h1, Instr.sameNow, if_true, hb]
        rw [h5]
        congr 3
        omega
      · simp only [mput, if_neg hj, List.modify_succ_cons]
        exact ⟨h1, ⟨cs, h2, h3⟩, h10 y c hy⟩
  | [], _ :: _, _, h, _ => h.elim
  | _ :: _, [], _, h, _ => h.elim
theorem MapReps.push {α : Type} {d : Kd α} {agg : Bool} {w : World} {S : Blocks} {k : Int} {y : α} {cs : List Value} {b : Nat} (hy : d.K w S y cs) : ∀ {T : List (Int × α)} {es : List MapEntry}, MapReps d agg w S T es → mget T k = none → MapReps d agg w S (mput T k y) (es ++ [{ key := .int .i64 k, val := mkV agg cs, born := b }])
  | [], [], _, _ => ⟨rfl, ⟨cs, rfl, hy⟩, trivial⟩
  | (j, z) :: T, e :: es, ⟨h1, h2, h4⟩, hn => by
    by_cases hj : j = k
    · simp [mget, hj] at hn
    · simp only [mget, if_neg hj] at hn
      simp only [mput, if_neg hj, List.cons_append]
      exact ⟨h1, h2, MapReps.push hy h4 hn⟩
  | [], _ :: _, h, _ => h.elim
  | _ :: _, [], h, _ => h.elim

section
variable {P : Program} {c : Cx} {n : Nat} {env env' : List (Nat × Value)} {G G' Gr : List Own} {Q Q' : List Pers} {d : Nat} {ty : TypeId} {pos : String} {aft : Array Edge} {g : Option (Nat × Bool)} {x y z : Operand} {t kt et : TypeId} {a a' : Act} {w w' : World}
variable {ops : Array Oper} {R : Exit → Asr} {rest : List Oper} {A B : Asr} {cd : Code}

theorem GL.or (h1 : GL P ops R rest A) (h2 : GL P ops R rest B) : GL P ops R rest (fun a w => A a w ∨ B a w) := fun a w h => h.elim (h1 a w) (h2 a w)
theorem GA.or {M : Asr} {I : World → Prop} {fuel : Nat} {listed : Array Bool} (h1 : GA P ops M I fuel listed A) (h2 : GA P ops M I fuel listed B) : GA P ops M I fuel listed (fun a w => A a w ∨ B a w) := fun a w h => h.elim (h1 a w) (h2 a w)
theorem GC.or (h1 : GC P R cd A) (h2 : GC P R cd B) : GC P R cd (fun a w => A a w ∨ B a w) := fun a w h => h.elim (h1 a w) (h2 a w)

theorem run_checkKey {e : Nat} {b : Bool} {k : Int} (hk : P.underlying kt = some (.int .i64)) (w : World) : (Instr.checkKey b (e + 1) kt (.int .i64 k)).run P w = .ok () w := by
  simp only [Instr.checkKey, Sem.run_bind, run_underlying hk, Result.andThen_ok]
  rfl

theorem run_getMap {m : Nat} {es : Array MapEntry} {ck : Nat} (h : w.heap[m]? = some (.map es ck)) : (getObj m).run P w = .ok (.map es ck) w := by
  simp [getObj, Sem.run, h]

/-- v, ok := m[k]. -/
theorem t_lookup {α : Type} {kd : Kd α} {i j m ck : Nat} {es : Array MapEntry} {T : List (Int × α)} {k : Int} {zz : List Value} (hd : Nat.blt d n = true) (hi : nthO G i = some (.blk m (.map es ck))) (hj : nthO Q j = some (Pers.map kd true T es ck)) (hx : ev env x = some (.map (some m))) (hy : ev env y = some (.int .i64 k))
    (ht : P.underlying t = some (.map kt et)) (hk : P.underlying kt = some (.int .i64)) (hz : zeroL P et = some zz) (hg : ∃ z, zeroB P et = some (.agg z)) :
    Tr P ⟨some d, .lookup t x y true, ty, pos, aft, g⟩ (St c n env G Q) (fun a w => (mget T k = none ∧ St c n ((d, .tuple #[.agg zz.toArray, .bool false]) :: env) G Q a w) ∨
      (∃ u r, mget T k = some u ∧ kd.ok u r ∧ St c n ((d, .tuple #[.agg (kd.cells u r).toArray, .bool true]) :: env) G (kd.pers u r ++ Q) a w)) := by
  intro a w h K R hk'
  have hblk : w.heap[m]? = some (.map es ck) := h.own hi
  obtain ⟨S, he, hh, hrel⟩ := h
  have hm : MapReps kd true w S T es.toList := (hh.per _ (nthO_mem hj)).1
  obtain ⟨za, hza⟩ := hg
  have hzz : zz = za.toList := by
    obtain ⟨zv, h1, h2⟩ := Option.map_eq_some_iff.1 hz
    rw [hza] at h1
    simp only [Option.some.injEq] at h1
    subst h1
    exact h2.symm
  cases hT : mget T k with
  | none =>
    have hf := find_none 0 hm hT
    have hrun : (execOp a.eval ⟨some d, .lookup t x y true, ty, pos, aft, g⟩).run P w = .ok (.value (.tuple #[.agg zz.toArray, .bool false])) w := by
      simp only [execOp, he.eval hx, he.eval hy, Instr.lookup, Sem.run_bind, run_underlying ht, Result.andThen_ok, run_getMap hblk, Sem.run_pure, run_checkKey (e := 9999) hk, Instr.findKey, run_underlying hk, hf, run_zeroB hza, if_true, hzz, Array.toArray_toList]
    unfold Oper.wp
    rw [hrun]
    exact hk' _ _ (.inl ⟨hT, S, he.put hd _, hh, hrel⟩)
  | some u =>
    obtain ⟨j', v, cs, hf, hv, ⟨r, hok, hcs, hper⟩, _, _⟩ := find_some 0 hm hT
    have hrun : (execOp a.eval ⟨some d, .lookup t x y true, ty, pos, aft, g⟩).run P w = .ok (.value (.tuple #[.agg (kd.cells u r).toArray, .bool true])) w := by
      simp only [execOp, he.eval hx, he.eval hy, Instr.lookup, Sem.run_bind, run_underlying ht, Result.andThen_ok, run_getMap hblk, Sem.run_pure, run_checkKey (e := 9999) hk, Instr.findKey, run_underlying hk, hf, if_true, hv, mkV, hcs]
    unfold Oper.wp
    rw [hrun]
    refine hk' _ _ (.inr ⟨u, r, hT, hok, S, he.put hd _, ⟨hh.own, hh.nod, hh.out, fun q hq => ?_⟩, hrel⟩)
    rcases List.mem_append.1 hq with hq | hq
    · exact hper q hq
    · exact hh.per q hq

theorem run_setMap {m : Nat} {es es' : Array MapEntry} {ck ck' : Nat} (h : w.heap[m]? = some (.map es ck)) : (setObj m (.map es' ck')).run P w = .ok () { w with heap := w.heap.setIfInBounds m (.map es' ck') } := by
  simp [setObj, Sem.run, h]
theorem Fr.setObj {m : Nat} {o : Obj} (w : World) : Fr [m] w { w with heap := w.heap.setIfInBounds m o } :=
  ⟨rfl, rfl, rfl, by simp, fun k hk hn => by simp only [List.mem_singleton] at hn; exact Array.getElem?_setIfInBounds_ne (fun e => hn e.symm)⟩

/-- m[k] = v. -/
theorem t_mapUpdate {α : Type} {kd : Kd α} {i j m ck : Nat} {es : Array MapEntry} {T : List (Int × α)} {k : Int} {u : α} {r : kd.Y} {js : List Nat} {GN : Array MapEntry → Nat → List Own} (hi : nthO G i = some (.blk m (.map es ck))) (hj : nthO Q j = some (Pers.map kd true T es ck)) (hx : ev env x = some (.map (some m))) (hy : ev env y = some (.int .i64 k)) (hv : ev env z = some (.agg (kd.cells u r).toArray))
    (hok : kd.ok u r) (hper : pickQ Q js = some (kd.pers u r)) (ht : P.underlying t = some (.map kt et)) (hk : P.underlying kt = some (.int .i64)) (hr : ∀ es' ck', repl G i (.blk m (.map es' ck')) = some (GN es' ck')) :
    Tr P ⟨none, .mapUpdate t x y z, ty, pos, aft, g⟩ (St c n env G Q) (fun a w => ∃ es' ck', St c n env (GN es' ck') (Pers.map kd true (mput T k u) es' ck' :: Q) a w) := by
  intro a w h K R hk'
  have hblk : w.heap[m]? = some (.map es ck) := h.own hi
  have hlt : m < w.heap.size := (Array.getElem?_eq_some_iff.1 hblk).1
  have he := h.en
  have hK : ∃ S, Heap S G Q w ∧ Rel c S G w ∧ (MapReps kd true w S T es.toList ∧ Stamped es ck) ∧ kd.K w S u (kd.cells u r) := by
    obtain ⟨S, he, hh, hrel⟩ := h
    exact ⟨S, hh, hrel, hh.per _ (nthO_mem hj), r, hok, rfl, fun q hq => hh.per q (pickQ_mem hper q hq)⟩
  obtain ⟨S, hh, hrel, ⟨hm, hst⟩, hKu⟩ := hK
  have fin : ∀ es' ck', MapReps kd true w S (mput T k u) es'.toList → Stamped es' ck' → (execOp a.eval ⟨none, .mapUpdate t x y z, ty, pos, aft, g⟩).run P w = .ok .skip { w with heap := w.heap.setIfInBounds m (.map es' ck') } → Oper.wp P ⟨none, .mapUpdate t x y z, ty, pos, aft, g⟩ a w K R := by
    intro es' ck' hm' hst' hrun
    unfold Oper.wp
    rw [hrun]
    refine hk' _ _ ⟨es', ck', ?_⟩
    have base : St c n env G (Pers.map kd true (mput T k u) es' ck' :: Q) a w := ⟨S, he, ⟨hh.own, hh.nod, hh.out, fun q hq => by
      rcases List.mem_cons.1 hq with rfl | hq
      · exact ⟨hm', hst'⟩
      · exact hh.per q hq⟩, hrel⟩
    refine base.write hi (hr es' ck') (Fr.setObj w) ?_ (fun k hk => .inl hk) (by simp [Own.keys]) he
    show (w.heap.setIfInBounds m _)[m]? = _
    simp [hlt]
  cases hT : mget T k with
  | none =>
    have hf := find_none 0 hm hT
    refine fin (es.push { key := .int .i64 k, val := .agg (kd.cells u r).toArray, born := ck }) (ck + 1) ?_ (hst.push _ _) ?_
    · simpa [mkV] using MapReps.push (b := ck) hKu hm hT
    · simp only [execOp, he.eval hx, he.eval hy, he.eval hv, Instr.mapUpdate, Sem.run_bind, run_underlying ht, Result.andThen_ok, run_getMap hblk, Sem.run_pure, run_checkKey (e := 9999) hk, Instr.findKey, run_underlying hk, hf, run_setMap hblk]
  | some uu =>
    obtain ⟨j', v, cs, hf, hv', _, ⟨e, he1, he2⟩, hmod⟩ := find_some 0 hm hT
    refine fin (es.modify j' fun e => { e with key := .int .i64 k, val := .agg (kd.cells u r).toArray }) ck ?_ (hst.modify _ _ _) ?_
    · simpa [mkV] using hmod u _ hKu
    · have hkey : ((es[0 + j']?).map (·.key)).getD (.int .i64 k) = .int .i64 k := by
        rw [Nat.zero_add, ← Array.getElem?_toList, he1]
        simp [he2]
      have hstay : (Instr.keyThatStays (.int .i64 k) (.int .i64 k)).run P w = .ok (.int .i64 k) w := by
        simp [Instr.keyThatStays, Instr.sameBits]
      rw [Nat.zero_add] at hf hkey
      simp only [execOp, he.eval hx, he.eval hy, he.eval hv, Instr.mapUpdate, Sem.run_bind, run_underlying ht, Result.andThen_ok, run_getMap hblk, Sem.run_pure, run_checkKey (e := 9999) hk, Instr.findKey, run_underlying hk, hf, hkey, hstay, run_setMap hblk]

/-- len(m). -/
theorem m_lenmap {α : Type} {kd : Kd α} {agg : Bool} {i j m ck : Nat} {es : Array MapEntry} {T : List (Int × α)} (hi : nthO G i = some (.blk m (.map es ck))) (hj : nthO Q j = some (Pers.map kd agg T es ck)) (hx : ev env x = some (.map (some m))) (ht : P.underlying t = some (.map kt et)) :
    Pm P c n G Q env ⟨some d, .call { callee := .builtin .len, args := #[x], argTypes := #[t] }, ty, pos, aft, g⟩ (.int .i64 (T.length : Int)) := fun a w he hm => by
  have hblk : w.heap[m]? = some (.map es ck) := hm.own hi
  obtain ⟨S, hq⟩ := hm.per hj
  have hl : es.size = T.length := by have := MapReps.length hq.1; simpa using this
  simp [execOp, resolve, invoke, builtin, Builtin.len_, he.eval hx, run_underlying ht, run_getMap hblk, goInt, hl]

theorem t_makeMap (hd : Nat.blt d n = true) : Tr P ⟨some d, .makeMap t none, ty, pos, aft, g⟩ (St c n env G Q) (fun a w => ∃ m, St c n ((d, .map (some m)) :: env) (.blk m (.map #[] 0) :: G) Q a w) := by
  intro a w h K R hk
  have hrun : (execOp a.eval ⟨some d, .makeMap t none, ty, pos, aft, g⟩).run P w = .ok (.value (.map (some w.heap.size))) (w.alloc (.map #[] 0)) := by
    simp [execOp, Instr.makeMap, newObj, Sem.run]
  unfold Oper.wp
  rw [hrun]
  exact hk _ _ ⟨w.heap.size, h.new _ (h.en.put hd _)⟩
end
end Go.Sx
