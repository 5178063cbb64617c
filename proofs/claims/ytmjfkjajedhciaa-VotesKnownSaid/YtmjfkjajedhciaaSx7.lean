/- ONE OPERATION AT A TIME: append, copy, clear, make, slicing, bytes and strings. Plain definitions and theorems over any program. -/
import Derived.Test.YtmjfkjajedhciaaSx6
set_option linter.unusedVariables false
set_option linter.unusedSimpArgs false
namespace Go.Sx
open Go

def bytesB (P : Program) (t : TypeId) : Option Nat := (P.info? t).map (·.bytes)

/-- The element type of a slice type: its number, cells, bytes, zero. -/
structure El (P : Program) (t e : TypeId) (sz by_ : Nat) (z : List Value) : Prop where
  und : P.underlying t = some (.slice e)
  size : sizeB P e = some sz
  byt : bytesB P e = some by_
  zero : zeroL P e = some z
  zlen : z.length = sz
  spos : 0 < sz
  bpos : 0 < by_

theorem rowAt_reps {α : Type} {d : Kd α} {w : World} {S : Blocks} : ∀ {xs : List α} {a : Addr}, (∀ i x, xs[i]? = some x → ∃ cs, d.K w S x cs ∧ CellsAt w (a.add (i * d.sz)) cs) → ∃ cs, Reps d w S xs cs ∧ CellsAt w a cs
  | [], a, _ => ⟨[], rfl, CellsAt.nil w a⟩
  | x :: r, a, h => by
    obtain ⟨c, hk, hc⟩ := h 0 x rfl
    obtain ⟨t, hr, ht⟩ := rowAt_reps (xs := r) (a := a.add d.sz) (fun i y hy => by
      obtain ⟨cs, h1, h2⟩ := h (i + 1) y (by simpa using hy)
      exact ⟨cs, h1, by rw [add_add]; rw [show d.sz + i * d.sz = (i + 1) * d.sz by rw [Nat.add_mul]; omega]; exact h2⟩)
    refine ⟨c ++ t, ⟨c, t, rfl, hk, hr⟩, fun j u hj => ?_⟩
    by_cases hlt : j < c.length
    · rw [List.getElem?_append_left hlt] at hj
      have := hc j u hj
      rwa [add_add, Nat.zero_mul, Nat.zero_add] at this
    · rw [List.getElem?_append_right (by omega)] at hj
      have := ht _ u hj
      rwa [add_add, Kd.K_len hk, show d.sz + (j - d.sz) = j by have := Kd.K_len hk; omega] at this

theorem scalar_cells {α : Type} {enc : α → Value} {h1 : ∀ x, (enc x).oneCell' = true} {w : World} {S : Blocks} : ∀ {xs : List α} {cs : List Value}, Reps (Kd.sc enc h1) w S xs cs → cs = xs.map enc
  | [], cs, h => h
  | x :: r, cs, ⟨c, t, e, ⟨_, _, hc, _⟩, h⟩ => by subst e; subst hc; rw [scalar_cells h]; rfl

section
variable {P : Program} {c : Cx} {n : Nat} {env env' : List (Nat × Value)} {G G' Gr : List Own} {Q Q' : List Pers} {d : Nat} {ty : TypeId} {pos : String} {aft : Array Edge} {g : Option (Nat × Bool)} {x y : Operand} {t : TypeId} {a a' : Act} {w w' : World}

theorem St.nilrow (h : St c n env G Q a w) (e : TypeId) (sz : Nat) : St c n env (.row (.slice none 0 0) e sz 0 [] :: G) Q a w := by
  obtain ⟨S, he, hh, hrel⟩ := h
  refine ⟨S, he, ⟨fun o ho => ?_, ?_, ?_, hh.per⟩, hrel.fr, hrel.old, ?_⟩
  · rcases List.mem_cons.1 ho with rfl | ho
    · exact World.ownsRow_nil w 0 e sz
    · exact hh.own o ho
  · simpa [keysOf, Own.keys, Value.ownBlock] using hh.nod
  · simpa [keysOf, Own.keys, Value.ownBlock] using hh.out
  · simpa [keysOf, Own.keys, Value.ownBlock] using hrel.key

/-- append. -/
theorem Tr.append {i n0 m cp sz by_ : Nat} {e : TypeId} {z : List Value} {v : Value} {cs : List Value} {A : Option Addr} {F : List Value → Prop} {QN : List Value → List Pers} {GN : Value → List Value → List Own} (hd : Nat.blt d n = true) (hel : El P t e sz by_ z)
    (hi : nthO G i = some (.row v e sz n0 cs)) (hx : ev env x = some v) (hy : ev env y = some (.slice A m cp))
    (hsrc : ∀ w S, Heap S G Q w → ∃ news, news.length = m * sz ∧ (∀ u ∈ news, u.oneCell' = true) ∧ (m = 0 ∨ ∃ ad, A = some ad ∧ CellsAt w ad news) ∧ F news ∧ ∀ q ∈ QN news, q.h w S)
    (hb : (n0 + m) * by_ ≤ 140737488355328) (hr : ∀ v' news, repl G i (.row v' e sz (n0 + m) (cs ++ news)) = some (GN v' news)) :
    Tr P ⟨some d, .call { callee := .builtin .append, args := #[x, y], argTypes := #[t, t] }, ty, pos, aft, g⟩ (St c n env G Q)
      (fun a w => ∃ v' news, F news ∧ St c n ((d, v') :: env) (GN v' news) (QN news ++ Q) a w) := by
  intro a w h K R hk
  obtain ⟨S, he, hh, hrel⟩ := h
  obtain ⟨news, hl, h1, hcell, hF, hQN⟩ := hsrc w S hh
  have hown : w.ownsRow 0 e sz v n0 cs := hh.own _ (nthO_mem hi)
  obtain ⟨ie, hie, hsz⟩ := Option.map_eq_some_iff.1 hel.size
  obtain ⟨ie', hie', hby⟩ := Option.map_eq_some_iff.1 hel.byt
  rw [hie] at hie'
  obtain rfl : ie = ie' := by simpa using hie'
  obtain ⟨zv, hzv, hzz⟩ := Option.map_eq_some_iff.1 hel.zero
  have hz : ie.zero = some zv := by simpa [zeroB, hie] using hzv
  have hzs : zv.cells.size = sz := by rw [← Array.length_toList, vcells_eq, hzz]; exact hel.zlen
  have hbp := hel.bpos
  have hnm : n0 + m ≤ 140737488355328 := Nat.le_trans (Nat.le_mul_of_pos_right _ hbp) hb
  have key : ∃ v' w', (Builtin.append_ #[t, t] ty #[v, .slice A m cp]).run P w = .ok v' w' ∧ w'.ownsRow 0 e sz v' (n0 + m) (cs ++ news) ∧ w.grownBy w' v.ownBlock ∧ (v'.ownBlock = v.ownBlock ∨ v'.ownBlock = some w.heap.size) := by
    rcases A with _ | ad
    · have hm : m = 0 := by
        rcases hcell with h | ⟨_, h, _⟩
        · exact h
        · cases h
      subst hm
      have hnews : news = [] := List.eq_nil_of_length_eq_zero (by simpa using hl)
      subst hnews
      refine ⟨v, w, ?_, by simpa using hown, ⟨rfl, rfl, rfl, Nat.le_refl _, fun _ _ _ => rfl⟩, .inl rfl⟩
      rcases hown.2 with ⟨rfl, rfl⟩ | ⟨g', cap, cur, rfl, _, hg, hnc, _⟩
      · simp [Builtin.append_, run_underlying hel.und, run_sizeB hel.size, Builtin.lenOf, Builtin.firstCells]
      · simp [Builtin.append_, run_underlying hel.und, run_sizeB hel.size, Builtin.lenOf, Builtin.firstCells, hnc, storeCells]
    · have hc : CellsAt w ad news := by
        rcases hcell with h | ⟨ad', h, hc⟩
        · subst h
          have : news = [] := List.eq_nil_of_length_eq_zero (by simpa using hl)
          subst this
          exact CellsAt.nil w ad
        · simp only [Option.some.injEq] at h; subst h; exact hc
      obtain ⟨v', w', h2, h3, h4, _, h5⟩ := run_append_own_at (P := P) w 0 t ty e ie zv sz by_ hel.und hie hz hsz hby hzs hel.spos v n0 cs hown ad m cp news hl hc h1 (by simp only [maxLen]; omega) hb (Nat.zero_le _)
      exact ⟨v', w', h2, h3, h4, h5⟩
  obtain ⟨v', w', hrun, hown', hgrow, hat⟩ := key
  have hop : (execOp a.eval ⟨some d, .call { callee := .builtin .append, args := #[x, y], argTypes := #[t, t] }, ty, pos, aft, g⟩).run P w = .ok (.value v') w' := by
    simp only [execOp, resolve, invoke, builtin, Sem.run_bind, Sem.run_pure, Result.andThen_ok, List.map_toArray, List.map_cons, List.map_nil, he.eval hx, he.eval hy, hrun]
  unfold Oper.wp
  rw [hop]
  refine hk _ _ ⟨v', news, hF, ?_⟩
  have hfr : Fr (Own.row v e sz n0 cs).keys w w' := ⟨hgrow.os, hgrow.tape, hgrow.output, hgrow.size, fun k hlt hnk => hgrow.block k hlt (fun e => hnk (by simp [Own.keys, ← e]))⟩
  have hkeys : ∀ k ∈ (Own.row v' e sz (n0 + m) (cs ++ news)).keys, k ∈ (Own.row v e sz n0 cs).keys ∨ w.heap.size ≤ k := by
    intro k hk'
    simp only [Own.keys] at hk' ⊢
    rcases hat with h | h
    · rw [h] at hk'; exact .inl hk'
    · rw [h] at hk'; simp at hk'; exact .inr (by omega)
  have hnd : (Own.row v' e sz (n0 + m) (cs ++ news)).keys.Nodup := by
    simp only [Own.keys]; cases v'.ownBlock <;> simp
  have base : St c n env G (QN news ++ Q) a w := ⟨S, he, ⟨hh.own, hh.nod, hh.out, fun q hq => by
    rcases List.mem_append.1 hq with hq | hq
    · exact hQN q hq
    · exact hh.per q hq⟩, hrel⟩
  exact base.write hi (hr v' news) hfr hown' hkeys hnd (he.put hd v')

/-- append(v, x) of elements that were just laid out. -/
theorem t_append {i k n0 m cp sz by_ b : Nat} {e e' : TypeId} {z l : List Value} {v : Value} {cs : List Value} {GN : Value → List Own} (hd : Nat.blt d n = true) (hel : El P t e sz by_ z)
    (hi : nthO G i = some (.row v e sz n0 cs)) (hk : nthO G k = some (.cells b l e')) (hx : ev env x = some v) (hy : ev env y = some (.slice (some ⟨b, 0, none⟩) m cp)) (hl : l.length = m * sz) (h1 : ∀ u ∈ l, u.oneCell' = true)
    (hb : (n0 + m) * by_ ≤ 140737488355328) (hr : ∀ v', repl G i (.row v' e sz (n0 + m) (cs ++ l)) = some (GN v')) :
    Tr P ⟨some d, .call { callee := .builtin .append, args := #[x, y], argTypes := #[t, t] }, ty, pos, aft, g⟩ (St c n env G Q) (fun a w => ∃ v', St c n ((d, v') :: env) (GN v') Q a w) := by
  refine (Tr.append (F := fun news => news = l) (QN := fun _ => []) (GN := fun v' news => (repl G i (.row v' e sz (n0 + m) (cs ++ news))).getD []) hd hel hi hx hy (fun w S hh => ?_) hb (fun v' news => ?_)).mono (fun a w h => h) ?_
  · refine ⟨l, hl, h1, .inr ⟨_, rfl, ?_⟩, rfl, fun q hq => by cases hq⟩
    exact cellsAt_blk (hh.own _ (nthO_mem hk)) (o := 0) (fun j u hj => by rwa [Nat.zero_add])
  · have : ∃ G2, repl G i (.row v' e sz (n0 + m) (cs ++ news)) = some G2 := by
      have key : ∀ (G : List Own) (i : Nat) (o o' : Own), nthO G i = some o → ∃ G2, repl G i o' = some G2 := by
        intro G
        induction G with
        | nil => intro i o o' h; simp [nthO] at h
        | cons p r ih =>
          intro i o o' h
          cases i with
          | zero => exact ⟨_, rfl⟩
          | succ i =>
            obtain ⟨G2, h2⟩ := ih i o o' h
            exact ⟨p :: G2, by simp [repl, h2]⟩
      exact key G i _ _ hi
    obtain ⟨G2, h2⟩ := this
    simp [h2]
  · rintro a w ⟨v', news, rfl, h⟩
    refine ⟨v', ?_⟩
    rw [hr v'] at h
    exact h

/-- append(v, xs...) of scalars that are read. -/
theorem t_appendS {α : Type} {enc : α → Value} {h1 : ∀ x, (enc x).oneCell' = true} {xs : List α} {i k n0 cp by_ : Nat} {e : TypeId} {z : List Value} {v : Value} {cs : List Value} {A : Option Addr} {GN : Value → List Own} (hd : Nat.blt d n = true) (hel : El P t e 1 by_ z)
    (hi : nthO G i = some (.row v e 1 n0 cs)) (hk : nthO Q k = some (Pers.row (Kd.sc enc h1) A xs)) (hx : ev env x = some v) (hy : ev env y = some (.slice A xs.length cp))
    (hb : (n0 + xs.length) * by_ ≤ 140737488355328) (hr : ∀ v', repl G i (.row v' e 1 (n0 + xs.length) (cs ++ xs.map enc)) = some (GN v')) :
    Tr P ⟨some d, .call { callee := .builtin .append, args := #[x, y], argTypes := #[t, t] }, ty, pos, aft, g⟩ (St c n env G Q) (fun a w => ∃ v', St c n ((d, v') :: env) (GN v') Q a w) := by
  have key : ∀ (G : List Own) (i : Nat) (o o' : Own), nthO G i = some o → ∃ G2, repl G i o' = some G2 := by
    intro G
    induction G with
    | nil => intro i o o' h; simp [nthO] at h
    | cons p r ih =>
      intro i o o' h
      cases i with
      | zero => exact ⟨_, rfl⟩
      | succ i =>
        obtain ⟨G2, h2⟩ := ih i o o' h
        exact ⟨p :: G2, by simp [repl, h2]⟩
  refine (Tr.append (F := fun news => news = xs.map enc) (QN := fun _ => []) (GN := fun v' news => (repl G i (.row v' e 1 (n0 + xs.length) (cs ++ news))).getD []) hd hel hi hx hy (fun w S hh => ?_) hb (fun v' news => ?_)).mono (fun a w h => h) ?_
  · refine ⟨xs.map enc, by simp, fun u hu => ?_, ?_, rfl, fun q hq => by cases hq⟩
    · obtain ⟨x, _, rfl⟩ := List.mem_map.1 hu; exact h1 x
    · rcases row_scalar (hh.per _ (nthO_mem hk)) with h | ⟨ad, h, _, _, hc⟩
      · left; rw [h]; rfl
      · exact .inr ⟨ad, h, hc⟩
  · obtain ⟨G2, h2⟩ := key G i _ (.row v' e 1 (n0 + xs.length) (cs ++ news)) hi
    simp [h2]
  · rintro a w ⟨v', news, rfl, h⟩
    refine ⟨v', ?_⟩
    rw [hr v'] at h
    exact h

/-- append(v, xs...) of whatever is read. -/
theorem t_appendR {α : Type} {kd : Kd α} {xs : List α} {i k n0 cp by_ : Nat} {e : TypeId} {z : List Value} {v : Value} {cs : List Value} {A : Option Addr} {GN : Value → List Value → List Own} (hd : Nat.blt d n = true) (hel : El P t e kd.sz by_ z)
    (hi : nthO G i = some (.row v e kd.sz n0 cs)) (hk : nthO Q k = some (Pers.row kd A xs)) (hx : ev env x = some v) (hy : ev env y = some (.slice A xs.length cp))
    (hb : (n0 + xs.length) * by_ ≤ 140737488355328) (hr : ∀ v' news, repl G i (.row v' e kd.sz (n0 + xs.length) (cs ++ news)) = some (GN v' news)) :
    Tr P ⟨some d, .call { callee := .builtin .append, args := #[x, y], argTypes := #[t, t] }, ty, pos, aft, g⟩ (St c n env G Q) (fun a w => ∃ v' news, St c n ((d, v') :: env) (GN v' news) (Pers.reps kd xs news :: Q) a w) := by
  refine (Tr.append (F := fun _ => True) (QN := fun news => [Pers.reps kd xs news]) hd hel hi hx hy (fun w S hh => ?_) hb hr).mono (fun a w h => h) ?_
  · rcases hh.per _ (nthO_mem hk) with h | ⟨ad, h, h2, h3, h4⟩
    · subst h
      exact ⟨[], by simp, by simp, .inl rfl, trivial, fun q hq => by rw [List.mem_singleton.1 hq]; exact rfl⟩
    · obtain ⟨cs', hr', hc'⟩ := rowAt_reps h4
      exact ⟨cs', hr'.length, hr'.one, .inr ⟨ad, h, hc'⟩, trivial, fun q hq => by rw [List.mem_singleton.1 hq]; exact hr'⟩
  · rintro a w ⟨v', news, _, h⟩
    exact ⟨v', news, h⟩

/-! ### slices of slices -/
def slA (A : Option Addr) (sz lo mx : Nat) : Option Addr := if mx = lo then A else A.map (·.add (lo * sz))

end
end Go.Sx
