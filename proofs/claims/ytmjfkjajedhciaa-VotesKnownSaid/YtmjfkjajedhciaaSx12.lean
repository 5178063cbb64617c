/- SLICES, MORE: elements of kinds in blocks of one's own; rows that are read, cut; a row of one's own as a block. Plain definitions and theorems. -/
import Derived.Test.YtmjfkjajedhciaaSx11
set_option linter.unusedVariables false
set_option linter.unusedSimpArgs false
namespace Go.Sx
open Go

section
variable {P : Program} {c : Cx} {n : Nat} {env env' : List (Nat × Value)} {G G' Gr : List Own} {Q Q' : List Pers} {d : Nat} {ty : TypeId} {pos : String} {aft : Array Edge} {g : Option (Nat × Bool)} {x y z u : Operand} {t : TypeId} {a a' : Act} {w w' : World}
variable {ops : Array Oper} {R : Exit → Asr} {rest : List Oper} {A B : Asr} {cd : Code}

/-! ### a row of one's own as a block -/
theorem St.toblk {i e m cp sz : Nat} {A : Option Addr} {cs : List Value} (h : St c n env G Q a w) (hi : nthO G i = some (.row (.slice A m cp) e sz m cs)) (hm : 0 < m) :
    ∃ b sp, A = some ⟨b, 0, none⟩ ∧ cs.length = m * sz ∧ ∀ G', repl G i (.cells b (cs ++ sp) e) = some G' → St c n env G' Q a w := by
  have ho := h.own hi
  obtain ⟨hl, ho⟩ := ho
  rcases ho with ⟨_, h0⟩ | ⟨b, cap, cur, hv, _, hb, h1, h2, h3, h4⟩
  · omega
  · simp only [Value.slice.injEq] at hv
    obtain ⟨rfl, _, rfl⟩ := hv
    have hcur : cur = (cs ++ cur.toList.drop (m * sz)).toArray := by
      apply Array.toList_inj.1
      rw [← h4]
      simp
    refine ⟨b, cur.toList.drop (m * sz), rfl, hl, fun G' hr => ?_⟩
    refine h.write hi hr (Fr.refl _ _) ?_ (fun k hk => .inl ?_) (by simp [Own.keys]) h.en
    · show w.heap[b]? = _
      rw [hb, ← hcur]
    · simp [Own.keys, Value.ownBlock] at hk ⊢
      exact hk
theorem GC.toblk {i e m cp sz : Nat} {A : Option Addr} {cs : List Value} {G2 : Nat → List Value → List Own} (hi : nthO G i = some (.row (.slice A m cp) e sz m cs)) (hm : 0 < m) (hr : ∀ b sp, repl G i (.cells b (cs ++ sp) e) = some (G2 b sp))
    (k : ∀ b sp, A = some ⟨b, 0, none⟩ → cs.length = m * sz → GC P R cd (St c n env (G2 b sp) Q)) : GC P R cd (St c n env G Q) := fun a w h => by
  obtain ⟨b, sp, h1, h2, h3⟩ := h.toblk hi hm
  exact k b sp h1 h2 a w (h3 _ (hr b sp))
theorem GL.toblk {i e m cp sz : Nat} {A : Option Addr} {cs : List Value} {G2 : Nat → List Value → List Own} (hi : nthO G i = some (.row (.slice A m cp) e sz m cs)) (hm : 0 < m) (hr : ∀ b sp, repl G i (.cells b (cs ++ sp) e) = some (G2 b sp))
    (k : ∀ b sp, A = some ⟨b, 0, none⟩ → cs.length = m * sz → GL P ops R rest (St c n env (G2 b sp) Q)) : GL P ops R rest (St c n env G Q) := fun a w h => by
  obtain ⟨b, sp, h1, h2, h3⟩ := h.toblk hi hm
  exact k b sp h1 h2 a w (h3 _ (hr b sp))

/-! ### elements of a block -/
theorem reps_split {α : Type} {d : Kd α} {w : World} {S : Blocks} : ∀ {xs : List α} {cs : List Value}, Reps d w S xs cs → ∀ {i : Nat} {x : α}, xs[i]? = some x → ∃ c1 c c2, cs = c1 ++ (c ++ c2) ∧ c1.length = i * d.sz ∧ d.K w S x c ∧ Reps d w S (xs.take i) c1 ∧ Reps d w S (xs.drop (i + 1)) c2
  | [], _, _, i, x, hx => by simp at hx
  | y :: r, _, ⟨c, t, e, hk, h⟩, 0, x, hx => by
    simp at hx; subst hx
    exact ⟨[], c, t, by simpa using e, by simp, hk, rfl, by simpa using h⟩
  | y :: r, _, ⟨c, t, e, hk, h⟩, i + 1, x, hx => by
    obtain ⟨c1, c', c2, rfl, h1, h2, h3, h4⟩ := reps_split h (i := i) (x := x) (by simpa using hx)
    refine ⟨c ++ c1, c', c2, by simp [e], ?_, h2, ⟨c, c1, rfl, hk, h3⟩, by simpa using h4⟩
    rw [List.length_append, h1, Kd.K_len hk, Nat.add_mul]; omega

theorem nth_app {l1 l2 : List Value} {k : Nat} {v : Value} (h : nth l1 k = some v) : nth (l1 ++ l2) k = some v := by
  rw [nth_eq] at h ⊢
  rw [List.getElem?_append_left (List.getElem?_eq_some_iff.1 h).1]
  exact h
/-- What an element holds, told ahead. -/
theorem GC.layE {α : Type} {kd : Kd α} {j : Nat} {m : Int} {xs : List α} {cs : List Value} {z : α} (sp : List Value) (hj : nthO Q j = some (Pers.reps kd xs cs)) (h0 : 0 ≤ m) (hz : xs[m.toNat]? = some z)
    (kk : ∀ r, kd.ok z r → (∀ q v, nth (kd.cells z r) q = some v → nth (cs ++ sp) (0 + m.toNat * kd.sz + q) = some v) → GC P R cd (St c n env G (kd.pers z r ++ Q))) : GC P R cd (St c n env G Q) := fun a w h => by
  obtain ⟨S, he, hh, hrel⟩ := h
  obtain ⟨c1, cc, c2, rfl, h1, ⟨r, hok, rfl, hper⟩, _, _⟩ := reps_split (hh.per _ (nthO_mem hj)) hz
  refine kk r hok (fun q v hq => ?_) a w ⟨S, he, ⟨hh.own, hh.nod, hh.out, fun q hq => ?_⟩, hrel⟩
  · rw [nth_eq] at hq ⊢
    have hlt := (List.getElem?_eq_some_iff.1 hq).1
    rw [List.append_assoc, Nat.zero_add, ← h1, List.getElem?_append_right (by omega), Nat.add_sub_cancel_left, List.append_assoc, List.getElem?_append_left hlt]
    exact hq
  · rcases List.mem_append.1 hq with hq | hq
    · exact hper q hq
    · exact hh.per q hq
theorem GL.layE {α : Type} {kd : Kd α} {j : Nat} {m : Int} {xs : List α} {cs : List Value} {z : α} (sp : List Value) (hj : nthO Q j = some (Pers.reps kd xs cs)) (h0 : 0 ≤ m) (hz : xs[m.toNat]? = some z)
    (kk : ∀ r, kd.ok z r → (∀ q v, nth (kd.cells z r) q = some v → nth (cs ++ sp) (0 + m.toNat * kd.sz + q) = some v) → GL P ops R rest (St c n env G (kd.pers z r ++ Q))) : GL P ops R rest (St c n env G Q) := fun a w h => by
  obtain ⟨S, he, hh, hrel⟩ := h
  obtain ⟨c1, cc, c2, rfl, h1, ⟨r, hok, rfl, hper⟩, _, _⟩ := reps_split (hh.per _ (nthO_mem hj)) hz
  refine kk r hok (fun q v hq => ?_) a w ⟨S, he, ⟨hh.own, hh.nod, hh.out, fun q hq => ?_⟩, hrel⟩
  · rw [nth_eq] at hq ⊢
    have hlt := (List.getElem?_eq_some_iff.1 hq).1
    rw [List.append_assoc, Nat.zero_add, ← h1, List.getElem?_append_right (by omega), Nat.add_sub_cancel_left, List.append_assoc, List.getElem?_append_left hlt]
    exact hq
  · rcases List.mem_append.1 hq with hq | hq
    · exact hper q hq
    · exact hh.per q hq

theorem laid_app {l sp vs : List Value} {o : Nat} (h : o + vs.length ≤ l.length) : laid (l ++ sp) o vs = laid l o vs ++ sp := by
  unfold laid
  rw [List.take_append_of_le_length (by omega), List.drop_append_of_le_length (by omega)]
  simp
/-- An element is written. -/
theorem upd_elem {cs sp vs : List Value} {o : Nat} (h : 0 + o + vs.length ≤ cs.length) : upd (cs ++ sp) (0 + o) vs = some (laid cs o vs ++ sp) := by
  rw [upd_at _ _ _ (by simp; omega), ← laid_app (by omega), Nat.zero_add]
  rfl
theorem St.setE {α : Type} {kd : Kd α} {j : Nat} {js : List Nat} {m : Nat} {xs : List α} {cs : List Value} {z z' : α} {r : kd.Y} (h : St c n env G Q a w) (hj : nthO Q j = some (Pers.reps kd xs cs)) (hz : m < xs.length) (hq : pickQ Q js = some (kd.pers z' r)) (hok : kd.ok z' r) :
    St c n env G (Pers.reps kd (xs.set m z') (laid cs (m * kd.sz) (kd.cells z' r)) :: Q) a w :=
  h.know fun w S hp => by
    obtain ⟨c1, cc, c2, rfl, h1, hk, h3, h4⟩ := reps_split (hp _ (nthO_mem hj)) (List.getElem?_eq_getElem hz)
    have hl := Kd.K_len hk
    have e : laid (c1 ++ (cc ++ c2)) (m * kd.sz) (kd.cells z' r) = c1 ++ (kd.cells z' r ++ c2) := by
      unfold laid
      rw [← h1, List.take_left, List.drop_append, List.drop_of_length_le (by omega), show c1.length + (kd.cells z' r).length - c1.length = cc.length by rw [hl, kd.len]; omega, List.drop_left]
      simp
    rw [e, List.set_eq_take_append_cons_drop, if_pos hz]
    exact Reps.append (show Reps kd w S (z' :: xs.drop (m + 1)) (kd.cells z' r ++ c2) from ⟨_, _, rfl, ⟨r, hok, rfl, fun q hq' => hp _ (pickQ_mem hq q hq')⟩, h4⟩) h3
theorem GL.setE {α : Type} {kd : Kd α} {j : Nat} {js : List Nat} {m : Nat} {xs : List α} {cs : List Value} (z' : α) (r : kd.Y) (hj : nthO Q j = some (Pers.reps kd xs cs)) (hz : m < xs.length) (hq : pickQ Q js = some (kd.pers z' r)) (hok : kd.ok z' r)
    (k : GL P ops R rest (St c n env G (Pers.reps kd (xs.set m z') (laid cs (m * kd.sz) (kd.cells z' r)) :: Q))) : GL P ops R rest (St c n env G Q) := GL.imp (fun a w h => h.setE (z := z') hj hz hq hok) k

/-! ### cutting what is read -/
theorem St.cutQ {α : Type} {kd : Kd α} {j l h m : Nat} {A : Option Addr} {xs : List α} (hs : St c n env G Q a w) (hj : nthO Q j = some (Pers.row kd A xs)) (hh : h ≤ xs.length) (hm : h ≤ m) : St c n env G (Pers.row kd (slA A kd.sz l m) (seg xs l h) :: Q) a w :=
  hs.know fun w S hp => row_sub (hp _ (nthO_mem hj)) hh hm
theorem Tr.thenKnow {o : Oper} {q : Pers} {F : Asr} (h : Tr P o F (St c n env G Q)) (hq : ∀ w S, (∀ p ∈ Q, p.h w S) → q.h w S) : Tr P o F (St c n env G (q :: Q)) := h.mono (fun a w h => h) fun a w h => h.know hq
theorem t_cut_lh {α : Type} {kd : Kd α} {j cap : Nat} {A : Option Addr} {xs : List α} {kl kh : IntKind} {l h : Int} {e : TypeId} (hd : Nat.blt d n = true) (hj : nthO Q j = some (Pers.row kd A xs)) (hx : ev env x = some (.slice A xs.length cap)) (hl : ev env y = some (.int kl l)) (hh : ev env z = some (.int kh h))
    (ht : P.underlying t = some (.slice e)) (hs : sizeB P e = some kd.sz) (h0 : 0 ≤ l) (h1 : l ≤ h) (h2 : h ≤ xs.length) (hc : xs.length ≤ cap) :
    Tr P ⟨some d, .slice t x (some y) (some z) none, ty, pos, aft, g⟩ (St c n env G Q) (St c n ((d, .slice (slA A kd.sz l.toNat cap) (seg xs l.toNat h.toNat).length (cap - l.toNat)) :: env) G (Pers.row kd (slA A kd.sz l.toNat cap) (seg xs l.toNat h.toNat) :: Q)) :=
  Tr.thenKnow (Tr.val hd (p_cut_lh hx hl hh ht hs h0 h1 (by omega) (seg_length (by omega)).symm rfl rfl)) fun w S hp => row_sub (hp _ (nthO_mem hj)) (by omega) (by omega)
theorem t_cut_h {α : Type} {kd : Kd α} {j cap : Nat} {A : Option Addr} {xs : List α} {kh : IntKind} {h : Int} {e : TypeId} (hd : Nat.blt d n = true) (hj : nthO Q j = some (Pers.row kd A xs)) (hx : ev env x = some (.slice A xs.length cap)) (hh : ev env z = some (.int kh h))
    (ht : P.underlying t = some (.slice e)) (hs : sizeB P e = some kd.sz) (h1 : 0 ≤ h) (h2 : h ≤ xs.length) (hc : xs.length ≤ cap) :
    Tr P ⟨some d, .slice t x none (some z) none, ty, pos, aft, g⟩ (St c n env G Q) (St c n ((d, .slice (slA A kd.sz 0 cap) (seg xs 0 h.toNat).length (cap - 0)) :: env) G (Pers.row kd (slA A kd.sz 0 cap) (seg xs 0 h.toNat) :: Q)) :=
  Tr.thenKnow (Tr.val hd (p_cut_h hx hh ht hs h1 (by omega) (seg_length (by omega)).symm rfl rfl)) fun w S hp => row_sub (hp _ (nthO_mem hj)) (by omega) (by omega)
theorem t_cut_l {α : Type} {kd : Kd α} {j cap : Nat} {A : Option Addr} {xs : List α} {kl : IntKind} {l : Int} {e : TypeId} (hd : Nat.blt d n = true) (hj : nthO Q j = some (Pers.row kd A xs)) (hx : ev env x = some (.slice A xs.length cap)) (hl : ev env y = some (.int kl l))
    (ht : P.underlying t = some (.slice e)) (hs : sizeB P e = some kd.sz) (h0 : 0 ≤ l) (h1 : l ≤ xs.length) (hc : xs.length ≤ cap) :
    Tr P ⟨some d, .slice t x (some y) none none, ty, pos, aft, g⟩ (St c n env G Q) (St c n ((d, .slice (slA A kd.sz l.toNat cap) (seg xs l.toNat xs.length).length (cap - l.toNat)) :: env) G (Pers.row kd (slA A kd.sz l.toNat cap) (seg xs l.toNat xs.length) :: Q)) :=
  Tr.thenKnow (Tr.val hd (p_cut_l hx hl ht hs h0 h1 (seg_length (Nat.le_refl _)).symm rfl rfl)) fun w S hp => row_sub (hp _ (nthO_mem hj)) (by omega) (by omega)
end
end Go.Sx
namespace Go.Sx
open Go
theorem lendB {α : Type} {enc : α → Value} {h1 : ∀ x, (enc x).oneCell' = true} {b l h : Nat} {e : TypeId} {xs : List α} {Q : List Pers} :
    ∀ (w : World) (S : Blocks), (∀ o ∈ [Own.cells b (xs.map enc) e], o.holds w) → (∀ k ∈ keysOf [Own.cells b (xs.map enc) e], S k) → (∀ q ∈ Q, q.h w S) → ∀ q ∈ [Pers.row (Kd.sc enc h1) (some ⟨b, l, none⟩) (seg xs l h)], q.h w S := fun w S ho hS _ q hq => by
  rw [List.mem_singleton.1 hq]
  exact blk_sub (ho _ (List.mem_singleton.2 rfl)) (hS _ (by simp [keysOf, Own.keys]))
theorem seg_all {α : Type} (xs : List α) : seg xs 0 xs.length = xs := by simp [seg]
theorem laid_rep (b : List UInt8) (o k : Nat) : laid (b.map fun b => Value.int .u8 (b.toNat : Int)) o (List.replicate k (.int .u8 0)) = (laid b o (List.replicate k (0 : UInt8))).map fun b => Value.int .u8 (b.toNat : Int) := by
  rw [laid_map, List.map_replicate]; rfl
end Go.Sx
