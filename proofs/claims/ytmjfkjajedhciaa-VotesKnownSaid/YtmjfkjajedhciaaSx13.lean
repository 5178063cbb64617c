/- ROWS, MORE: their shape in a region of any order, an element more with its cells named, blocks that are only read from now on, how long a row is. -/
import Derived.Test.YtmjfkjajedhciaaSx12
set_option linter.unusedVariables false
set_option linter.unusedSimpArgs false
namespace Go.Sx
open Go
section
variable {P : Program} {c : Cx} {n : Nat} {env env' : List (Nat × Value)} {G G' Gr : List Own} {Q Q' : List Pers} {d : Nat} {ty : TypeId} {pos : String} {aft : Array Edge} {g : Option (Nat × Bool)} {x y z u : Operand} {t : TypeId} {a a' : Act} {w w' : World}
variable {ops : Array Oper} {R : Exit → Asr} {rest : List Oper} {A B : Asr} {cd : Code} {M : Asr} {I : World → Prop} {fuel : Nat} {listed : Array Bool}

theorem GA.shape {i e sz m : Nat} {v : Value} {cs : List Value} (hi : nthO G i = some (.row v e sz m cs)) (k : ∀ A cp, v = .slice A m cp → m ≤ cp → cp ≤ 9223372036854775807 → GA P ops M I fuel listed (St c n env G Q)) : GA P ops M I fuel listed (St c n env G Q) := fun a w h => by
  obtain ⟨A, cp, h1, h2, h3⟩ := h.shape hi
  exact k A cp h1 h2 h3 a w h
theorem GA.know {q : Pers} (hq : ∀ w S, (∀ p ∈ Q, p.h w S) → q.h w S) (k : GA P ops M I fuel listed (St c n env G (q :: Q))) : GA P ops M I fuel listed (St c n env G Q) := GA.imp (fun a w h => h.know hq) k

/-- One element more, its cells named. -/
theorem St.snocL {α : Type} {kd : Kd α} {xs : List α} {cs l : List Value} {z : α} {r : kd.Y} {j : Nat} {js : List Nat} (h : St c n env G Q a w) (hl : kd.cells z r = l) (hj : nthO Q j = some (Pers.reps kd xs cs)) (hq : pickQ Q js = some (kd.pers z r)) (hok : kd.ok z r) :
    St c n env G (Pers.reps kd (xs ++ [z]) (cs ++ l) :: Q) a w := by
  subst hl; exact h.snoc hj hq hok
theorem GL.snocL {α : Type} {kd : Kd α} {xs : List α} {cs l : List Value} {j : Nat} {js : List Nat} (z : α) (r : kd.Y) (hl : kd.cells z r = l) (hj : nthO Q j = some (Pers.reps kd xs cs)) (hq : pickQ Q js = some (kd.pers z r)) (hok : kd.ok z r)
    (k : GL P ops R rest (St c n env G (Pers.reps kd (xs ++ [z]) (cs ++ l) :: Q))) : GL P ops R rest (St c n env G Q) := GL.imp (fun a w h => h.snocL hl hj hq hok) k

/-- A block of scalars is only read from now on. -/
theorem St.freezeC {α : Type} {enc : α → Value} {h1 : ∀ x, (enc x).oneCell' = true} {i b e : Nat} {xs : List α} (h : St c n env G Q a w) (ht : takeO G i = some (.cells b (xs.map enc) e, G')) : St c n env G' (Pers.row (Kd.sc enc h1) (some ⟨b, 0, none⟩) xs :: Q) a w :=
  h.freeze (QN := [Pers.row (Kd.sc enc h1) (some ⟨b, 0, none⟩) xs]) ht fun w S ho hS hq q hq' => by
    rw [List.mem_singleton.1 hq']
    have := blk_sub (h1 := h1) (l := 0) (h := xs.length) (S := S) ho (hS b (by simp [Own.keys]))
    rwa [seg_all] at this
theorem GL.freezeC {α : Type} {enc : α → Value} {h1 : ∀ x, (enc x).oneCell' = true} {i b e : Nat} {xs : List α} (ht : takeO G i = some (.cells b (xs.map enc) e, G')) (k : GL P ops R rest (St c n env G' (Pers.row (Kd.sc enc h1) (some ⟨b, 0, none⟩) xs :: Q))) : GL P ops R rest (St c n env G Q) := GL.imp (fun a w h => h.freezeC ht) k
theorem GC.freezeC {α : Type} {enc : α → Value} {h1 : ∀ x, (enc x).oneCell' = true} {i b e : Nat} {xs : List α} (ht : takeO G i = some (.cells b (xs.map enc) e, G')) (k : GC P R cd (St c n env G' (Pers.row (Kd.sc enc h1) (some ⟨b, 0, none⟩) xs :: Q))) : GC P R cd (St c n env G Q) := GC.imp (fun a w h => h.freezeC ht) k
theorem GA.freezeC {α : Type} {enc : α → Value} {h1 : ∀ x, (enc x).oneCell' = true} {i b e : Nat} {xs : List α} (ht : takeO G i = some (.cells b (xs.map enc) e, G')) (k : GA P ops M I fuel listed (St c n env G' (Pers.row (Kd.sc enc h1) (some ⟨b, 0, none⟩) xs :: Q))) : GA P ops M I fuel listed (St c n env G Q) := GA.imp (fun a w h => h.freezeC ht) k

theorem GC.repsLen {α : Type} {kd : Kd α} {j : Nat} {xs : List α} {cs : List Value} (hj : nthO Q j = some (Pers.reps kd xs cs)) (k : cs.length = xs.length * kd.sz → GC P R cd (St c n env G Q)) : GC P R cd (St c n env G Q) := fun a w h => by
  obtain ⟨S, hp⟩ := h.per hj
  exact k (Reps.length hp) a w h
theorem GA.layE {α : Type} {kd : Kd α} {j : Nat} {m : Int} {xs : List α} {cs : List Value} {z : α} (sp : List Value) (hj : nthO Q j = some (Pers.reps kd xs cs)) (h0 : 0 ≤ m) (hz : xs[m.toNat]? = some z)
    (kk : ∀ r, kd.ok z r → (∀ q v, nth (kd.cells z r) q = some v → nth (cs ++ sp) (0 + m.toNat * kd.sz + q) = some v) → GA P ops M I fuel listed (St c n env G (kd.pers z r ++ Q))) : GA P ops M I fuel listed (St c n env G Q) := fun a w h => by
  obtain ⟨S, he, hh, hrel⟩ := h
  obtain ⟨c1, cc, c2, rfl, h1, ⟨r, hok, rfl, hper⟩, _, _⟩ := reps_split (hh.per _ (nthO_mem hj)) hz
  refine kk r hok (fun q v hq => ?_) a w ⟨S, he, ⟨hh.own, hh.nod, hh.out, fun q hq => ?_⟩, hrel⟩
  · rw [nth_eq] at hq ⊢
    have hlt := (List.getElem?_eq_some_iff.1 hq).1
    rw [List.append_assoc, Nat.zero_add, ← h1, List.getElem?_append_right (by omega), Nat.add_sub_cancel_left, List.append_assoc, List.getElem?_append_left hlt]
    exact hq
  · rcases List.mem_append.1 hq with hq | hq
    · exact hper q hq
    · exact hh.per q hq
theorem GA.setE {α : Type} {kd : Kd α} {j : Nat} {js : List Nat} {m : Nat} {xs : List α} {cs : List Value} (z' : α) (r : kd.Y) (hj : nthO Q j = some (Pers.reps kd xs cs)) (hz : m < xs.length) (hq : pickQ Q js = some (kd.pers z' r)) (hok : kd.ok z' r)
    (k : GA P ops M I fuel listed (St c n env G (Pers.reps kd (xs.set m z') (laid cs (m * kd.sz) (kd.cells z' r)) :: Q))) : GA P ops M I fuel listed (St c n env G Q) := GA.imp (fun a w h => h.setE (z := z') hj hz hq hok) k
theorem GC.setE {α : Type} {kd : Kd α} {j : Nat} {js : List Nat} {m : Nat} {xs : List α} {cs : List Value} (z' : α) (r : kd.Y) (hj : nthO Q j = some (Pers.reps kd xs cs)) (hz : m < xs.length) (hq : pickQ Q js = some (kd.pers z' r)) (hok : kd.ok z' r)
    (k : GC P R cd (St c n env G (Pers.reps kd (xs.set m z') (laid cs (m * kd.sz) (kd.cells z' r)) :: Q))) : GC P R cd (St c n env G Q) := GC.imp (fun a w h => h.setE (z := z') hj hz hq hok) k

/-- Numbers in a block with spare cells. -/
theorem nth_mapS {α : Type} [Inhabited α] (enc : α → Value) {xs : List α} {sp : List Value} {i : Int} (h0 : 0 ≤ i) (h : i < (xs.length : Int)) : nth (xs.map enc ++ sp) (0 + i.toNat * 1) = some (enc (gt xs i)) := nth_app (nth_map enc h0 h)
theorem upd_mapS {α : Type} (enc : α → Value) {xs : List α} {sp : List Value} {i : Int} {x : α} (h0 : 0 ≤ i) (h : i < (xs.length : Int)) : upd (xs.map enc ++ sp) (0 + i.toNat * 1) [enc x] = some ((xs.set i.toNat x).map enc ++ sp) := by
  rw [upd_elem (by simp; omega)]
  have := upd_map enc (xs := xs) (x := x) h0 h
  rw [upd_at _ _ _ (by simp; omega)] at this
  simp only [Option.some.injEq] at this
  rw [← this]
  simp [laid]
end
end Go.Sx
