/- MORE HELP: rows of one's own element by element, rows that are read, places told ahead of a region. Plain definitions and theorems. -/
import Derived.Test.YtmjfkjajedhciaaSx9
set_option linter.unusedVariables false
set_option linter.unusedSimpArgs false
namespace Go.Sx
open Go
section
variable {P : Program} {c : Cx} {n : Nat} {env env' : List (Nat × Value)} {G G' Gr : List Own} {Q Q' : List Pers} {d : Nat} {ty : TypeId} {pos : String} {aft : Array Edge} {g : Option (Nat × Bool)} {x y : Operand} {t : TypeId} {a a' : Act} {w w' : World}
variable {ops : Array Oper} {R : Exit → Asr} {rest : List Oper} {A B : Asr} {cd : Code}

theorem nthO_get : ∀ {α : Type} {l : List α} {i : Nat} {x : α}, nthO l i = some x → x ∈ l := fun h => nthO_mem h

/-- One element more. -/
theorem St.snoc {α : Type} {kd : Kd α} {xs : List α} {cs : List Value} {z : α} {r : kd.Y} {j : Nat} {js : List Nat} (h : St c n env G Q a w) (hj : nthO Q j = some (Pers.reps kd xs cs)) (hq : pickQ Q js = some (kd.pers z r)) (hok : kd.ok z r) :
    St c n env G (Pers.reps kd (xs ++ [z]) (cs ++ kd.cells z r) :: Q) a w :=
  h.know fun w S hp => Reps.append (Reps.single ⟨r, hok, rfl, fun q hq' => hp _ (pickQ_mem hq q hq')⟩) (hp _ (nthO_mem hj))
theorem GL.snoc {α : Type} {kd : Kd α} {xs : List α} {cs : List Value} {j : Nat} {js : List Nat} (z : α) (r : kd.Y) (hj : nthO Q j = some (Pers.reps kd xs cs)) (hq : pickQ Q js = some (kd.pers z r)) (hok : kd.ok z r)
    (k : GL P ops R rest (St c n env G (Pers.reps kd (xs ++ [z]) (cs ++ kd.cells z r) :: Q))) : GL P ops R rest (St c n env G Q) := GL.imp (fun a w h => h.snoc hj hq hok) k
theorem GC.snoc {α : Type} {kd : Kd α} {xs : List α} {cs : List Value} {j : Nat} {js : List Nat} (z : α) (r : kd.Y) (hj : nthO Q j = some (Pers.reps kd xs cs)) (hq : pickQ Q js = some (kd.pers z r)) (hok : kd.ok z r)
    (k : GC P R cd (St c n env G (Pers.reps kd (xs ++ [z]) (cs ++ kd.cells z r) :: Q))) : GC P R cd (St c n env G Q) := GC.imp (fun a w h => h.snoc hj hq hok) k

/-- A row of one's own is only read from now on. -/
theorem St.freezeR {α : Type} {kd : Kd α} {i j e m cp : Nat} {A : Option Addr} {xs : List α} {cs : List Value} (h : St c n env G Q a w) (ht : takeO G i = some (.row (.slice A m cp) e kd.sz m cs, G')) (hj : nthO Q j = some (Pers.reps kd xs cs)) (hp : 0 < kd.sz) :
    St c n env G' (Pers.row kd A xs :: Q) a w :=
  h.freeze (QN := [Pers.row kd A xs]) ht fun w S ho hS hq q hq' => by
    rw [List.mem_singleton.1 hq']
    exact row_pers ho hS (hq _ (nthO_mem hj)) hp
theorem GL.freezeR {α : Type} {kd : Kd α} {i j e m cp : Nat} {A : Option Addr} {xs : List α} {cs : List Value} (ht : takeO G i = some (.row (.slice A m cp) e kd.sz m cs, G')) (hj : nthO Q j = some (Pers.reps kd xs cs)) (hp : 0 < kd.sz)
    (k : GL P ops R rest (St c n env G' (Pers.row kd A xs :: Q))) : GL P ops R rest (St c n env G Q) := GL.imp (fun a w h => h.freezeR ht hj hp) k
theorem GC.freezeR {α : Type} {kd : Kd α} {i j e m cp : Nat} {A : Option Addr} {xs : List α} {cs : List Value} (ht : takeO G i = some (.row (.slice A m cp) e kd.sz m cs, G')) (hj : nthO Q j = some (Pers.reps kd xs cs)) (hp : 0 < kd.sz)
    (k : GC P R cd (St c n env G' (Pers.row kd A xs :: Q))) : GC P R cd (St c n env G Q) := GC.imp (fun a w h => h.freezeR ht hj hp) k

/-- The place of an element, told ahead of the region that asks for it. -/
theorem GC.lay {α : Type} {kd : Kd α} {x y : Operand} {j cap : Nat} {k : IntKind} {m : Int} {A : Option Addr} {xs : List α} {z : α} (hx : ev env x = some (.slice A xs.length cap)) (hy : ev env y = some (.int k m)) (hj : nthO Q j = some (Pers.row kd A xs)) (h0 : 0 ≤ m) (hz : xs[m.toNat]? = some z)
    (kk : ∀ p r, A = some p → kd.ok z r → GC P R cd (St c n env G (Pers.at (p.add (m.toNat * kd.sz)) (kd.cells z r) :: (kd.pers z r ++ Q)))) : GC P R cd (St c n env G Q) := fun a w h => by
  obtain ⟨S, he, hh, hrel⟩ := h
  have hlt : m.toNat < xs.length := (List.getElem?_eq_some_iff.1 hz).1
  rcases hh.per _ (nthO_mem hj) with h1 | ⟨p, hA, hS, hb, hrow⟩
  · subst h1; simp at hlt
  · obtain ⟨cs, ⟨r, hok, rfl, hper⟩, hc⟩ := hrow _ _ hz
    refine kk p r hA hok a w ⟨S, he, ⟨hh.own, hh.nod, hh.out, fun q hq => ?_⟩, hrel⟩
    rcases List.mem_cons.1 hq with rfl | hq
    · exact ⟨by rw [add_block]; exact hS, by rw [add_block]; exact hb, hc⟩
    · rcases List.mem_append.1 hq with hq | hq
      · exact hper q hq
      · exact hh.per q hq
theorem p_indexL {p : Addr} {A : Option Addr} {len cap sz : Nat} {k : IntKind} {m : Int} {e : TypeId} (hA : A = some p) (hx : ev env x = some (.slice A len cap)) (hy : ev env y = some (.int k m)) (ht : P.underlying t = some (.slice e)) (hs : sizeB P e = some sz) (h0 : 0 ≤ m) (h1 : m < len) :
    Pv P n env ⟨some d, .indexAddr t x y, ty, pos, aft, g⟩ (.pointer (some (Addr.add (p.add (m.toNat * sz)) 0))) := fun a w he => by
  subst hA
  rw [add_zero]
  simp only [execOp, he.eval hx, he.eval hy, run_indexAt ht hs h0 h1, Sem.run_bind, Result.andThen_ok, Sem.run_pure]
end
end Go.Sx
