/- ROWS OF PAIRS as cells. Plain theorems over any program. -/
import Derived.Test.YtmjfkjajedhciaaSx20
set_option linter.unusedVariables false
set_option linter.unusedSimpArgs false
namespace Go.Sx
open Go Go.Proofs
section
variable {α : Type} (f g : α → Value)
def pr : List α → List Value
  | [] => []
  | x :: r => f x :: g x :: pr r
theorem pr_len : ∀ xs : List α, (pr f g xs).length = xs.length * 2
  | [] => rfl
  | x :: r => by simp [pr, pr_len r]; omega
theorem pr_app : ∀ xs ys : List α, pr f g (xs ++ ys) = pr f g xs ++ pr f g ys
  | [], ys => rfl
  | x :: r, ys => by simp [pr, pr_app r ys]
theorem pr_get : ∀ (xs : List α) (i : Nat), (pr f g xs)[i * 2]? = xs[i]?.map f ∧ (pr f g xs)[i * 2 + 1]? = xs[i]?.map g
  | [], i => by simp [pr]
  | x :: r, 0 => by simp [pr]
  | x :: r, i + 1 => by
    have := pr_get r i
    have e : (i + 1) * 2 = i * 2 + 1 + 1 := by omega
    have e2 : (i + 1) * 2 + 1 = i * 2 + 1 + 1 + 1 := by omega
    simp only [pr, e, List.getElem?_cons_succ]
    exact this
theorem at_pr [Inhabited α] {xs : List α} {sp : List Value} {o : Nat} {i : Nat} (ho : o = i * 2) (h : i < xs.length) : at_ (pr f g xs ++ sp) o [f (gt xs (i : Int)), g (gt xs (i : Int))] := by
  subst ho
  have hg := gt_ok (xs := xs) (i := (i : Int)) (by omega) (by omega)
  simp only [Int.toNat_natCast] at hg
  have := pr_get f g xs i
  rw [hg] at this
  have hl := pr_len f g xs
  simp only [at_, nth_eq, and_true]
  rw [List.getElem?_append_left (by omega), List.getElem?_append_left (by omega)]
  exact this
theorem pr_set : ∀ (xs : List α) (i : Nat) (x : α), i < xs.length → (pr f g xs).take (i * 2) ++ [f x, g x] ++ (pr f g xs).drop (i * 2 + 2) = pr f g (xs.set i x)
  | [], i, x, h => by simp at h
  | y :: r, 0, x, _ => by simp [pr]
  | y :: r, i + 1, x, h => by
    have := pr_set r i x (by simpa using h)
    have e : (i + 1) * 2 = i * 2 + 1 + 1 := by omega
    simp only [pr, e, List.take_succ_cons, List.set_cons_succ, List.drop_succ_cons, List.cons_append]
    rw [← this]
theorem upd_pr {xs : List α} {sp : List Value} {o i : Nat} {x : α} (ho : o = i * 2) (h : i < xs.length) : upd (pr f g xs ++ sp) o [f x, g x] = some (pr f g (xs.set i x) ++ sp) := by
  subst ho
  have hl := pr_len f g xs
  rw [upd_at _ _ _ (by simp; omega), ← pr_set f g xs i x h]
  rw [List.take_append_of_le_length (by omega), List.drop_append_of_le_length (by simp; omega)]
  simp
end
section
variable {P : Program} {c : Cx} {n : Nat} {env : List (Nat × Value)} {G G' : List Own} {Q : List Pers} {ty : TypeId} {pos : String} {aft : Array Edge} {g : Option (Nat × Bool)} {x : Operand} {t : TypeId}
theorem t_clearN {i b o dLen dCap : Nat} {zl l l' : List Value} {e e' : TypeId} (hi : nthO G i = some (.cells b l e')) (hx : ev env x = some (.slice (some ⟨b, o, none⟩) dLen dCap)) (ht : P.underlying t = some (.slice e)) (hz : zeroL P e = some zl) (hp : 0 < zl.length) (h1 : allOne zl = true)
    (hfit : o + dLen * zl.length ≤ l.length) (hl' : laid l o (reps zl dLen) = l') (hr : repl G i (.cells b l' e') = some G') :
    Tr P ⟨none, .call { callee := .builtin .clear, args := #[x], argTypes := #[t] }, ty, pos, aft, g⟩ (St c n env G Q) (St c n env G' Q) := by
  intro a w hst K R hk2
  have he := hst.en
  have hb : w.heap[b]? = some (.cells l.toArray e' (0, 0)) := hst.own hi
  obtain ⟨zv, hzv, hzz⟩ := Option.map_eq_some_iff.1 hz
  have hzc : zv.cells = zl.toArray := by rw [← hzz, ← vcells_eq]
  have hone : ∀ u ∈ reps zl dLen, u.oneCell' = true := by
    intro u hu
    obtain ⟨k, hk, rfl⟩ := List.getElem_of_mem hu
    rw [reps_length] at hk
    have hm : k % zl.length < zl.length := Nat.mod_lt _ hp
    have := reps_get zl hp dLen k hk
    rw [List.getElem?_eq_getElem (by rw [reps_length]; exact hk), List.getElem?_eq_getElem hm] at this
    simp only [Option.some.injEq] at this
    rw [this]
    exact allOne_mem h1 _ (List.getElem_mem hm)
  have hrun0 : (Builtin.clear_ #[t] ty #[.slice (some ⟨b, o, none⟩) dLen dCap]).run P w = .ok (.tuple #[]) (w.setRow b l'.toArray) := by
    cases hn : dLen with
    | zero =>
      have : l' = l := by rw [← hl', hn]; simp [laid, reps]
      rw [this, setRow_self w b l.toArray e' (0, 0) hb]
      simp [Builtin.clear_, run_underlying ht]
    | succ m =>
      have hcells : (Builtin.zeroCells zv.cells (m + 1)).toList = reps zl (m + 1) := by
        rw [hzc]
        have := range_map_reps zl hp (m + 1)
        unfold Builtin.zeroCells
        rw [List.size_toArray] at *
        rw [this]
      have hstore := run_storeCells_at (P := P) b o e' (reps zl (m + 1)) 0 l.toArray w hb (by rw [reps_length, List.size_toArray, ← hn]; omega) (by rw [← hn]; exact hone)
      rw [Nat.add_zero] at hstore
      simp only [Builtin.clear_, Sem.run_bind, run_underlying ht, Result.andThen_ok, List.getElem?_toArray, List.getElem?_cons_zero, Sem.run_pure, run_zeroB hzv, hcells, hstore]
      rw [← hl', hn]
      simp [laid]
  have hop : (execOp a.eval ⟨none, .call { callee := .builtin .clear, args := #[x], argTypes := #[t] }, ty, pos, aft, g⟩).run P w = .ok (.value (.tuple #[])) (w.setRow b l'.toArray) := by
    simp only [execOp, resolve, invoke, builtin, Sem.run_bind, Sem.run_pure, Result.andThen_ok, List.map_toArray, List.map_cons, List.map_nil, he.eval hx, hrun0]
  unfold Oper.wp
  rw [hop]
  exact hk2 _ _ (hst.write hi hr (Fr.setRow w b _) (setRow_heap w b _ _ _ _ hb) (fun k hk => .inl hk) (by simp [Own.keys]) he)
theorem q_callv {d : Nat} {f : FuncId} {z : Operand} {xs : List Operand} {vs us : List Value} {ts : Array TypeId} {js : List Nat} {Q1 : List Pers} {v : Value} (hf : Ent P f) (hz : ev env z = some (.func (.func f) #[] us.toArray)) (hx : evs env xs = some vs) (hq : pickQ Q js = some Q1) (h : Ct P f (vs ++ us) [] Q1 (fun u G2 Q2 => u = v ∧ G2 = [] ∧ Q2 = [])) :
    Pq P c n G Q env ⟨some d, .call { callee := .value z, args := xs.toArray, argTypes := ts }, ty, pos, aft, g⟩ v := fun a w he hm => by
  unfold Oper.quietAt
  rw [run_callv hf hz hx a w he]
  refine ⟨rfl, ?_⟩
  obtain ⟨S, hh, hrel⟩ := hm
  refine (h w S ⟨by simp, by simp [keysOf], by simp [keysOf], fun q hq' => hh.per q (pickQ_mem hq q hq')⟩).mono ?_
  rintro e w' ⟨u, G2, Q2, S', rfl, ⟨rfl, rfl, rfl⟩, _, hfr, _⟩
  exact ⟨rfl, Mem.keep ⟨S, hh, hrel⟩ hfr⟩
end
end Go.Sx
