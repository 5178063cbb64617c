/- THE VOLUME: shapes held against each other. -/
import Derived.Test.YtihhpkbbhfcdcaaVm2
import Derived.Laws.StructEq
set_option linter.unusedVariables false
set_option linter.unusedSimpArgs false
set_option maxRecDepth 100000
namespace Go.Proofs.Ytihhpkbbhfcdcaa
open Go Go.Sx Go.Proofs
theorem run_eqShape (w : World) (a b c d : Int) : (Op.equalIn 10000 23 (.agg #[.int .i64 a, .int .i64 b]) (.agg #[.int .i64 c, .int .i64 d])).run Try.prog w = .ok (decide (a = c) && decide (b = d)) w := by
  have h1 : Try.prog.fieldsOf 23 = (match Try.prog.underlying 23 with | some (.struct fs) => fs | _ => #[]) := rfl
  rw [run_equalIn_agg w 9999 _ _ _ (by rw [h1, Try.underlying23]) (by kernel_rfl), h1, Try.underlying23]
  have p1 : ∀ (l : List Value) (v : Value) (o : Nat) (w : World), nth l o = some v → (part 3 l.toArray o).run Try.prog w = .ok v w := fun l v o w h => part_one ag_3 h w
  have e0 : ∀ w, (part 3 #[.int .i64 a, .int .i64 b] 0).run Try.prog w = .ok (.int .i64 a) w := fun w => p1 [_, _] _ 0 w rfl
  have e1 : ∀ w, (part 3 #[.int .i64 a, .int .i64 b] 1).run Try.prog w = .ok (.int .i64 b) w := fun w => p1 [_, _] _ 1 w rfl
  have e2 : ∀ w, (part 3 #[.int .i64 c, .int .i64 d] 0).run Try.prog w = .ok (.int .i64 c) w := fun w => p1 [_, _] _ 0 w rfl
  have e3 : ∀ w, (part 3 #[.int .i64 c, .int .i64 d] 1).run Try.prog w = .ok (.int .i64 d) w := fun w => p1 [_, _] _ 1 w rfl
  have q : ∀ (x y : Int) (w : World), (Op.equalIn 9999 3 (.int .i64 x) (.int .i64 y)).run Try.prog w = .ok (x == y) w := fun x y w => run_equalIn_int w 9998 _ _ _ _ _ Try.underlying3
  simp only [Op.eqFields, Sem.run_bind, Sem.run_ite, e0, e1, e2, e3, q, Result.andThen_ok]
  by_cases h : a = c <;> by_cases h' : b = d <;> subst_vars <;> simp [Sem.run_ite, e0, e1, e2, e3, q, Result.andThen, *]
section
variable {n : Nat} {env : List (Nat × Value)} {dst : Nat} {ty : TypeId} {pos : String} {aft : Array Edge} {g : Option (Nat × Bool)} {x y : Operand} {u : TypeId}
theorem p_shapeNeq {a b c d : Int} (hx : ev env x = some (shpV a b)) (hy : ev env y = some (shpV c d)) : Pv Try.prog n env ⟨some dst, .binOp .neq 23 x y u, ty, pos, aft, g⟩ (.bool (!(decide (a = c) && decide (b = d)))) := fun act w he => by
  simp only [execOp, he.eval hx, he.eval hy, run_eqGuard_agg w _ _ _ _ _ _ (show Try.prog.eqGuardType Try.prog.depth 23 = false by kernel_rfl), Sem.run_bind, Result.andThen_ok, run_neq_struct, run_eqShape, Sem.run_pure]
theorem p_shapeEql {a b c d : Int} (hx : ev env x = some (shpV a b)) (hy : ev env y = some (shpV c d)) : Pv Try.prog n env ⟨some dst, .binOp .eql 23 x y u, ty, pos, aft, g⟩ (.bool (decide (a = c) && decide (b = d))) := fun act w he => by
  simp only [execOp, he.eval hx, he.eval hy, run_eqGuard_agg w _ _ _ _ _ _ (show Try.prog.eqGuardType Try.prog.depth 23 = false by kernel_rfl), Sem.run_bind, Result.andThen_ok, run_eql_struct, run_eqShape, Sem.run_pure]
end
end Go.Proofs.Ytihhpkbbhfcdcaa
