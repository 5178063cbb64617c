/- NUMBERS OF 32 BITS as bit vectors; elements of arrays by value. Plain definitions and theorems. -/
import Derived.Test.YtmjfkjajedhciaaSx13
set_option linter.unusedVariables false
set_option linter.unusedSimpArgs false
namespace Go.Sx
open Go
abbrev w32 (x : BitVec 32) : Value := .int .u32 (x.toNat : Int)
theorem wrap32 (x : BitVec 32) : IntKind.u32.wrap (x.toNat : Int) = (x.toNat : Int) := by
  have := x.isLt
  simp [IntKind.wrap, IntKind.bits, IntKind.signed]
  omega
theorem ofInt32 (x : BitVec 32) : BitVec.ofInt 32 (x.toNat : Int) = x := by
  apply BitVec.eq_of_toNat_eq
  have := x.isLt
  rw [BitVec.toNat_ofInt]
  omega
theorem xor32 (a b : BitVec 32) : IntKind.u32.wrap ((BitVec.ofInt IntKind.u32.bits (a.toNat : Int) ^^^ BitVec.ofInt IntKind.u32.bits (b.toNat : Int)).toNat : Int) = ((a ^^^ b).toNat : Int) := by
  show IntKind.u32.wrap ((BitVec.ofInt 32 (a.toNat : Int) ^^^ BitVec.ofInt 32 (b.toNat : Int)).toNat : Int) = _
  rw [ofInt32, ofInt32, wrap32]
theorem and32 (a b : BitVec 32) : IntKind.u32.wrap ((BitVec.ofInt IntKind.u32.bits (a.toNat : Int) &&& BitVec.ofInt IntKind.u32.bits (b.toNat : Int)).toNat : Int) = ((a &&& b).toNat : Int) := by
  show IntKind.u32.wrap ((BitVec.ofInt 32 (a.toNat : Int) &&& BitVec.ofInt 32 (b.toNat : Int)).toNat : Int) = _
  rw [ofInt32, ofInt32, wrap32]
theorem com32 (a : BitVec 32) : IntKind.u32.wrap ((BitVec.ofInt IntKind.u32.bits IntKind.u32.max ^^^ BitVec.ofInt IntKind.u32.bits (a.toNat : Int)).toNat : Int) = ((~~~ a).toNat : Int) := by
  show IntKind.u32.wrap ((BitVec.ofInt 32 IntKind.u32.max ^^^ BitVec.ofInt 32 (a.toNat : Int)).toNat : Int) = _
  rw [ofInt32, show BitVec.ofInt 32 IntKind.u32.max = BitVec.allOnes 32 by decide, BitVec.allOnes_xor, wrap32]
section
variable {P : Program} {c : Cx} {n : Nat} {env : List (Nat × Value)} {d : Nat} {ty : TypeId} {pos : String} {aft : Array Edge} {g : Option (Nat × Bool)} {x y : Operand} {t u : TypeId}
theorem p_xor32 {a b : BitVec 32} (hx : ev env x = some (w32 a)) (hy : ev env y = some (w32 b)) : Pv P n env ⟨some d, .binOp .xor t x y u, ty, pos, aft, g⟩ (w32 (a ^^^ b)) := by
  have := p_xor (P := P) (n := n) (d := d) (ty := ty) (pos := pos) (aft := aft) (g := g) (t := t) (u := u) hx hy
  rw [xor32] at this
  exact this
theorem p_and32 {a b : BitVec 32} (hx : ev env x = some (w32 a)) (hy : ev env y = some (w32 b)) : Pv P n env ⟨some d, .binOp .and t x y u, ty, pos, aft, g⟩ (w32 (a &&& b)) := by
  have := p_and (P := P) (n := n) (d := d) (ty := ty) (pos := pos) (aft := aft) (g := g) (t := t) (u := u) hx hy
  rw [and32] at this
  exact this
theorem p_shr32 {a : BitVec 32} {yk : IntKind} (k : Nat) (hk : k ≤ 32) (hx : ev env x = some (w32 a)) (hy : ev env y = some (.int yk (k : Int))) : Pv P n env ⟨some d, .binOp .shr t x y u, ty, pos, aft, g⟩ (w32 (a >>> k)) := by
  have := p_shr (P := P) (n := n) (d := d) (ty := ty) (pos := pos) (aft := aft) (g := g) (t := t) (u := u) hx hy (by omega)
  have e : (a.toNat : Int).fdiv (2 ^ (min ((k : Int)).toNat IntKind.u32.bits)) = ((a >>> k).toNat : Int) := by
    have h1 : min ((k : Int)).toNat IntKind.u32.bits = k := by show min k 32 = k; omega
    rw [h1, Int.fdiv_eq_ediv_of_nonneg _ (by exact Int.pow_nonneg (by decide)), BitVec.toNat_ushiftRight, Nat.shiftRight_eq_div_pow]
    simp
  rw [e] at this
  exact this
theorem p_com32 {a : BitVec 32} (hx : ev env x = some (w32 a)) : Pv P n env ⟨some d, .unOp .xor t x, ty, pos, aft, g⟩ (w32 (~~~ a)) := fun act w he => by
  have e := com32 a
  simp only [execOp, he.eval hx, Op.unary, Op.intBits, Sem.run_bind, Sem.run_pure, Result.andThen_ok]
  rw [if_neg (show ¬ IntKind.u32.signed = true by decide)]
  exact congrArg (fun z => Result.ok (Next.value (Value.int .u32 z)) w) e
theorem p_conv8 {b : UInt8} (ht : P.underlying t ≠ none) (hu : P.underlying u = some (.int .u32)) (hx : ev env x = some (.int .u8 (b.toNat : Int))) : Pv P n env ⟨some d, .convert t u x, ty, pos, aft, g⟩ (w32 (b.toBitVec.zeroExtend 32)) := by
  have := p_conv (P := P) (n := n) (d := d) (ty := ty) (pos := pos) (aft := aft) (g := g) (t := t) (u := u) ht hu hx
  have e : IntKind.u32.wrap (b.toNat : Int) = ((b.toBitVec.zeroExtend 32).toNat : Int) := by
    have hb := b.toNat_lt
    have h2 : (b.toBitVec.zeroExtend 32).toNat = b.toNat := by
      simp
    rw [← wrap32, h2]
  rw [e] at this
  exact this
theorem p_half32 {a : BitVec 32} (hx : ev env x = some (w32 a)) (hy : ev env y = some (.int .u32 2)) : Pv P n env ⟨some d, .binOp .quo t x y u, ty, pos, aft, g⟩ (w32 (a >>> 1)) :=
  p_quo hx hy (by decide) (by
    have e : (a.toNat : Int).tdiv 2 = ((a >>> 1).toNat : Int) := by
      rw [BitVec.toNat_ushiftRight, Nat.shiftRight_eq_div_pow, Int.tdiv_eq_ediv_of_nonneg (by omega)]
      simp
    rw [e, wrap32])
theorem odd32 (a : BitVec 32) : ((a.toNat : Int).tmod 2 = 1) ↔ a.getLsbD 0 = true := by
  rw [Int.tmod_eq_emod_of_nonneg (by omega), ← BitVec.testBit_toNat, Nat.testBit_zero, decide_eq_true_eq]
  omega
/-- An array written out; an element of an array that is a value. -/
theorem p_buildA {len sz : Nat} {e : TypeId} {ps : List (Nat × Operand)} {z l : List Value} {parts : List (Nat × Value)} (ht : P.underlying t = some (.array len e)) (hs : sizeB P e = some sz) (hz : zeroL P t = some z) (hp : evP env ps = some parts) (hf : fillF (fun i => some (i * sz, sz)) z parts = some l) :
    Pv P n env ⟨some d, .build t ps.toArray, ty, pos, aft, g⟩ (.agg l.toArray) := fun a w he => by
  have hpm : (ps.toArray.map fun (p : Nat × Operand) => (p.1, a.eval p.2)) = parts.toArray := by rw [List.map_toArray, he.evPs hp]
  obtain ⟨zv, hzv, hzz⟩ := Option.map_eq_some_iff.1 hz
  have hcells : zv.cells = z.toArray := by rw [← hzz, ← vcells_eq]
  have hfill := fill_fillF (fun i => some (i * sz, sz)) parts z l hf
  simp only [execOp, hpm, Instr.build, Sem.run_bind, run_zeroB hzv, Result.andThen_ok, run_underlying ht, run_sizeB hs, hcells, hfill, Sem.run_pure]
theorem p_indexV {len sz : Nat} {e : TypeId} {k : IntKind} {m : Int} {l : List Value} {v : Value} (hx : ev env x = some (.agg l.toArray)) (hy : ev env y = some (.int k m)) (ht : P.underlying t = some (.array len e)) (hs : sizeB P e = some sz) (hg : aggB P e = some false) (h0 : 0 ≤ m) (h1 : m < len) (hv : nth l (m.toNat * sz) = some v) :
    Pv P n env ⟨some d, .index t x y, ty, pos, aft, g⟩ v := fun a w he => by
  simp only [execOp, he.eval hx, he.eval hy, Instr.index, asIntOf, Sem.run_bind, Sem.run_pure, Result.andThen_ok, run_underlying ht, if_pos (show 0 ≤ m ∧ m < (len : Int) from ⟨h0, h1⟩), run_sizeB hs, part_one hg hv]
end
end Go.Sx
