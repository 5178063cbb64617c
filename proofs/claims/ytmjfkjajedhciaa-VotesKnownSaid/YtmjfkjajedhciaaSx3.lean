/- ONE OPERATION AT A TIME: the triples of the operations that touch no memory, and of loads, stores and new variables. Plain definitions and theorems over any program. -/
import Derived.Test.YtmjfkjajedhciaaSx2
set_option linter.unusedVariables false
set_option linter.unusedSimpArgs false
namespace Go.Sx
open Go

section
variable {P : Program} {c : Cx} {n : Nat} {env : List (Nat × Value)} {G : List Own} {Q : List Pers} {d : Nat} {ty : TypeId} {pos : String} {aft : Array Edge} {g : Option (Nat × Bool)}

/-- An operation that yields a value in whatever world. -/
def Pv (P : Program) (n : Nat) (env : List (Nat × Value)) (o : Oper) (v : Value) : Prop := ∀ a w, Env n env a → (execOp a.eval o).run P w = .ok (.value v) w

theorem Tr.val {op : Op} {v : Value} (hd : Nat.blt d n = true) (h : Pv P n env ⟨some d, op, ty, pos, aft, g⟩ v) :
    Tr P ⟨some d, op, ty, pos, aft, g⟩ (St c n env G Q) (St c n ((d, v) :: env) G Q) := by
  rintro a w ⟨S, he, hh, hr⟩ K Q' hk
  unfold Oper.wp
  rw [h a w he]
  exact hk _ _ ⟨S, he.put hd v, hh, hr⟩

theorem GL.pure {ops rest : _} {R : Exit → Asr} {op : Op} {v : Value} (hd : Nat.blt d n = true) (h : Pv P n env ⟨some d, op, ty, pos, aft, none⟩ v) (k : GL P ops R rest (St c n ((d, v) :: env) G Q)) : GL P ops R (⟨some d, op, ty, pos, aft, none⟩ :: rest) (St c n env G Q) := GL.step rfl (Tr.val hd h) k
theorem p_move {x : Operand} {v : Value} (hx : ev env x = some v) : Pv P n env ⟨some d, .move x, ty, pos, aft, g⟩ (v) :=
  fun a w he => by simp [execOp, he.eval hx]
theorem p_assign {x : Operand} {v : Value} (hx : ev env x = some v) : Pv P n env ⟨some d, .assign x, ty, pos, aft, g⟩ (v) :=
  fun a w he => by simp [execOp, he.eval hx]
theorem p_pick_true {x y z : Operand} {v : Value} (hx : ev env x = some (.bool true)) (hy : ev env y = some v) : Pv P n env ⟨some d, .pick x y z, ty, pos, aft, g⟩ (v) :=
  fun a w he => by simp [execOp, he.eval hx, he.eval hy, asBool]
theorem p_pick_false {x y z : Operand} {v : Value} (hx : ev env x = some (.bool false)) (hz : ev env z = some v) : Pv P n env ⟨some d, .pick x y z, ty, pos, aft, g⟩ (v) :=
  fun a w he => by simp [execOp, he.eval hx, he.eval hz, asBool]
theorem p_not {x : Operand} {b : Bool} {t : TypeId} (hx : ev env x = some (.bool b)) : Pv P n env ⟨some d, .unOp .not t x, ty, pos, aft, g⟩ (.bool (!b)) :=
  fun a w he => by simp [execOp, he.eval hx, Op.unary]
theorem p_neg {x : Operand} {k : IntKind} {m : Int} {t : TypeId} (hx : ev env x = some (.int k m)) (hr : k.wrap (0 - m) = -m) : Pv P n env ⟨some d, .unOp .neg t x, ty, pos, aft, g⟩ (.int k (-m)) :=
  fun a w he => by simp only [execOp, he.eval hx, Op.unary, Op.intArith, Sem.run_bind, Sem.run_pure, Result.andThen_ok, hr]
theorem p_extract {x : Operand} {vs : List Value} {i : Nat} {v : Value} (hx : ev env x = some (.tuple vs.toArray)) (hi : nth vs i = some v) : Pv P n env ⟨some d, .extract x i, ty, pos, aft, g⟩ (v) :=
  fun a w he => by rw [nth_eq] at hi; simp [execOp, he.eval hx, Instr.extract, hi]
theorem p_nilCheck {x : Operand} {p : Addr} (hx : ev env x = some (.pointer (some p))) : Pv P n env ⟨some d, .nilCheck x, ty, pos, aft, g⟩ (.pointer (some p)) :=
  fun a w he => by simp [execOp, he.eval hx]
theorem p_makeFunc {fn : Fn} {first captured : List Operand} {vs us : List Value} (h1 : evs env first = some vs) (h2 : evs env captured = some us) : Pv P n env ⟨some d, .makeFunc fn first.toArray captured.toArray, ty, pos, aft, g⟩ (.func fn vs.toArray us.toArray) :=
  fun a w he => by simp [execOp, Instr.makeFunc, he.evals h1, he.evals h2]

/-! #### whole numbers -/
theorem ibeq (m l : Int) : (m == l) = decide (m = l) := by rw [Bool.eq_iff_iff]; simp
theorem ibne (m l : Int) : (m != l) = decide (m ≠ l) := by rw [Bool.eq_iff_iff]; simp

theorem eqGuard_int {op : BinOp} {t : TypeId} {x y : Operand} {k : IntKind} {m : Int} {v : Value} (w : World) : (eqGuard op t x y (.int k m) v).run P w = .ok () w := by
  unfold eqGuard
  cases op <;> simp
theorem eqGuard_bool {op : BinOp} {t : TypeId} {x y : Operand} {b : Bool} {v : Value} (w : World) : (eqGuard op t x y (.bool b) v).run P w = .ok () w := by
  unfold eqGuard
  cases op <;> simp
theorem eqGuard_string {op : BinOp} {t : TypeId} {x y : Operand} {b : ByteArray} {v : Value} (w : World) : (eqGuard op t x y (.string b) v).run P w = .ok () w := by
  unfold eqGuard
  cases op <;> simp
theorem eqGuard_pointer {op : BinOp} {t : TypeId} {x y : Operand} {b : Option Addr} {v : Value} (w : World) : (eqGuard op t x y (.pointer b) v).run P w = .ok () w := by
  unfold eqGuard
  cases op <;> simp
theorem eqGuard_slice {op : BinOp} {t : TypeId} {x y : Operand} {b : Option Addr} {l m : Nat} {v : Value} (w : World) : (eqGuard op t x y (.slice b l m) v).run P w = .ok () w := by
  unfold eqGuard
  cases op <;> simp

section
variable {x y : Operand} {k : IntKind} {m l : Int} {t u : TypeId}
theorem Pv.bin {op : BinOp} {v : Value} (hx : ev env x = some (.int k m)) (hy : ev env y = some (.int k l)) (h : ∀ w, (binOp op t (.int k m) (.int k l)).run P w = .ok v w) :
    Pv P n env ⟨some d, .binOp op t x y u, ty, pos, aft, g⟩ v :=
  fun a w he => by simp only [execOp, he.eval hx, he.eval hy, Sem.run_bind, eqGuard_int, Result.andThen_ok, h, Sem.run_pure]
theorem p_add (hx : ev env x = some (.int k m)) (hy : ev env y = some (.int k l)) (hr : k.wrap (m + l) = m + l) : Pv P n env ⟨some d, .binOp .add t x y u, ty, pos, aft, g⟩ (.int k (m + l)) :=
  Pv.bin hx hy fun w => by simp [binOp, Op.intArith, hr]
theorem p_sub (hx : ev env x = some (.int k m)) (hy : ev env y = some (.int k l)) (hr : k.wrap (m - l) = m - l) : Pv P n env ⟨some d, .binOp .sub t x y u, ty, pos, aft, g⟩ (.int k (m - l)) :=
  Pv.bin hx hy fun w => by simp [binOp, Op.intArith, hr]
theorem p_mul (hx : ev env x = some (.int k m)) (hy : ev env y = some (.int k l)) (hr : k.wrap (m * l) = m * l) : Pv P n env ⟨some d, .binOp .mul t x y u, ty, pos, aft, g⟩ (.int k (m * l)) :=
  Pv.bin hx hy fun w => by simp [binOp, Op.intArith, hr]
/-- A sum that wraps, whatever it is. -/
theorem p_addw (hx : ev env x = some (.int k m)) (hy : ev env y = some (.int k l)) : Pv P n env ⟨some d, .binOp .add t x y u, ty, pos, aft, g⟩ (.int k (k.wrap (m + l))) :=
  Pv.bin hx hy fun w => by simp [binOp, Op.intArith]
theorem p_subw (hx : ev env x = some (.int k m)) (hy : ev env y = some (.int k l)) : Pv P n env ⟨some d, .binOp .sub t x y u, ty, pos, aft, g⟩ (.int k (k.wrap (m - l))) :=
  Pv.bin hx hy fun w => by simp [binOp, Op.intArith]
theorem p_mulw (hx : ev env x = some (.int k m)) (hy : ev env y = some (.int k l)) : Pv P n env ⟨some d, .binOp .mul t x y u, ty, pos, aft, g⟩ (.int k (k.wrap (m * l))) :=
  Pv.bin hx hy fun w => by simp [binOp, Op.intArith]
theorem p_quo {r : Int} (hx : ev env x = some (.int k m)) (hy : ev env y = some (.int k l)) (h0 : l ≠ 0) (hr : k.wrap (m.tdiv l) = r) : Pv P n env ⟨some d, .binOp .quo t x y u, ty, pos, aft, g⟩ (.int k r) :=
  Pv.bin hx hy fun w => by simp [binOp, Op.intDiv, h0, hr]
theorem p_rem {r : Int} (hx : ev env x = some (.int k m)) (hy : ev env y = some (.int k l)) (h0 : l ≠ 0) (hr : m.tmod l = r) : Pv P n env ⟨some d, .binOp .rem t x y u, ty, pos, aft, g⟩ (.int k r) :=
  Pv.bin hx hy fun w => by simp [binOp, Op.intDiv, h0, hr]
theorem p_and (hx : ev env x = some (.int k m)) (hy : ev env y = some (.int k l)) : Pv P n env ⟨some d, .binOp .and t x y u, ty, pos, aft, g⟩ (.int k (k.wrap ((BitVec.ofInt k.bits m &&& BitVec.ofInt k.bits l).toNat : Int))) :=
  Pv.bin hx hy fun w => by simp [binOp, Op.intBits]
theorem p_or (hx : ev env x = some (.int k m)) (hy : ev env y = some (.int k l)) : Pv P n env ⟨some d, .binOp .or t x y u, ty, pos, aft, g⟩ (.int k (k.wrap ((BitVec.ofInt k.bits m ||| BitVec.ofInt k.bits l).toNat : Int))) :=
  Pv.bin hx hy fun w => by simp [binOp, Op.intBits]
theorem p_xor (hx : ev env x = some (.int k m)) (hy : ev env y = some (.int k l)) : Pv P n env ⟨some d, .binOp .xor t x y u, ty, pos, aft, g⟩ (.int k (k.wrap ((BitVec.ofInt k.bits m ^^^ BitVec.ofInt k.bits l).toNat : Int))) :=
  Pv.bin hx hy fun w => by simp [binOp, Op.intBits]
theorem p_eql (hx : ev env x = some (.int k m)) (hy : ev env y = some (.int k l)) : Pv P n env ⟨some d, .binOp .eql t x y u, ty, pos, aft, g⟩ (.bool (decide (m = l))) :=
  Pv.bin hx hy fun w => by simp only [binOp, Op.intCmp, ne_eq, not_true_eq_false, if_false, ibeq, Sem.run_pure]
theorem p_neq (hx : ev env x = some (.int k m)) (hy : ev env y = some (.int k l)) : Pv P n env ⟨some d, .binOp .neq t x y u, ty, pos, aft, g⟩ (.bool (decide (m ≠ l))) :=
  Pv.bin hx hy fun w => by simp only [binOp, Op.intCmp, ne_eq, not_true_eq_false, if_false, ibne, Sem.run_pure]
theorem p_lss (hx : ev env x = some (.int k m)) (hy : ev env y = some (.int k l)) : Pv P n env ⟨some d, .binOp .lss t x y u, ty, pos, aft, g⟩ (.bool (decide (m < l))) :=
  Pv.bin hx hy fun w => by simp [binOp, Op.intCmp]
theorem p_leq (hx : ev env x = some (.int k m)) (hy : ev env y = some (.int k l)) : Pv P n env ⟨some d, .binOp .leq t x y u, ty, pos, aft, g⟩ (.bool (decide (m ≤ l))) :=
  Pv.bin hx hy fun w => by simp [binOp, Op.intCmp]
theorem p_gtr (hx : ev env x = some (.int k m)) (hy : ev env y = some (.int k l)) : Pv P n env ⟨some d, .binOp .gtr t x y u, ty, pos, aft, g⟩ (.bool (decide (m > l))) :=
  Pv.bin hx hy fun w => by simp [binOp, Op.intCmp]
theorem p_geq (hx : ev env x = some (.int k m)) (hy : ev env y = some (.int k l)) : Pv P n env ⟨some d, .binOp .geq t x y u, ty, pos, aft, g⟩ (.bool (decide (m ≥ l))) :=
  Pv.bin hx hy fun w => by simp [binOp, Op.intCmp]
theorem p_shl {yk : IntKind} (hx : ev env x = some (.int k m)) (hy : ev env y = some (.int yk l)) (h0 : 0 ≤ l) : Pv P n env ⟨some d, .binOp .shl t x y u, ty, pos, aft, g⟩ (.int k (k.wrap (m * 2 ^ (min l.toNat k.bits)))) :=
  fun a w he => by simp only [execOp, he.eval hx, he.eval hy, Sem.run_bind, eqGuard_int, Result.andThen_ok, binOp, Op.shift, if_neg (by omega : ¬ l < 0), Sem.run_pure]
theorem p_shr {yk : IntKind} (hx : ev env x = some (.int k m)) (hy : ev env y = some (.int yk l)) (h0 : 0 ≤ l) : Pv P n env ⟨some d, .binOp .shr t x y u, ty, pos, aft, g⟩ (.int k (m.fdiv (2 ^ (min l.toNat k.bits)))) :=
  fun a w he => by simp only [execOp, he.eval hx, he.eval hy, Sem.run_bind, eqGuard_int, Result.andThen_ok, binOp, Op.shift, if_neg (by omega : ¬ l < 0), Sem.run_pure]
theorem p_min2 {ts : Array TypeId} (hx : ev env x = some (.int k m)) (hy : ev env y = some (.int k l)) : Pv P n env ⟨some d, .call { callee := .builtin .min, args := #[x, y], argTypes := ts }, ty, pos, aft, g⟩ (.int k (min m l)) :=
  fun a w he => by
    have e : (if l < m then l else m) = min m l := by split <;> omega
    simp [execOp, resolve, invoke, builtin, Builtin.min_, Builtin.min2, he.eval hx, he.eval hy, e]
theorem p_max2 {ts : Array TypeId} (hx : ev env x = some (.int k m)) (hy : ev env y = some (.int k l)) : Pv P n env ⟨some d, .call { callee := .builtin .max, args := #[x, y], argTypes := ts }, ty, pos, aft, g⟩ (.int k (max m l)) :=
  fun a w he => by
    have e : (if l > m then l else m) = max m l := by split <;> omega
    simp [execOp, resolve, invoke, builtin, Builtin.max_, Builtin.max2, he.eval hx, he.eval hy, e]
theorem p_conv {k' : IntKind} (ht : P.underlying t ≠ none) (hu : P.underlying u = some (.int k')) (hx : ev env x = some (.int k m)) : Pv P n env ⟨some d, .convert t u x, ty, pos, aft, g⟩ (.int k' (k'.wrap m)) :=
  fun a w he => by
    cases htt : P.underlying t with
    | none => exact absurd htt ht
    | some td => simp [execOp, he.eval hx, convert, run_underlying htt, run_underlying hu, Conv.intToInt]
end

/-! #### strings, bools -/
section
variable {x y : Operand} {t u : TypeId}
theorem toList_inj (s r : ByteArray) : (s.toList == r.toList) = decide (s = r) := by
  rw [Bool.eq_iff_iff]
  simp only [beq_iff_eq, decide_eq_true_eq]
  constructor
  · intro h
    rw [ByteArray.toList_eq, ByteArray.toList_eq] at h
    cases s; cases r
    exact congrArg ByteArray.mk (Array.toList_inj.1 h)
  · rintro rfl; rfl
theorem p_seql {s r : ByteArray} (hx : ev env x = some (.string s)) (hy : ev env y = some (.string r)) : Pv P n env ⟨some d, .binOp .eql t x y u, ty, pos, aft, g⟩ (.bool (decide (s = r))) :=
  fun a w he => by simp only [execOp, he.eval hx, he.eval hy, eqGuard_string, binOp, Op.stringOp, toList_inj, Sem.run_bind, Result.andThen_ok, Sem.run_pure]
theorem p_sneq {s r : ByteArray} (hx : ev env x = some (.string s)) (hy : ev env y = some (.string r)) : Pv P n env ⟨some d, .binOp .neq t x y u, ty, pos, aft, g⟩ (.bool (!decide (s = r))) :=
  fun a w he => by simp only [execOp, he.eval hx, he.eval hy, eqGuard_string, binOp, Op.stringOp, toList_inj, Sem.run_bind, Result.andThen_ok, Sem.run_pure]
theorem eqIn_bool {t : TypeId} (ht : P.underlying t = some .bool) (e : Nat) (s r : Bool) (w : World) : (Op.equalIn (e + 1) t (.bool s) (.bool r)).run P w = .ok (s == r) w := by
  simp only [Op.equalIn, Sem.run_bind, run_underlying ht, Result.andThen_ok, Sem.run_pure]
theorem eqIn_pnil {t el : TypeId} (ht : P.underlying t = some (.pointer el)) (e : Nat) (p : Option Addr) (w : World) : (Op.equalIn (e + 1) t (.pointer p) (.pointer none)).run P w = .ok p.isNone w := by
  cases p <;> simp only [Op.equalIn, Sem.run_bind, run_underlying ht, Result.andThen_ok, Sem.run_pure, Option.isNone]
theorem eqIn_slnil {t el : TypeId} (ht : P.underlying t = some (.slice el)) (e : Nat) (p : Option Addr) (l cp l' cp' : Nat) (w : World) : (Op.equalIn (e + 1) t (.slice p l cp) (.slice none l' cp')).run P w = .ok p.isNone w := by
  cases p <;> simp only [Op.equalIn, Sem.run_bind, run_underlying ht, Result.andThen_ok, Sem.run_pure, Option.isNone]
theorem eqIn_mapnil {t ke el : TypeId} (ht : P.underlying t = some (.map ke el)) (e : Nat) (p : Option Nat) (w : World) : (Op.equalIn (e + 1) t (.map p) (.map none)).run P w = .ok p.isNone w := by
  cases p <;> simp only [Op.equalIn, Sem.run_bind, run_underlying ht, Result.andThen_ok, Sem.run_pure, Option.isNone]
theorem eqGuard_map {op : BinOp} {t : TypeId} {x y : Operand} {b : Option Nat} {v : Value} (w : World) : (eqGuard op t x y (.map b) v).run P w = .ok () w := by
  unfold eqGuard
  cases op <;> simp
theorem run_equal {t : TypeId} {x y : Value} {b : Bool} {w : World} (h : ∀ e, (Op.equalIn (e + 1) t x y).run P w = .ok b w) : (Op.equal t x y).run P w = .ok b w := h 9999

theorem p_beql {s r : Bool} (ht : P.underlying t = some .bool) (hx : ev env x = some (.bool s)) (hy : ev env y = some (.bool r)) : Pv P n env ⟨some d, .binOp .eql t x y u, ty, pos, aft, g⟩ (.bool (s == r)) :=
  fun a w he => by simp only [execOp, he.eval hx, he.eval hy, eqGuard_bool, binOp, Sem.run_bind, Result.andThen_ok, run_equal (fun e => eqIn_bool ht e s r w), Sem.run_pure]
theorem p_bneq {s r : Bool} (ht : P.underlying t = some .bool) (hx : ev env x = some (.bool s)) (hy : ev env y = some (.bool r)) : Pv P n env ⟨some d, .binOp .neq t x y u, ty, pos, aft, g⟩ (.bool (!(s == r))) :=
  fun a w he => by simp only [execOp, he.eval hx, he.eval hy, eqGuard_bool, binOp, Sem.run_bind, Result.andThen_ok, run_equal (fun e => eqIn_bool ht e s r w), Sem.run_pure]
/-- A pointer or a slice held against nil. -/
theorem p_pnil_eql {p : Option Addr} {el : TypeId} (ht : P.underlying t = some (.pointer el)) (hx : ev env x = some (.pointer p)) (hy : ev env y = some (.pointer none)) : Pv P n env ⟨some d, .binOp .eql t x y u, ty, pos, aft, g⟩ (.bool p.isNone) :=
  fun a w he => by simp only [execOp, he.eval hx, he.eval hy, eqGuard_pointer, binOp, Sem.run_bind, Result.andThen_ok, run_equal (fun e => eqIn_pnil ht e p w), Sem.run_pure]
theorem p_pnil_neq {p : Option Addr} {el : TypeId} (ht : P.underlying t = some (.pointer el)) (hx : ev env x = some (.pointer p)) (hy : ev env y = some (.pointer none)) : Pv P n env ⟨some d, .binOp .neq t x y u, ty, pos, aft, g⟩ (.bool (!p.isNone)) :=
  fun a w he => by simp only [execOp, he.eval hx, he.eval hy, eqGuard_pointer, binOp, Sem.run_bind, Result.andThen_ok, run_equal (fun e => eqIn_pnil ht e p w), Sem.run_pure]
theorem p_slnil_eql {p : Option Addr} {l cp l' cp' : Nat} {el : TypeId} (ht : P.underlying t = some (.slice el)) (hx : ev env x = some (.slice p l cp)) (hy : ev env y = some (.slice none l' cp')) : Pv P n env ⟨some d, .binOp .eql t x y u, ty, pos, aft, g⟩ (.bool p.isNone) :=
  fun a w he => by simp only [execOp, he.eval hx, he.eval hy, eqGuard_slice, binOp, Sem.run_bind, Result.andThen_ok, run_equal (fun e => eqIn_slnil ht e p l cp l' cp' w), Sem.run_pure]
theorem p_slnil_neq {p : Option Addr} {l cp l' cp' : Nat} {el : TypeId} (ht : P.underlying t = some (.slice el)) (hx : ev env x = some (.slice p l cp)) (hy : ev env y = some (.slice none l' cp')) : Pv P n env ⟨some d, .binOp .neq t x y u, ty, pos, aft, g⟩ (.bool (!p.isNone)) :=
  fun a w he => by simp only [execOp, he.eval hx, he.eval hy, eqGuard_slice, binOp, Sem.run_bind, Result.andThen_ok, run_equal (fun e => eqIn_slnil ht e p l cp l' cp' w), Sem.run_pure]
theorem p_mapnil_eql {p : Option Nat} {ke el : TypeId} (ht : P.underlying t = some (.map ke el)) (hx : ev env x = some (.map p)) (hy : ev env y = some (.map none)) : Pv P n env ⟨some d, .binOp .eql t x y u, ty, pos, aft, g⟩ (.bool p.isNone) :=
  fun a w he => by simp only [execOp, he.eval hx, he.eval hy, eqGuard_map, binOp, Sem.run_bind, Result.andThen_ok, run_equal (fun e => eqIn_mapnil ht e p w), Sem.run_pure]
theorem p_mapnil_neq {p : Option Nat} {ke el : TypeId} (ht : P.underlying t = some (.map ke el)) (hx : ev env x = some (.map p)) (hy : ev env y = some (.map none)) : Pv P n env ⟨some d, .binOp .neq t x y u, ty, pos, aft, g⟩ (.bool (!p.isNone)) :=
  fun a w he => by simp only [execOp, he.eval hx, he.eval hy, eqGuard_map, binOp, Sem.run_bind, Result.andThen_ok, run_equal (fun e => eqIn_mapnil ht e p w), Sem.run_pure]
end

/-! #### addresses, lengths -/
def fieldOff (P : Program) (t : TypeId) (i : Nat) : Option Nat :=
  match P.underlying t with
  | some (.struct fs) => match fs[i]? with
    | some f => match P.info? f.type with
      | some ti => if ti.size = 0 then none else some f.offset
      | none => none
    | none => none
  | _ => none
def aggB (P : Program) (t : TypeId) : Option Bool :=
  match P.underlying t with
  | some (.struct _) | some (.array _ _) => some true
  | some _ => some false
  | none => none
def sizeB (P : Program) (t : TypeId) : Option Nat := (P.info? t).map (·.size)
def zeroB (P : Program) (t : TypeId) : Option Value := (P.info? t).bind (·.zero)

theorem run_aggB {t : TypeId} {b : Bool} (h : aggB P t = some b) (w : World) : (isAgg t).run P w = .ok b w := by
  unfold aggB at h
  unfold isAgg
  cases hu : P.underlying t with
  | none => simp [hu] at h
  | some u => cases u <;> simp [hu] at h <;> subst h <;> simp [run_underlying hu]
theorem run_sizeB {t : TypeId} {m : Nat} (h : sizeB P t = some m) (w : World) : (sizeOf t).run P w = .ok m w := by
  unfold sizeB at h
  obtain ⟨i, hi, rfl⟩ := Option.map_eq_some_iff.1 h
  simp [sizeOf, typeInfo, hi]
theorem run_zeroB {t : TypeId} {z : Value} (h : zeroB P t = some z) (w : World) : (zeroValue t).run P w = .ok z w := by
  unfold zeroB at h
  obtain ⟨i, hi, hz⟩ := Option.bind_eq_some_iff.1 h
  simp [zeroValue, typeInfo, hi, hz]

section
variable {x y : Operand} {t u : TypeId}
theorem run_fieldAt {a : Addr} {i off : Nat} (h : fieldOff P t i = some off) (w : World) : (Instr.fieldAt t (.pointer (some a)) i).run P w = .ok (.pointer (some (a.add off))) w := by
  unfold fieldOff at h
  cases hu : P.underlying t with
  | none => simp [hu] at h
  | some td =>
    cases td <;> simp [hu] at h
    rename_i fs
    cases hf : fs[i]? with
    | none => simp [hf] at h
    | some f =>
      cases hi : P.info? f.type with
      | none => simp [hf, hi] at h
      | some ti =>
        simp [hf, hi] at h
        obtain ⟨h0, rfl⟩ := h
        simp [Instr.fieldAt, run_underlying hu, hf, Instr.sureAddr, fieldPlace, sizeOf, typeInfo, hi, h0]
theorem p_fieldAddr {b o off : Nat} {i : Nat} (hf : fieldOff P t i = some off) (hx : ev env x = some (.pointer (some ⟨b, o, none⟩))) : Pv P n env ⟨some d, .fieldAddr t x i, ty, pos, aft, g⟩ (.pointer (some ⟨b, o + off, none⟩)) :=
  fun a w he => by simp [execOp, he.eval hx, run_fieldAt hf, add_lit]
theorem p_fieldAddr' {p : Addr} {j off : Nat} {i : Nat} (hf : fieldOff P t i = some off) (hx : ev env x = some (.pointer (some (p.add j)))) : Pv P n env ⟨some d, .fieldAddr t x i, ty, pos, aft, g⟩ (.pointer (some (p.add (j + off)))) :=
  fun a w he => by simp [execOp, he.eval hx, run_fieldAt hf, add_add]
theorem p_len {A : Option Addr} {l cp : Nat} {e : TypeId} (ht : P.underlying t = some (.slice e)) (hx : ev env x = some (.slice A l cp)) : Pv P n env ⟨some d, .call { callee := .builtin .len, args := #[x], argTypes := #[t] }, ty, pos, aft, g⟩ (.int .i64 (l : Int)) :=
  fun a w he => by simp [execOp, resolve, invoke, builtin, Builtin.len_, he.eval hx, run_underlying ht, goInt]
theorem p_lens {s : ByteArray} (ht : P.underlying t = some .string) (hx : ev env x = some (.string s)) : Pv P n env ⟨some d, .call { callee := .builtin .len, args := #[x], argTypes := #[t] }, ty, pos, aft, g⟩ (.int .i64 (s.size : Int)) :=
  fun a w he => by simp [execOp, resolve, invoke, builtin, Builtin.len_, he.eval hx, run_underlying ht, goInt]
end

/-! #### parts of structs by value -/
section
variable {x y : Operand} {t u : TypeId}
theorem part_one {t : TypeId} {l : List Value} {o : Nat} {v : Value} (hg : aggB P t = some false) (h : nth l o = some v) (w : World) : (part t l.toArray o).run P w = .ok v w := by
  rw [nth_eq] at h
  simp [part, run_aggB hg, h]
theorem extract_at {l vs : List Value} {o : Nat} (h : at_ l o vs) (hb : o + vs.length ≤ l.length) : (l.toArray.extract o (o + vs.length)).toList = vs := by
  apply List.ext_getElem?
  intro j
  simp only [Array.toList_extract, List.extract_eq_take_drop, Nat.add_sub_cancel_left]
  by_cases hj : j < vs.length
  · have := at_get h j vs[j] (by simp [hj])
    simp [List.getElem?_take, hj, this]
  · simp [List.getElem?_take, hj]
theorem at_fits {l : List Value} : ∀ {vs : List Value} {o : Nat}, at_ l o vs → vs ≠ [] → o + vs.length ≤ l.length
  | [], _, _, h => absurd rfl h
  | [v], o, h, _ => by have := h.1; rw [nth_eq, List.getElem?_eq_some_iff] at this; obtain ⟨h1, _⟩ := this; simp; omega
  | v :: v' :: vs, o, h, _ => by have := at_fits h.2 (by simp); simp at this ⊢; omega
theorem part_agg {t : TypeId} {l vs : List Value} {o : Nat} (hg : aggB P t = some true) (hs : sizeB P t = some vs.length) (h : at_ l o vs) (hv : vs ≠ []) (w : World) : (part t l.toArray o).run P w = .ok (.agg vs.toArray) w := by
  have e := extract_at h (at_fits h hv)
  have e' : l.toArray.extract o (o + vs.length) = vs.toArray := by apply Array.toList_inj.1; simpa using e
  simp only [part, Sem.run_bind, run_aggB hg, Result.andThen_ok, if_true, run_sizeB hs, Sem.run_pure, e']
def fieldIn (P : Program) (t : TypeId) (i : Nat) : Option (Nat × TypeId) :=
  match P.underlying t with
  | some (.struct fs) => (fs[i]?).map fun f => (f.offset, f.type)
  | _ => none
theorem run_field {t ft : TypeId} {i off : Nat} {l : List Value} {v : Value} (h : fieldIn P t i = some (off, ft)) (hp : ∀ w, (part ft l.toArray off).run P w = .ok v w) (w : World) : (Instr.field t (.agg l.toArray) i).run P w = .ok v w := by
  unfold fieldIn at h
  cases hu : P.underlying t with
  | none => simp [hu] at h
  | some td =>
    cases td <;> simp [hu] at h
    obtain ⟨f, hf, rfl, rfl⟩ := h
    simp [Instr.field, run_underlying hu, hf, asAgg, hp]
theorem p_field {ft : TypeId} {i off : Nat} {l : List Value} {v : Value} (h : fieldIn P t i = some (off, ft)) (hg : aggB P ft = some false) (hx : ev env x = some (.agg l.toArray)) (hv : nth l off = some v) : Pv P n env ⟨some d, .field t x i, ty, pos, aft, g⟩ (v) :=
  fun a w he => by simp [execOp, he.eval hx, run_field h (part_one hg hv)]
theorem p_fieldN {ft : TypeId} {i off : Nat} {l vs : List Value} (h : fieldIn P t i = some (off, ft)) (hg : aggB P ft = some true) (hs : sizeB P ft = some vs.length) (hx : ev env x = some (.agg l.toArray)) (hv : at_ l off vs) (hne : vs ≠ []) : Pv P n env ⟨some d, .field t x i, ty, pos, aft, g⟩ (.agg vs.toArray) :=
  fun a w he => by simp [execOp, he.eval hx, run_field h (part_agg hg hs hv hne)]
end

/-! #### structs built -/
def vcells : Value → List Value
  | .agg cs => cs.toList
  | v => [v]
theorem vcells_eq (v : Value) : v.cells.toList = vcells v := by cases v <;> rfl
def nthP : List (Nat × Nat) → Nat → Option (Nat × Nat)
  | [], _ => none
  | x :: _, 0 => some x
  | _ :: r, n + 1 => nthP r n
theorem nthP_eq : ∀ (l : List (Nat × Nat)) (n : Nat), nthP l n = l[n]?
  | [], n => by simp [nthP]
  | x :: r, 0 => rfl
  | x :: r, n + 1 => by simp [nthP, nthP_eq r n]
def fillF (place : Nat → Option (Nat × Nat)) : List Value → List (Nat × Value) → Option (List Value)
  | z, [] => some z
  | z, (i, v) :: r => match place i with
    | none => none
    | some (o, s) => bif Nat.beq (vcells v).length s then (match upd z o (vcells v) with
      | none => none
      | some z' => fillF place z' r) else none
def fillL (z : List Value) (offs : List (Nat × Nat)) (parts : List (Nat × Value)) : Option (List Value) := fillF (nthP offs) z parts

theorem foldl_set (off : Nat) : ∀ (vs : List Value) (j : Nat) (cs : List Value), off + j + vs.length ≤ cs.length →
    ((vs.zipIdx j).foldl (fun (cs : Array Value) (p : Value × Nat) => cs.setIfInBounds (off + p.2) p.1) cs.toArray) = (cs.take (off + j) ++ vs ++ cs.drop (off + j + vs.length)).toArray
  | [], j, cs, h => by simp
  | v :: vs, j, cs, h => by
    simp only [List.zipIdx_cons, List.foldl_cons]
    rw [show cs.toArray.setIfInBounds (off + j) v = (cs.set (off + j) v).toArray by simp]
    rw [foldl_set off vs (j + 1) _ (by simp at h ⊢; omega)]
    congr 1
    apply List.ext_getElem?
    intro i
    simp only [List.length_cons] at h
    have h1 : (cs.set (off + j) v).take (off + (j + 1)) = cs.take (off + j) ++ [v] := by
      rw [show off + (j + 1) = off + j + 1 by omega, List.take_succ_eq_append_getElem (by simp; omega)]
      simp [List.take_set_of_le]
    have h2 : (cs.set (off + j) v).drop (off + (j + 1) + vs.length) = cs.drop (off + j + (v :: vs).length) := by
      rw [List.drop_set_of_lt (by omega)]
      congr 1
      simp
      omega
    rw [h1, h2]
    simp

theorem fill_fillF (place : Nat → Option (Nat × Nat)) : ∀ (parts : List (Nat × Value)) (z l : List Value), fillF place z parts = some l → Instr.fill place z.toArray parts = some l.toArray
  | [], z, l, h => by simp only [fillF, Option.some.injEq] at h; subst h; rfl
  | (i, v) :: r, z, l, h => by
    simp only [fillF] at h
    simp only [Instr.fill]
    cases ho : place i with
    | none => simp [ho] at h
    | some os =>
      obtain ⟨o, s⟩ := os
      simp only [ho] at h ⊢
      cases hb : Nat.beq (vcells v).length s with
      | false => simp [hb] at h
      | true =>
        rw [hb] at h
        simp only [cond_true] at h
        have hlen : v.cells.size = s := by rw [← Array.length_toList, vcells_eq]; exact Nat.eq_of_beq_eq_true hb
        cases hu : upd z o (vcells v) with
        | none => simp [hu] at h
        | some z' =>
          simp only [hu] at h
          obtain ⟨hz', hfit⟩ := upd_eq hu
          have hsz : v.cells.size = (vcells v).length := by rw [← Array.length_toList, vcells_eq]
          rw [if_neg (by simp [hlen]; omega)]
          have hf := foldl_set o (vcells v) 0 z (by omega)
          have : v.cells.zipIdx.foldl (fun cs (c, j) => cs.setIfInBounds (o + j) c) z.toArray = z'.toArray := by
            rw [← Array.foldl_toList, Array.toList_zipIdx, vcells_eq, hz']
            simpa using hf
          rw [this]
          exact fill_fillF place r z' l h
theorem fill_fillL (offs : List (Nat × Nat)) (place : Nat → Option (Nat × Nat)) (hp : ∀ i, place i = offs[i]?) (parts : List (Nat × Value)) (z l : List Value) (h : fillL z offs parts = some l) : Instr.fill place z.toArray parts = some l.toArray := by
  have : place = nthP offs := funext fun i => by rw [hp, nthP_eq]
  rw [this]
  exact fill_fillF _ _ _ _ h
/-- A list whose spine is reckoned. -/
def norm : List Value → Option (List Value)
  | [] => some []
  | x :: r => (norm r).map (x :: ·)
theorem norm_eq : ∀ {l l' : List Value}, norm l = some l' → l' = l
  | [], l', h => by simp only [norm, Option.some.injEq] at h; exact h.symm
  | x :: r, l', h => by
    simp only [norm, Option.map_eq_some_iff] at h
    obtain ⟨m, hm, rfl⟩ := h
    rw [norm_eq hm]
def reps (z : List Value) : Nat → List Value
  | 0 => []
  | n + 1 => z ++ reps z n
theorem reps_length (z : List Value) : ∀ n, (reps z n).length = n * z.length
  | 0 => by simp [reps]
  | n + 1 => by rw [reps, List.length_append, reps_length z n, Nat.add_mul]; omega
theorem reps_get (z : List Value) (hz : 0 < z.length) : ∀ n i, i < n * z.length → (reps z n)[i]? = z[i % z.length]?
  | 0, i, h => by simp at h
  | n + 1, i, h => by
    rw [reps]
    by_cases hi : i < z.length
    · rw [List.getElem?_append_left hi, Nat.mod_eq_of_lt hi]
    · rw [List.getElem?_append_right (by omega), reps_get z hz n _ (by rw [Nat.add_mul] at h; omega)]
      congr 1
      rw [← Nat.mod_eq_sub_mod (by omega)]

def offsB (P : Program) (t : TypeId) : Option (List (Nat × Nat)) :=
  match P.underlying t with
  | some (.struct fs) => fs.toList.mapM fun f => (P.info? f.type).map fun i => (f.offset, i.size)
  | _ => none
def zeroL (P : Program) (t : TypeId) : Option (List Value) := (zeroB P t).map vcells

theorem run_build' {t : TypeId} {z l : List Value} {offs : List (Nat × Nat)} {parts : List (Nat × Value)} (hz : zeroL P t = some z) (ho : offsB P t = some offs) (hf : fillL z offs parts = some l) (w : World) :
    (Instr.build t parts.toArray).run P w = .ok (.agg l.toArray) w := by
  unfold zeroL at hz
  obtain ⟨zv, hzv, rfl⟩ := Option.map_eq_some_iff.1 hz
  unfold offsB at ho
  cases hu : P.underlying t with
  | none => simp [hu] at ho
  | some td =>
    cases td <;> simp [hu] at ho
    rename_i fs
    have hpl : (fs.mapM fun f => do pure (f.offset, ← sizeOf f.type) : Sem (Array (Nat × Nat))).run P w = .ok offs.toArray w := by
      rw [← Array.toArray_toList (xs := fs)] 
      simp only [List.mapM_toArray, Sem.run_map]
      have key : ∀ (l : List Field) (offs : List (Nat × Nat)), l.mapM (fun f => (P.info? f.type).map fun i => (f.offset, i.size)) = some offs → (l.mapM fun f => do pure (f.offset, ← sizeOf f.type) : Sem (List (Nat × Nat))).run P w = .ok offs w := fun l offs h => run_places w l offs h
      rw [key fs.toList offs (by simpa using ho)]
      rfl
    have hfill : Instr.fill (fun i => offs.toArray[i]?) zv.cells parts = some l.toArray := by
      have := fill_fillL offs (fun i => offs.toArray[i]?) (fun i => by simp) parts (vcells zv) l hf
      rwa [← vcells_eq, Array.toArray_toList] at this
    simp only [Instr.build, Sem.run_bind, run_zeroB hzv, Result.andThen_ok, run_underlying hu, hpl, hfill, Sem.run_pure]

def evP (env : List (Nat × Value)) : List (Nat × Operand) → Option (List (Nat × Value))
  | [] => some []
  | (i, x) :: r => match ev env x, evP env r with
    | some v, some vs => some ((i, v) :: vs)
    | _, _ => none
theorem Env.evPs {a : Act} (h : Env n env a) : ∀ {xs : List (Nat × Operand)} {vs : List (Nat × Value)}, evP env xs = some vs → xs.map (fun p => (p.1, a.eval p.2)) = vs
  | [], vs, hx => by simp only [evP, Option.some.injEq] at hx; subst hx; rfl
  | (i, x) :: r, vs, hx => by
    simp only [evP] at hx
    split at hx
    · rename_i v ws h1 h2
      simp only [Option.some.injEq] at hx
      subst hx
      simp [h.eval h1, Env.evPs h h2]
    · cases hx

theorem p_build {t : TypeId} {ps : List (Nat × Operand)} {z l : List Value} {offs : List (Nat × Nat)} {parts : List (Nat × Value)} (hz : zeroL P t = some z) (ho : offsB P t = some offs) (hp : evP env ps = some parts) (hf : fillL z offs parts = some l) : Pv P n env ⟨some d, .build t ps.toArray, ty, pos, aft, g⟩ (.agg l.toArray) :=
  fun a w he => by
    have : (ps.toArray.map fun (p : Nat × Operand) => (p.1, a.eval p.2)) = parts.toArray := by rw [List.map_toArray, he.evPs hp]
    simp only [execOp, this, Sem.run_bind, run_build' hz ho hf, Result.andThen_ok, Sem.run_pure]

end
end Go.Sx
