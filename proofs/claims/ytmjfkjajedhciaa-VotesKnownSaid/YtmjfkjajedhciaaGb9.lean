/- GROUPS: two quorums share a member. -/
import Derived.Test.YtmjfkjajedhciaaGb8
set_option linter.unusedVariables false
set_option linter.unusedSimpArgs false
set_option maxRecDepth 100000
namespace Go.Proofs.Ytmjfkjajedhciaa
open Go Go.Sx Go.Proofs
def mkN : List Bool → Nat
  | [] => 0
  | b :: t => b.toNat + 2 * mkN t
def popN : Nat → Nat → Nat
  | 0, _ => 0
  | n + 1, x => x % 2 + popN n (x / 2)
theorem mkN_lt : ∀ bs : List Bool, mkN bs < 2 ^ bs.length
  | [] => by simp [mkN]
  | b :: t => by have := mkN_lt t; have : b.toNat ≤ 1 := by cases b <;> decide
                 simp only [mkN, List.length_cons, Nat.pow_succ]; omega
theorem mkN_snoc : ∀ (bs : List Bool) (b : Bool), mkN (bs ++ [b]) = mkN bs + b.toNat * 2 ^ bs.length
  | [], b => by simp [mkN]
  | c :: t, b => by
    have := mkN_snoc t b
    simp only [mkN, List.cons_append, List.length_cons, Nat.pow_succ, this]
    cases b <;> simp <;> omega
theorem pop_mk : ∀ (n : Nat) (bs : List Bool), bs.length ≤ n → popN n (mkN bs) = (bs.filter id).length
  | 0, [], _ => rfl
  | 0, b :: t, h => by simp at h
  | n + 1, [], h => by
    have := pop_mk n [] (by simp)
    simp only [popN, mkN] at this ⊢; simpa using this
  | n + 1, b :: t, h => by
    have := pop_mk n t (by simpa using h)
    have h2 : (b.toNat + 2 * mkN t) / 2 = mkN t := by cases b <;> simp <;> omega
    have h3 : (b.toNat + 2 * mkN t) % 2 = b.toNat := by cases b <;> simp <;> omega
    simp only [popN, mkN, h2, h3, this]
    cases b <;> simp <;> omega
def bitsI (ns l : List Int) : List Bool := l.map fun x => decide (x ∈ ns)
def mkI (ns l : List Int) (k : Nat) : Nat := mkN (bitsI ns (l.take k))
def cntI (ns l : List Int) : Nat := (l.filter fun x => decide (x ∈ ns)).length
theorem mkI_zero (ns l : List Int) : mkI ns l 0 = 0 := rfl
theorem mkI_lt {ns l : List Int} {k : Nat} (hk : k ≤ l.length) : mkI ns l k < 2 ^ k := by
  have := mkN_lt (bitsI ns (l.take k))
  rw [show (bitsI ns (l.take k)).length = k by simp [bitsI, Nat.min_eq_left hk]] at this
  exact this
theorem mkI_yes {ns l : List Int} {k : Nat} (hk : k < l.length) (h : gt l (k : Int) ∈ ns) : mkI ns l (k + 1) = mkI ns l k + 2 ^ k := by
  unfold mkI bitsI
  rw [take_gtI hk, List.map_append, List.map_singleton, mkN_snoc, decide_eq_true h]
  simp [Nat.min_eq_left (Nat.le_of_lt hk)]
theorem mkI_no {ns l : List Int} {k : Nat} (hk : k < l.length) (h : ¬ gt l (k : Int) ∈ ns) : mkI ns l (k + 1) = mkI ns l k := by
  unfold mkI bitsI
  rw [take_gtI hk, List.map_append, List.map_singleton, mkN_snoc, decide_eq_false h]
  simp
theorem mkI_pop {ns l : List Int} (hl : l.length ≤ 9) : popN 9 (mkI ns l l.length) = cntI ns l := by
  unfold mkI cntI
  rw [List.take_length, pop_mk 9 _ (by simpa [bitsI] using hl)]
  unfold bitsI
  rw [List.filter_map, List.length_map]; rfl
theorem cnt_sum {a b : List Int} : ∀ {l : List Int}, (∀ x ∈ l, x ∈ a → x ∈ b → False) → cntI a l + cntI b l ≤ l.length
  | [], _ => by simp [cntI]
  | x :: l, h => by
    have := cnt_sum (l := l) fun y hy => h y (List.mem_cons_of_mem _ hy)
    have hx := h x (List.mem_cons_self ..)
    unfold cntI at this ⊢
    by_cases h1 : x ∈ a <;> by_cases h2 : x ∈ b
    · exact (hx h1 h2).elim
    all_goals simp [h1, h2]; omega
theorem quo64 {n : Nat} (h : n ≤ 9) : IntKind.i64.wrap ((n : Int).tdiv 64) = 0 := (by decide +kernel : ∀ i : Fin 10, IntKind.i64.wrap (((i : Nat) : Int).tdiv 64) = 0) ⟨n, by omega⟩
theorem rem64 {n : Nat} (h : n ≤ 9) : ((n : Int).tmod 64) = (n : Int) := (by decide +kernel : ∀ i : Fin 10, (((i : Nat) : Int).tmod 64) = ((i : Nat) : Int)) ⟨n, by omega⟩
theorem cvu {n : Nat} (h : n ≤ 9) : IntKind.u64.wrap (n : Int) = (n : Int) := (by decide +kernel : ∀ i : Fin 10, IntKind.u64.wrap ((i : Nat) : Int) = ((i : Nat) : Int)) ⟨n, by omega⟩
theorem sh64 {n : Nat} (h : n ≤ 9) : IntKind.u64.wrap (1 * 2 ^ (min ((n : Int).toNat) IntKind.u64.bits)) = ((2 ^ n : Nat) : Int) := (by decide +kernel : ∀ i : Fin 10, IntKind.u64.wrap (1 * 2 ^ (min (((i : Nat) : Int).toNat) IntKind.u64.bits)) = ((2 ^ (i : Nat) : Nat) : Int)) ⟨n, by omega⟩
theorem or_all : ∀ k : Fin 9, ∀ m : Fin 256, (m : Nat) < 2 ^ (k : Nat) → IntKind.u64.wrap ((BitVec.ofInt IntKind.u64.bits ((m : Nat) : Int) ||| BitVec.ofInt IntKind.u64.bits ((2 ^ (k : Nat) : Nat) : Int)).toNat : Int) = (((m : Nat) + 2 ^ (k : Nat) : Nat) : Int) := by decide +kernel
theorem or64 {k m : Nat} (hk : k < 9) (hm : m < 2 ^ k) : IntKind.u64.wrap ((BitVec.ofInt IntKind.u64.bits (m : Int) ||| BitVec.ofInt IntKind.u64.bits ((2 ^ k : Nat) : Int)).toNat : Int) = ((m + 2 ^ k : Nat) : Int) := by
  have h : 2 ^ k ≤ 2 ^ 8 := Nat.pow_le_pow_right (by decide) (by omega)
  exact or_all ⟨k, hk⟩ ⟨m, by omega⟩ hm
section
variable {P : Program} {n : Nat} {env : List (Nat × Value)} {d : Nat} {t u ty : TypeId} {pos : String} {aft : Array Edge} {g : Option (Nat × Bool)} {x y : Operand} {k k' yk : IntKind} {m l r : Int}
theorem p_convR (ht : P.underlying t ≠ none) (hu : P.underlying u = some (.int k')) (hx : ev env x = some (.int k m)) (hr : k'.wrap m = r) : Pv P n env ⟨some d, .convert t u x, ty, pos, aft, g⟩ (.int k' r) := hr ▸ p_conv ht hu hx
theorem p_shlR (hx : ev env x = some (.int k m)) (hy : ev env y = some (.int yk l)) (h0 : 0 ≤ l) (hr : k.wrap (m * 2 ^ (min l.toNat k.bits)) = r) : Pv P n env ⟨some d, .binOp .shl t x y u, ty, pos, aft, g⟩ (.int k r) := hr ▸ p_shl hx hy h0
theorem p_orR (hx : ev env x = some (.int k m)) (hy : ev env y = some (.int k l)) (hr : k.wrap ((BitVec.ofInt k.bits m ||| BitVec.ofInt k.bits l).toNat : Int) = r) : Pv P n env ⟨some d, .binOp .or t x y u, ty, pos, aft, g⟩ (.int k r) := hr ▸ p_or hx hy
end
end Go.Proofs.Ytmjfkjajedhciaa

