/- GROUPS: two quorums share a member. -/
import Derived.Test.YtoofbjclockcdaaGb8
set_option linter.unusedVariables false
set_option linter.unusedSimpArgs false
set_option maxRecDepth 100000
namespace Go.Proofs.Ytoofbjclockcdaa
open Go Go.Sx Go.Proofs
def mkN : List Bool → Nat
  | [] => 0
  | b :: t => b.toNat + 2 * mkN t
def popN : Nat → Nat → Nat
  | 0, _ => 0
  | n + 1, x => x % 2 + popN n (x / 2)
theorem mkN_lt : ∀ bs : List Bool, mkN bs < 2 ^ bs.length
  | [] => by simp [mkN]
  | b :: t => by have := mkN_lt t; have : b.toNat ≤ 1 := by cases b <;> decide
                 simp only [mkN, List.length_cons, Nat.pow_succ]; omega
theorem mkN_snoc : ∀ (bs : List Bool) (b : Bool), mkN (bs ++ [b]) = mkN bs + b.toNat * 2 ^ bs.length
  | [], b => by simp [mkN]
  | c :: t, b => by
    have := mkN_snoc t b
    simp only [mkN, List.cons_append, List.length_cons, Nat.pow_succ, this]
    cases b <;> simp <;> omega
theorem pop_mk : ∀ (n : Nat) (bs : List Bool), bs.length ≤ n → popN n (mkN bs) = (bs.filter id).length
  | 0, [], _ => rfl
  | 0, b :: t, h => by simp at h
  | n + 1, [], h => by
    have := pop_mk n [] (by simp)
    simp only [popN, mkN] at this ⊢; simpa using this
  | n + 1, b :: t, h => by
    have := pop_mk n t (by simpa using h)
    have h2 : (b.toNat + 2 * mkN t) / 2 = mkN t := by cases b <;> simp <;> omega
    have h3 : (b.toNat + 2 * mkN t) % 2 = b.toNat := by cases b <;> simp <;> omega
    simp only [popN, mkN, h2, h3, this]
    cases b <;> simp <;> omega
def bitsI (ns l : List Int) : List Bool := l.map fun x => decide (x ∈ ns)
def mkI (ns l : List Int) (k : Nat) : Nat := mkN (bitsI ns (l.take k))
def cntI (ns l : List Int) : Nat := (l.filter fun x => decide (x ∈ ns)).length
theorem mkI_zero (ns l : List Int) : mkI ns l 0 = 0 := rfl
theorem mkI_lt {ns l : List Int} {k : Nat} (hk : k ≤ l.length) : mkI ns l k < 2 ^ k := by
  have := mkN_lt (bitsI ns (l.take k))
  rw [show (bitsI ns (l.take k)).length = k by simp [bitsI, Nat.min_eq_left hk]] at this
  exact this
theorem mkI_yes {ns l : List Int} {k : Nat} (hk : k < l.length) (h : gt l (k : Int) ∈ ns) : mkI ns l (k + 1) = mkI ns l k + 2 ^ k := by
  unfold mkI bitsI
  rw [take_gtI hk, List.map_append, List.map_singleton, mkN_snoc, decide_eq_true h]
  simp [Nat.min_eq_left (Nat.le_of_lt hk)]
theorem mkI_no {ns l : List Int} {k : Nat} (hk : k < l.length) (h : ¬ gt l (k : Int) ∈ ns) : mkI ns l (k + 1) = mkI ns l k := by
  unfold mkI bitsI
  rw [take_gtI hk, List.map_append, List.map_singleton, mkN_snoc, decide_eq_false h]
  simp
theorem mkI_pop {ns l : List Int} (hl : l.length ≤ 9) : popN 9 (mkI ns l l.length) = cntI ns l := by
  unfold mkI cntI
  rw [List.take_length, pop_mk 9 _ (by simpa [bitsI] using hl)]
  unfold bitsI
  rw [List.filter_map, List.length_map]; rfl
theorem cnt_sum {a b : List Int} : ∀ {l : List Int}, (∀ x ∈ l, x ∈ a → x ∈ b → False) → cntI a l + cntI b l ≤ l.length
  | [], _ => by simp [cntI]
  | x :: l, h => by
    have := cnt_sum (l := l) fun y hy => h y (List.mem_cons_of_mem _ hy)
    have hx := h x (List.mem_cons_self ..)
    unfold cntI at this ⊢
    by_cases h1 : x ∈ a <;> by_cases h2 : x ∈ b
    · exact (hx h1 h2).elim
    all_goals simp [h1, h2]; omega
theorem quo64 {n : Nat} (h : n ≤ 9) : IntKind.i64.wrap ((n : Int).tdiv 64) = 0 := (by decide +kernel : ∀ i : Fin 10, IntKind.i64.wrap (((i : Nat) : Int).tdiv 64) = 0) ⟨n, by omega⟩
theorem rem64 {n : Nat} (h : n ≤ 9) : ((n : Int).tmod 64) = (n : Int) := (by decide +kernel : ∀ i : Fin 10, (((i : Nat) : Int).tmod 64) = ((i : Nat) : Int)) ⟨n, by omega⟩
theorem cvu {n : Nat} (h : n ≤ 9) : IntKind.u64.wrap (n : Int) = (n : Int) := (by decide +kernel : ∀ i : Fin 10, IntKind.u64.wrap ((i : Nat) : Int) = ((i : Nat) : Int)) ⟨n, by omega⟩
theorem sh64 {n : Nat} (h : n ≤ 9) : IntKind.u64.wrap (1 * 2 ^ (min ((n : Int).toNat) IntKind.u64.bits)) = ((2 ^ n : Nat) : Int) := (by decide +kernel : ∀ i : Fin 10, IntKind.u64.wrap (1 * 2 ^ (min (((i : Nat) : Int).toNat) IntKind.u64.bits)) = ((2 ^ (i : Nat) : Nat) : Int)) ⟨n, by omega⟩
theorem or_all : ∀ k : Fin 9, ∀ m : Fin 256, (m : Nat) < 2 ^ (k : Nat) → IntKind.u64.wrap ((BitVec.ofInt IntKind.u64.bits ((m : Nat) : Int) ||| BitVec.ofInt IntKind.u64.bits ((2 ^ (k : Nat) : Nat) : Int)).toNat : Int) = (((m : Nat) + 2 ^ (k : Nat) : Nat) : Int) := by decide +kernel
theorem or64 {k m : Nat} (hk : k < 9) (hm : m < 2 ^ k) : IntKind.u64.wrap ((BitVec.ofInt IntKind.u64.bits (m : Int) ||| BitVec.ofInt IntKind.u64.bits ((2 ^ k : Nat) : Int)).toNat : Int) = ((m + 2 ^ k : Nat) : Int) := by
  have h : 2 ^ k ≤ 2 ^ 8 := Nat.pow_le_pow_right (by decide) (by omega)
  exact or_all ⟨k, hk⟩ ⟨m, by omega⟩ hm
section
variable {P : Program} {n : Nat} {env : List (Nat × Value)} {d : Nat} {t u ty : TypeId} {pos : String} {aft : Array Edge} {g : Option (Nat × Bool)} {x y : Operand} {k k' yk : IntKind} {m l r : Int}
theorem p_convR (ht : P.underlying t ≠ none) (hu : P.underlying u = some (.int k')) (hx : ev env x = some (.int k m)) (hr : k'.wrap m = r) : Pv P n env ⟨some d, .convert t u x, ty, pos, aft, g⟩ (.int k' r) := hr ▸ p_conv ht hu hx
theorem p_shlR (hx : ev env x = some (.int k m)) (hy : ev env y = some (.int yk l)) (h0 : 0 ≤ l) (hr : k.wrap (m * 2 ^ (min l.toNat k.bits)) = r) : Pv P n env ⟨some d, .binOp .shl t x y u, ty, pos, aft, g⟩ (.int k r) := hr ▸ p_shl hx hy h0
theorem p_orR (hx : ev env x = some (.int k m)) (hy : ev env y = some (.int k l)) (hr : k.wrap ((BitVec.ofInt k.bits m ||| BitVec.ofInt k.bits l).toNat : Int) = r) : Pv P n env ⟨some d, .binOp .or t x y u, ty, pos, aft, g⟩ (.int k r) := hr ▸ p_or hx hy
end
theorem ones_ct (x : Fin 512) : Ct Try.prog 38 [.int .u64 ((x.val : Nat) : Int)] [] [] (fun u G Q => u = .int .i64 ((popN 9 x.val : Nat) : Int) ∧ G = [] ∧ Q = []) := by
  refine Ct.intro Try.func38 rfl rfl rfl (fun c hc => ?_)
  refine GC.seq' ?_
  refine GC.region ?_
  refine GL.pure rfl (p_assign rfl) ?_
  refine GL.nil (?_ : GC _ _ _ _)
  refine GC.seq' ?_
  refine GC.region ?_
  refine GL.pure rfl (p_move rfl) ?_
  refine GL.pure rfl (p_shr rfl rfl (by omega)) ?_
  refine GL.pure rfl (p_and rfl rfl) ?_
  refine GL.pure rfl (p_move rfl) ?_
  refine GL.pure rfl (p_and rfl rfl) ?_
  refine GL.pure rfl (p_addw rfl rfl) ?_
  refine GL.pure rfl (p_assign rfl) ?_
  refine GL.nil (?_ : GC _ _ _ _)
  refine GC.seq' ?_
  refine GC.region ?_
  refine GL.pure rfl (p_move rfl) ?_
  refine GL.pure rfl (p_shr rfl rfl (by omega)) ?_
  refine GL.pure rfl (p_and rfl rfl) ?_
  refine GL.pure rfl (p_move rfl) ?_
  refine GL.pure rfl (p_and rfl rfl) ?_
  refine GL.pure rfl (p_addw rfl rfl) ?_
  refine GL.pure rfl (p_assign rfl) ?_
  refine GL.nil (?_ : GC _ _ _ _)
  refine GC.seq' ?_
  refine GC.region ?_
  refine GL.pure rfl (p_move rfl) ?_
  refine GL.pure rfl (p_shr rfl rfl (by omega)) ?_
  refine GL.pure rfl (p_move rfl) ?_
  refine GL.pure rfl (p_addw rfl rfl) ?_
  refine GL.pure rfl (p_and rfl rfl) ?_
  refine GL.pure rfl (p_assign rfl) ?_
  refine GL.nil (?_ : GC _ _ _ _)
  refine GC.seq' ?_
  refine GC.region ?_
  refine GL.pure rfl (p_move rfl) ?_
  refine GL.pure rfl (p_move rfl) ?_
  refine GL.pure rfl (p_shr rfl rfl (by omega)) ?_
  refine GL.pure rfl (p_addw rfl rfl) ?_
  refine GL.pure rfl (p_assign rfl) ?_
  refine GL.nil (?_ : GC _ _ _ _)
  refine GC.seq' ?_
  refine GC.region ?_
  refine GL.pure rfl (p_move rfl) ?_
  refine GL.pure rfl (p_move rfl) ?_
  refine GL.pure rfl (p_shr rfl rfl (by omega)) ?_
  refine GL.pure rfl (p_addw rfl rfl) ?_
  refine GL.pure rfl (p_assign rfl) ?_
  refine GL.nil (?_ : GC _ _ _ _)
  refine GC.seq' ?_
  refine GC.region ?_
  refine GL.pure rfl (p_move rfl) ?_
  refine GL.pure rfl (p_move rfl) ?_
  refine GL.pure rfl (p_shr rfl rfl (by omega)) ?_
  refine GL.pure rfl (p_addw rfl rfl) ?_
  refine GL.pure rfl (p_assign rfl) ?_
  refine GL.nil (?_ : GC _ _ _ _)
  refine GC.seq' ?_
  refine GC.region ?_
  refine GL.pure rfl (p_move rfl) ?_
  refine GL.pure rfl (p_conv (t := 49) (by rw [Try.underlying49]; simp) Try.underlying3 rfl) ?_
  refine GL.pure rfl (p_and rfl rfl) ?_
  refine GL.pure rfl (p_assign rfl) ?_
  refine GL.nil (?_ : GC _ _ _ _)
  refine GC.ret ?_
  refine fun a w h => Fin.back (rs := [.tmp 2]) (vs := [_]) (is := []) (js := []) rfl ⟨rfl, trivial⟩ rfl rfl ?_ h
  clear h
  refine ⟨congrArg (Value.int .i64) ?_, rfl, rfl⟩
  clear w a
  revert x
  decide +kernel
theorem ones_n (x : Nat) (hx : x < 512) : Ct Try.prog 38 [.int .u64 ((x : Nat) : Int)] [] [] (fun u G Q => u = .int .i64 ((popN 9 x : Nat) : Int) ∧ G = [] ∧ Q = []) := ones_ct ⟨x, hx⟩
theorem places_ct (e : Int) (A : Option Addr) (l : List Int) (cp : Nat) (B : Option Addr) (ns : List Int) (cq : Nat) (hg : groupOk e l = true) (hl : l.length ≤ 140737488355328) (hn : ns.length ≤ 140737488355328) : Ct Try.prog 37 [grpV e A l.length cp, .slice B ns.length cq] [] [Pers.row kI A l, Pers.row kI B ns]
    (fun u G Q => ∃ D cr, u = .slice D 1 cr ∧ G = [] ∧ Q = [Pers.row (Kd.int .u64) D [((mkI ns l l.length : Nat) : Int)]]) := by
  have h9 := (grp_len hg).2.1
  refine Ct.intro Try.func37 rfl rfl rfl (fun c hc => ?_)
  refine GC.seq' ?_
  refine GC.region ?_
  refine GL.step rfl (t_box rfl rfl rfl) (GL.ex fun b_t2 => ?_)
  refine GL.pure rfl (p_assign rfl) ?_
  refine GL.nil (?_ : GC _ _ _ _)
  refine GC.seq' ?_
  refine GC.region ?_
  refine GL.pure rfl (p_fieldAddr fo_24_1 rfl) ?_
  refine GL.step rfl (t_mem rfl (m_load (i := 0) rfl rfl ag_22 rfl)) ?_
  refine GL.pure rfl (p_len Try.underlying22 rfl) ?_
  refine GL.pure rfl (p_quo (r := 0) rfl rfl (by decide) (quo64 h9)) ?_
  refine GL.pure rfl (p_add rfl rfl (w64 (by omega) (by omega))) ?_
  refine GL.step rfl (t_make rfl el_47 rfl rfl (by omega) (by omega)) (GL.ex fun b_t13 => ?_)
  refine GL.pure rfl (p_assign rfl) ?_
  refine GL.nil (?_ : GC _ _ _ _)
  refine GC.seq' ?_
  refine GC.seq' ?_
  refine GC.region ?_
  skip
  refine GL.pure rfl (p_fieldAddr fo_24_1 rfl) ?_
  refine GL.step rfl (t_mem rfl (m_load (i := 1) rfl rfl ag_22 rfl)) ?_
  refine GL.pure rfl (p_len Try.underlying22 rfl) ?_
  refine GL.pure rfl (p_move rfl) ?_
  refine GL.nil (?_ : GC _ _ _ _)
  refine GC.block ?_
  refine GC.loopK1 (ks := [1, 5, 15, 16]) (is := [1]) (js := [0, 1]) (fun (k : Nat) => k ≤ l.length) (fun (k : Nat) => [(17, .int .i64 (k : Int))]) (fun (k : Nat) => [.cells b_t13 [.int .u64 ((mkI ns l k : Nat) : Int)] 49]) (fun (k : Nat) => []) (fun (k : Nat) => l.length - k) (0) rfl rfl rfl (fun a w h => ⟨by omega, h.cutK (is := [0, 0]) (js := [0, 1]) (ks := [1, 5, 15, 16]) ⟨rfl, trivial⟩ rfl rfl rfl⟩) ?_
  intro k hk
  try dsimp only [List.cons_append, List.nil_append] at hk ⊢
  refine GC.seq' ?_
  refine GC.region ?_
  refine GL.pure rfl (p_lss rfl rfl) ?_
  refine GL.nil (?_ : GC _ _ _ _)
  refine GC.seq' ?_
  refine GC.cond rfl (fun h1 => ?_) (fun h1 => ?_)
  · try simp only [decide_eq_true_eq, decide_eq_false_iff_not, Bool.not_eq_true', Bool.not_eq_false', Bool.not_true, Bool.not_false, Bool.not_not, ne_eq, Decidable.not_not, Int.not_lt, Int.not_le, gt_iff_lt, ge_iff_le, bool_true_eq_, bool_false_eq_] at h1
    refine GC.skip (?_ : GC _ _ _ _)
    refine GC.seq' ?_
    refine GC.block ?_
    refine GC.seq' ?_
    refine GC.region ?_
    refine GL.pure rfl (p_move rfl) ?_
    refine GL.step rfl (t_index (i := 0) rfl rfl rfl rfl Try.underlying22 sz_3 (by omega) (gt_ok (by omega) (by omega))) (GL.ex fun p_x20 => GL.ex fun r_x20 => GL.and fun ok_x20 => ?_)
    rcases r_x20 with _
    refine GL.step rfl (t_mem rfl (m_loadP (i := 0) rfl rfl ag_3 rfl)) ?_
    refine GL.pure rfl (p_assign rfl) ?_
    refine GL.pure rfl (p_assign rfl) ?_
    refine GL.nil (?_ : GC _ _ _ _)
    refine GC.seq' ?_
    refine GC.region ?_
    refine GL.pure rfl (p_move rfl) ?_
    refine GL.pure rfl (p_move rfl) ?_
    refine GL.step rfl (t_call rfl fn_30 rfl (is := []) (js := [2]) rfl rfl (by exact contains_i _ _ _ _ (by first | assumption | omega))) (GL.ret ?_)
    rintro _ _ _ ⟨rfl, rfl, rfl⟩
    refine GL.nil (?_ : GC _ _ _ _)
    refine GC.cond rfl (fun h2 => ?_) (fun h2 => ?_)
    · try simp only [decide_eq_true_eq, decide_eq_false_iff_not, Bool.not_eq_true', Bool.not_eq_false', Bool.not_true, Bool.not_false, Bool.not_not, ne_eq, Decidable.not_not, Int.not_lt, Int.not_le, gt_iff_lt, ge_iff_le, bool_true_eq_, bool_false_eq_] at h2
      refine GC.region ?_
      refine GL.pure rfl (p_move rfl) ?_
      refine GL.pure rfl (p_move rfl) ?_
      refine GL.pure rfl (p_quo (r := 0) rfl rfl (by decide) (quo64 (by omega))) ?_
      refine GL.pure rfl (p_indexB rfl rfl Try.underlying47 sz_49 (by omega) (by omega)) ?_
      refine GL.step rfl (t_mem rfl (m_load (i := 0) rfl rfl ag_49 rfl)) ?_
      refine GL.pure rfl (p_move rfl) ?_
      refine GL.pure rfl (p_rem (r := (k : Int)) rfl rfl (by decide) (rem64 (by omega))) ?_
      refine GL.pure rfl (p_convR (t := 3) (r := (k : Int)) (by rw [Try.underlying3]; simp) Try.underlying55 rfl (cvu (by omega))) ?_
      refine GL.pure rfl (p_shlR (r := ((2 ^ k : Nat) : Int)) rfl rfl (by omega) (sh64 (by omega))) ?_
      refine GL.pure rfl (p_orR (r := ((mkI ns l k + 2 ^ k : Nat) : Int)) rfl rfl (or64 (by omega) (mkI_lt (by omega)))) ?_
      refine GL.pure rfl (p_indexB rfl rfl Try.underlying47 sz_49 (by omega) (by omega)) ?_
      refine GL.step rfl (t_store (i := 0) rfl rfl rfl rfl sz_49 rfl rfl rfl) ?_
      refine GL.nil (?_ : GC _ _ _ _)
      refine GC.region ?_
      refine GL.pure rfl (p_add rfl rfl (w64 (by omega) (by omega))) ?_
      refine GL.pure rfl (p_move rfl) ?_
      refine GL.nil ?_
      exact fun a w h => ⟨(k + 1), (by omega), by omega, by rw [mkI_yes (by omega) (by assumption)]; exact h.cut (is := [0, 0]) (js := [1, 2]) ⟨rfl, rfl, rfl, rfl, rfl, trivial⟩ rfl rfl⟩
    · try simp only [decide_eq_true_eq, decide_eq_false_iff_not, Bool.not_eq_true', Bool.not_eq_false', Bool.not_true, Bool.not_false, Bool.not_not, ne_eq, Decidable.not_not, Int.not_lt, Int.not_le, gt_iff_lt, ge_iff_le, bool_true_eq_, bool_false_eq_] at h2
      refine GC.skip (?_ : GC _ _ _ _)
      refine GC.region ?_
      refine GL.pure rfl (p_add rfl rfl (w64 (by omega) (by omega))) ?_
      refine GL.pure rfl (p_move rfl) ?_
      refine GL.nil ?_
      exact fun a w h => ⟨(k + 1), (by omega), by omega, by rw [mkI_no (by omega) (by assumption)]; exact h.cut (is := [0, 0]) (js := [1, 2]) ⟨rfl, rfl, rfl, rfl, rfl, trivial⟩ rfl rfl⟩
  · try simp only [decide_eq_true_eq, decide_eq_false_iff_not, Bool.not_eq_true', Bool.not_eq_false', Bool.not_true, Bool.not_false, Bool.not_not, ne_eq, Decidable.not_not, Int.not_lt, Int.not_le, gt_iff_lt, ge_iff_le, bool_true_eq_, bool_false_eq_] at h1
    refine GC.exit (?_ : GC _ _ _ _)
    refine GC.seq' ?_
    refine GC.region ?_
    refine GL.pure rfl (p_move rfl) ?_
    refine GL.pure rfl (p_assign rfl) ?_
    refine GL.nil (?_ : GC _ _ _ _)
    refine GC.freezeC (enc := Value.int .u64) (xs := [((mkI ns l k : Nat) : Int)]) (h1 := fun _ => rfl) (i := 0) rfl ?_
    refine GC.ret ?_
    refine fun a w h => Fin.back (rs := [.tmp 4]) (vs := [_]) (is := []) (js := [0]) rfl ⟨rfl, trivial⟩ rfl rfl ?_ h
    clear h
    obtain rfl : k = l.length := by omega
    exact ⟨_, _, rfl, rfl, rfl⟩
theorem reached_ct (e : Int) (A : Option Addr) (l : List Int) (cp : Nat) (B : Option Addr) (ns : List Int) (cq : Nat) (hg : groupOk e l = true) (hl : l.length ≤ 140737488355328) (hn : ns.length ≤ 140737488355328) : Ct Try.prog 26 [grpV e A l.length cp, .slice B ns.length cq] [] [Pers.row kI A l, Pers.row kI B ns]
    (fun u G Q => u = .bool (decide (((l.length / 2 : Nat) : Int) + 1 ≤ (cntI ns l : Int))) ∧ G = [] ∧ Q = []) := by
  have h9 := (grp_len hg).2.1
  have hm : mkI ns l l.length < 512 := Nat.lt_of_lt_of_le (mkI_lt (Nat.le_refl _)) (Nat.pow_le_pow_right (n := 2) (by decide) h9 : 2 ^ l.length ≤ 2 ^ 9)
  have hp := mkI_pop (ns := ns) h9
  have hc : cntI ns l ≤ l.length := List.length_filter_le ..
  refine Ct.intro Try.func26 rfl rfl rfl (fun c hc => ?_)
  refine GC.seq' ?_
  refine GC.region ?_
  refine GL.step rfl (t_box rfl rfl rfl) (GL.ex fun b_t2 => ?_)
  refine GL.pure rfl (p_assign rfl) ?_
  refine GL.nil (?_ : GC _ _ _ _)
  refine GC.seq' ?_
  refine GC.region ?_
  refine GL.pure rfl (p_assign rfl) ?_
  refine GL.nil (?_ : GC _ _ _ _)
  refine GC.seq' ?_
  refine GC.seq' ?_
  refine GC.region ?_
  refine GL.step rfl (t_mem rfl (m_loadN (i := 0) rfl rfl ag_24 (vs := [_, _]) sz_24 ⟨rfl, rfl, trivial⟩)) ?_
  refine GL.pure rfl (p_move rfl) ?_
  refine GL.step rfl (t_call rfl fn_37 rfl (is := []) (js := [0, 1]) rfl rfl (by exact places_ct _ _ l _ _ ns _ hg hl hn)) (GL.ret ?_)
  rintro _ _ _ ⟨A10, cp10, rfl, rfl, rfl⟩
  refine GL.pure rfl (p_len Try.underlying47 rfl) ?_
  refine GL.pure rfl (p_move rfl) ?_
  refine GL.nil (?_ : GC _ _ _ _)
  refine GC.block ?_
  refine GC.loopK2 (ks := [2, 10, 11]) (is := [0]) (js := [0, 1, 2]) (fun (k : Nat) (s : Int) => (k = 0 ∧ s = 0) ∨ (k = 1 ∧ s = (cntI ns l : Int))) (fun (k : Nat) (s : Int) => [(5, .int .i64 s), (12, .int .i64 (k : Int))]) (fun (k : Nat) (s : Int) => []) (fun (k : Nat) (s : Int) => []) (fun (k : Nat) (s : Int) => 1 - k) (0) (0) rfl rfl rfl (fun a w h => ⟨.inl ⟨rfl, rfl⟩, h.cutK (is := [0]) (js := [0, 1, 2]) (ks := [2, 10, 11]) ⟨rfl, rfl, trivial⟩ rfl rfl rfl⟩) ?_
  intro k s hk
  try dsimp only [List.cons_append, List.nil_append] at hk ⊢
  refine GC.seq' ?_
  refine GC.region ?_
  refine GL.pure rfl (p_lss rfl rfl) ?_
  refine GL.nil (?_ : GC _ _ _ _)
  refine GC.seq' ?_
  refine GC.cond rfl (fun h1 => ?_) (fun h1 => ?_)
  · try simp only [decide_eq_true_eq, decide_eq_false_iff_not, Bool.not_eq_true', Bool.not_eq_false', Bool.not_true, Bool.not_false, Bool.not_not, ne_eq, Decidable.not_not, Int.not_lt, Int.not_le, gt_iff_lt, ge_iff_le, bool_true_eq_, bool_false_eq_] at h1
    refine GC.skip (?_ : GC _ _ _ _)
    refine GC.seq' ?_
    refine GC.block ?_
    refine GC.seq' ?_
    refine GC.region ?_
    obtain rfl : k = 0 := by omega
    refine GL.step rfl (t_index (i := 0) rfl rfl rfl rfl Try.underlying47 sz_49 (by omega) (gt_ok (by omega) (by omega))) (GL.ex fun p_x14 => GL.ex fun r_x14 => GL.and fun ok_x14 => ?_)
    rcases r_x14 with _
    refine GL.step rfl (t_mem rfl (m_loadP (i := 0) rfl rfl ag_49 rfl)) ?_
    refine GL.pure rfl (p_assign rfl) ?_
    refine GL.nil (?_ : GC _ _ _ _)
    refine GC.region ?_
    refine GL.pure rfl (p_move rfl) ?_
    refine GL.pure rfl (p_move rfl) ?_
    refine GL.step rfl (t_call rfl fn_38 rfl (is := []) (js := []) rfl rfl (by exact ones_n (mkI ns l l.length) hm)) (GL.ret ?_)
    rintro _ _ _ ⟨rfl, rfl, rfl⟩
    refine GL.pure rfl (p_add rfl rfl (w64 (by omega) (by omega))) ?_
    refine GL.pure rfl (p_assign rfl) ?_
    refine GL.nil (?_ : GC _ _ _ _)
    refine GC.region ?_
    refine GL.pure rfl (p_add rfl rfl (w64 (by omega) (by omega))) ?_
    refine GL.pure rfl (p_move rfl) ?_
    refine GL.nil ?_
    exact fun a w h => ⟨(1), (_), (by omega), .inr ⟨rfl, by rw [hp]; omega⟩, h.cut (is := [0]) (js := [1, 2, 3]) ⟨rfl, rfl, rfl, rfl, rfl, trivial⟩ rfl rfl⟩
  · try simp only [decide_eq_true_eq, decide_eq_false_iff_not, Bool.not_eq_true', Bool.not_eq_false', Bool.not_true, Bool.not_false, Bool.not_not, ne_eq, Decidable.not_not, Int.not_lt, Int.not_le, gt_iff_lt, ge_iff_le, bool_true_eq_, bool_false_eq_] at h1
    refine GC.exit (?_ : GC _ _ _ _)
    refine GC.seq' ?_
    refine GC.region ?_
    refine GL.pure rfl (p_move rfl) ?_
    refine GL.step rfl (t_mem rfl (m_loadN (i := 0) rfl rfl ag_24 (vs := [_, _]) sz_24 ⟨rfl, rfl, trivial⟩)) ?_
    refine GL.step rfl (t_call rfl fn_23 rfl (is := []) (js := []) rfl rfl (by exact quorum_ct _ _ _ _ (by first | assumption | omega))) (GL.ret ?_)
    rintro _ _ _ ⟨rfl, rfl, rfl⟩
    refine GL.pure rfl (p_geq rfl rfl) ?_
    refine GL.pure rfl (p_assign rfl) ?_
    refine GL.nil (?_ : GC _ _ _ _)
    refine GC.ret ?_
    refine fun a w h => Fin.back (rs := [.tmp 4]) (vs := [_]) (is := []) (js := []) rfl ⟨rfl, trivial⟩ rfl rfl ?_ h
    clear h
    refine ⟨congrArg Value.bool ?_, rfl, rfl⟩
    obtain rfl : s = (cntI ns l : Int) := by omega
    first | rfl | (rw [Bool.eq_iff_iff]; simp)
theorem groupCommon_ct (e : Int) (A : Option Addr) (l : List Int) (cp : Nat) (B : Option Addr) (ea eb : List Int) (cq : Nat) (D : Option Addr) (cr : Nat) (hl : l.length ≤ cp) (ha : ea.length ≤ cq) (hb : eb.length ≤ cr) :
    Ct Try.prog 7 [grpV e A l.length cp, .slice B ea.length cq, .slice D eb.length cr] [] [Pers.row kI A l, Pers.row kI B ea, Pers.row kI D eb] (fun u G Q => u = .bool true ∧ G = [] ∧ Q = []) := by
  have q1 : (l.take 100).length ≤ 140737488355328 := by simp; omega
  have q2 : (ea.take 100).length ≤ 140737488355328 := by simp; omega
  have q3 : (eb.take 100).length ≤ 140737488355328 := by simp; omega
  refine Ct.intro Try.func7 rfl rfl rfl (fun c hc => ?_)
  refine GC.seq' ?_
  refine GC.region ?_
  refine GL.step rfl (t_box rfl rfl rfl) (GL.ex fun b_t3 => ?_)
  refine GL.pure rfl (p_assign rfl) ?_
  refine GL.nil (?_ : GC _ _ _ _)
  refine GC.seq' ?_
  refine GC.seq' ?_
  refine GC.region ?_
  refine GL.step rfl (t_call rfl fn_13 rfl (is := []) (js := []) rfl rfl (by exact awake_ct)) (GL.ret ?_)
  rintro _ _ _ ⟨rfl, rfl, rfl⟩
  refine GL.pure rfl (p_not rfl) ?_
  refine GL.nil (?_ : GC _ _ _ _)
  refine GC.cond_false rfl ?_
  refine GC.skip (?_ : GC _ _ _ _)
  refine GC.seq' ?_
  refine GC.region ?_
  refine GL.step rfl (t_mem rfl (m_loadN (i := 0) rfl rfl ag_24 (vs := [_, _]) sz_24 ⟨rfl, rfl, trivial⟩)) ?_
  refine GL.step rfl (t_call rfl fn_8 rfl (is := []) (js := [0]) rfl rfl (by exact cut_ct _ _ _ _ (by first | assumption | omega))) (GL.ret ?_)
  rintro _ _ _ ⟨A11, cp11, rfl, rfl, rfl⟩
  refine GL.pure rfl (p_move rfl) ?_
  refine GL.step rfl (t_call rfl fn_9 rfl (is := []) (js := [2]) rfl rfl (by exact few_ct _ _ _ (by first | assumption | omega))) (GL.ret ?_)
  rintro _ _ _ ⟨A13, cp13, rfl, rfl, rfl⟩
  refine GL.pure rfl (p_move rfl) ?_
  refine GL.step rfl (t_call rfl fn_9 rfl (is := []) (js := [4]) rfl rfl (by exact few_ct _ _ _ (by first | assumption | omega))) (GL.ret ?_)
  rintro _ _ _ ⟨A15, cp15, rfl, rfl, rfl⟩
  refine GL.step rfl (t_storeN (i := 0) rfl rfl rfl sz_24 rfl rfl rfl) ?_
  refine GL.pure rfl (p_assign rfl) ?_
  refine GL.pure rfl (p_assign rfl) ?_
  refine GL.nil (?_ : GC _ _ _ _)
  refine GC.seq' ?_
  refine GC.seq' ?_
  refine GC.region ?_
  refine GL.step rfl (t_mem rfl (m_loadN (i := 0) rfl rfl ag_24 (vs := [_, _]) sz_24 ⟨rfl, rfl, trivial⟩)) ?_
  refine GL.step rfl (t_call rfl fn_14 rfl (is := []) (js := [2]) rfl rfl (by exact rcheck_ct _ _ (l.take 100) _ q1)) (GL.ret ?_)
  rintro _ _ _ ⟨rfl, rfl, rfl⟩
  refine GL.pure rfl (p_neq rfl rfl) ?_
  refine GL.pure rfl (p_move rfl) ?_
  refine GL.split (i := 19) rfl (fun h1 => ?_) (fun h1 => ?_)
  · try simp only [decide_eq_true_eq, decide_eq_false_iff_not, Bool.not_eq_true', Bool.not_eq_false', Bool.not_true, Bool.not_false, Bool.not_not, ne_eq, Decidable.not_not, Int.not_lt, Int.not_le, gt_iff_lt, ge_iff_le, bool_true_eq_, bool_false_eq_, chkE_iff] at h1
    first
    | (exfalso; first | omega | (simp at h1; done))
    | (skip
       refine GL.pass (s := 19) rfl rfl rfl ?_
       refine GL.pass (s := 19) rfl rfl rfl ?_
       refine GL.pass (s := 19) rfl rfl rfl ?_
       refine GL.pass (s := 19) rfl rfl rfl ?_
       refine GL.pure rfl (p_pick_true rfl rfl) ?_
       refine GL.pure rfl (p_move rfl) ?_
       refine GL.pass (s := 25) rfl rfl rfl ?_
       refine GL.pass (s := 25) rfl rfl rfl ?_
       refine GL.pass (s := 25) rfl rfl rfl ?_
       refine GL.pass (s := 25) rfl rfl rfl ?_
       refine GL.pure rfl (p_pick_true rfl rfl) ?_
       refine GL.nil (?_ : GC _ _ _ _)
       refine GC.cond_true rfl ?_
       refine GC.seq' ?_
       refine GC.region ?_
       refine GL.pure rfl (p_assign rfl) ?_
       refine GL.nil (?_ : GC _ _ _ _)
       refine GC.ret ?_
       refine fun a w h => Fin.back (rs := [.tmp 6]) (vs := [_]) (is := []) (js := []) rfl ⟨rfl, trivial⟩ rfl rfl ?_ h
       clear h
       exact ⟨rfl, rfl, rfl⟩)
  · try simp only [decide_eq_true_eq, decide_eq_false_iff_not, Bool.not_eq_true', Bool.not_eq_false', Bool.not_true, Bool.not_false, Bool.not_not, ne_eq, Decidable.not_not, Int.not_lt, Int.not_le, gt_iff_lt, ge_iff_le, bool_true_eq_, bool_false_eq_, chkE_iff] at h1
    first
    | (exfalso; first | omega | (simp at h1; done))
    | (skip
       refine GL.stepG rfl (s := 19) rfl rfl (t_mem rfl (m_loadN (i := 0) rfl rfl ag_24 (vs := [_, _]) sz_24 ⟨rfl, rfl, trivial⟩)) ?_
       refine GL.pureG (s := 19) rfl rfl rfl (p_move rfl) ?_
       refine GL.stepG rfl (s := 19) rfl rfl (t_call rfl fn_26 rfl (is := []) (js := [2, 1]) rfl rfl (by exact reached_ct _ _ (l.take 100) _ _ (ea.take 100) _ (by assumption) q1 q2)) (GL.ret ?_)
       rintro _ _ _ ⟨rfl, rfl, rfl⟩
       refine GL.pureG (s := 19) rfl rfl rfl (p_not rfl) ?_
       refine GL.pure rfl (p_pick_false rfl rfl) ?_
       refine GL.pure rfl (p_move rfl) ?_
       refine GL.split (i := 25) rfl (fun h2 => ?_) (fun h2 => ?_)
       · try simp only [decide_eq_true_eq, decide_eq_false_iff_not, Bool.not_eq_true', Bool.not_eq_false', Bool.not_true, Bool.not_false, Bool.not_not, ne_eq, Decidable.not_not, Int.not_lt, Int.not_le, gt_iff_lt, ge_iff_le, bool_true_eq_, bool_false_eq_, chkE_iff] at h2
         first
         | (exfalso; first | omega | (simp at h2; done))
         | (skip
            refine GL.pass (s := 25) rfl rfl rfl ?_
            refine GL.pass (s := 25) rfl rfl rfl ?_
            refine GL.pass (s := 25) rfl rfl rfl ?_
            refine GL.pass (s := 25) rfl rfl rfl ?_
            refine GL.pure rfl (p_pick_true rfl rfl) ?_
            refine GL.nil (?_ : GC _ _ _ _)
            refine GC.cond_true rfl ?_
            refine GC.seq' ?_
            refine GC.region ?_
            refine GL.pure rfl (p_assign rfl) ?_
            refine GL.nil (?_ : GC _ _ _ _)
            refine GC.ret ?_
            refine fun a w h => Fin.back (rs := [.tmp 6]) (vs := [_]) (is := []) (js := []) rfl ⟨rfl, trivial⟩ rfl rfl ?_ h
            clear h
            exact ⟨rfl, rfl, rfl⟩)
       · try simp only [decide_eq_true_eq, decide_eq_false_iff_not, Bool.not_eq_true', Bool.not_eq_false', Bool.not_true, Bool.not_false, Bool.not_not, ne_eq, Decidable.not_not, Int.not_lt, Int.not_le, gt_iff_lt, ge_iff_le, bool_true_eq_, bool_false_eq_, chkE_iff] at h2
         first
         | (exfalso; first | omega | (simp at h2; done))
         | (skip
            refine GL.stepG rfl (s := 25) rfl rfl (t_mem rfl (m_loadN (i := 0) rfl rfl ag_24 (vs := [_, _]) sz_24 ⟨rfl, rfl, trivial⟩)) ?_
            refine GL.pureG (s := 25) rfl rfl rfl (p_move rfl) ?_
            refine GL.stepG rfl (s := 25) rfl rfl (t_call rfl fn_26 rfl (is := []) (js := [2, 0]) rfl rfl (by exact reached_ct _ _ (l.take 100) _ _ (eb.take 100) _ (by assumption) q1 q3)) (GL.ret ?_)
            rintro _ _ _ ⟨rfl, rfl, rfl⟩
            refine GL.pureG (s := 25) rfl rfl rfl (p_not rfl) ?_
            refine GL.pure rfl (p_pick_false rfl rfl) ?_
            refine GL.nil (?_ : GC _ _ _ _)
            refine GC.cond rfl (fun h3 => ?_) (fun h3 => ?_)
            · try simp only [decide_eq_true_eq, decide_eq_false_iff_not, Bool.not_eq_true', Bool.not_eq_false', Bool.not_true, Bool.not_false, Bool.not_not, ne_eq, Decidable.not_not, Int.not_lt, Int.not_le, gt_iff_lt, ge_iff_le, bool_true_eq_, bool_false_eq_, chkE_iff] at h3
              first
              | (exfalso; first | omega | (simp at h3; done))
              | (skip
                 refine GC.seq' ?_
                 refine GC.region ?_
                 refine GL.pure rfl (p_assign rfl) ?_
                 refine GL.nil (?_ : GC _ _ _ _)
                 refine GC.ret ?_
                 refine fun a w h => Fin.back (rs := [.tmp 6]) (vs := [_]) (is := []) (js := []) rfl ⟨rfl, trivial⟩ rfl rfl ?_ h
                 clear h
                 exact ⟨rfl, rfl, rfl⟩)
            · try simp only [decide_eq_true_eq, decide_eq_false_iff_not, Bool.not_eq_true', Bool.not_eq_false', Bool.not_true, Bool.not_false, Bool.not_not, ne_eq, Decidable.not_not, Int.not_lt, Int.not_le, gt_iff_lt, ge_iff_le, bool_true_eq_, bool_false_eq_, chkE_iff] at h3
              first
              | (exfalso; first | omega | (simp at h3; done))
              | (skip
                 refine GC.skip (?_ : GC _ _ _ _)
                 refine GC.seq' ?_
                 refine GC.seq' ?_
                 refine GC.region ?_
                 refine GL.pure rfl (p_assign rfl) ?_
                 refine GL.nil (?_ : GC _ _ _ _)
                 refine GC.block ?_
                 refine GC.loopK1 (ks := [1, 2, 3]) (is := [0]) (js := [0, 1, 2, 3, 4, 5]) (fun (k : Nat) => k ≤ (ea.take 100).length ∧ ∀ j : Nat, j < k → ¬ (gt (ea.take 100) (j : Int) ∈ eb.take 100 ∧ gt (ea.take 100) (j : Int) ∈ l.take 100)) (fun (k : Nat) => [(7, .int .i64 (k : Int))]) (fun (k : Nat) => []) (fun (k : Nat) => []) (fun (k : Nat) => (ea.take 100).length - k) (0) rfl rfl rfl (fun a w h => ⟨⟨by omega, fun j hj => by omega⟩, h.cutK (is := [0]) (js := [0, 1, 2, 3, 4, 5]) (ks := [1, 2, 3]) ⟨rfl, trivial⟩ rfl rfl rfl⟩) ?_
                 intro k hk
                 try dsimp only [List.cons_append, List.nil_append] at hk ⊢
                 obtain ⟨hk, hn⟩ := hk
                 refine GC.seq' ?_
                 refine GC.seq' ?_
                 refine GC.region ?_
                 refine GL.pure rfl (p_move rfl) ?_
                 refine GL.pure rfl (p_move rfl) ?_
                 refine GL.pure rfl (p_len Try.underlying22 rfl) ?_
                 refine GL.pure rfl (p_lss rfl rfl) ?_
                 refine GL.nil (?_ : GC _ _ _ _)
                 refine GC.cond rfl (fun h4 => ?_) (fun h4 => ?_)
                 · try simp only [decide_eq_true_eq, decide_eq_false_iff_not, Bool.not_eq_true', Bool.not_eq_false', Bool.not_true, Bool.not_false, Bool.not_not, ne_eq, Decidable.not_not, Int.not_lt, Int.not_le, gt_iff_lt, ge_iff_le, bool_true_eq_, bool_false_eq_, chkE_iff] at h4
                   first
                   | (exfalso; first | omega | (simp at h4; done))
                   | (skip
                      refine GC.skip (?_ : GC _ _ _ _)
                      refine GC.seq' ?_
                      refine GC.block ?_
                      refine GC.seq' ?_
                      refine GC.layQ (y := .tmp 7) (j := 1) rfl rfl (by omega) (gt_ok (by omega) (by omega)) (fun p_x40 r_x40 hA_x40 ok_x40 => ?_)
                      rcases r_x40 with _
                      refine GC.layQ (y := .tmp 7) (j := 2) rfl rfl (by omega) (gt_ok (by omega) (by omega)) (fun p_x47 r_x47 hA_x47 ok_x47 => ?_)
                      rcases r_x47 with _
                      refine GC.regionQ wide_ (by kernel_rfl) ?_
                      refine GQ.step rfl (q_pure (p_move rfl)) ?_
                      refine GQ.step rfl (q_pure (p_move rfl)) ?_
                      refine GQ.step rfl (q_pure (p_move rfl)) ?_
                      refine GQ.step rfl (q_pure (p_indexL hA_x40 rfl rfl Try.underlying22 sz_3 (by omega) (by omega))) ?_
                      refine GQ.step rfl (q_mem (m_loadP (i := 1) rfl rfl ag_3 rfl)) ?_
                      refine GQ.step rfl (q_call fn_16 rfl (js := [2]) rfl (by exact in_ct _ (eb.take 100) _ _ q3)) ?_
                      refine GQ.step rfl (q_pure (p_move rfl)) ?_
                      refine GQ.split (i := 43) rfl (fun h5 => ?_) (fun h5 => ?_)
                      · try simp only [decide_eq_true_eq, decide_eq_false_iff_not, Bool.not_eq_true', Bool.not_eq_false', Bool.not_true, Bool.not_false, Bool.not_not, ne_eq, Decidable.not_not, Int.not_lt, Int.not_le, gt_iff_lt, ge_iff_le, bool_true_eq_, bool_false_eq_, chkE_iff] at h5
                        first
                        | (exfalso; first | omega | (simp at h5; done))
                        | (skip
                           refine GQ.stepG (s := 43) rfl rfl rfl (q_mem (m_loadN (i := 0) rfl rfl ag_24 (vs := [_, _]) sz_24 ⟨rfl, rfl, trivial⟩)) ?_
                           refine GQ.stepG (s := 43) rfl rfl rfl (q_pure (p_move rfl)) ?_
                           refine GQ.stepG (s := 43) rfl rfl rfl (q_pure (p_move rfl)) ?_
                           refine GQ.stepG (s := 43) rfl rfl rfl (q_pure (p_indexL hA_x47 rfl rfl Try.underlying22 sz_3 (by omega) (by omega))) ?_
                           refine GQ.stepG (s := 43) rfl rfl rfl (q_mem (m_loadP (i := 0) rfl rfl ag_3 rfl)) ?_
                           refine GQ.stepG (s := 43) rfl rfl rfl (q_call fn_17 rfl (js := [4]) rfl (by exact has_ct _ _ (l.take 100) _ _ q1)) ?_
                           refine GQ.step rfl (q_pure (p_pick_true rfl rfl)) ?_
                           refine GQ.nil (?_ : GC _ _ _ _)
                           refine GC.cond rfl (fun h6 => ?_) (fun h6 => ?_)
                           · try simp only [decide_eq_true_eq, decide_eq_false_iff_not, Bool.not_eq_true', Bool.not_eq_false', Bool.not_true, Bool.not_false, Bool.not_not, ne_eq, Decidable.not_not, Int.not_lt, Int.not_le, gt_iff_lt, ge_iff_le, bool_true_eq_, bool_false_eq_, chkE_iff] at h6
                             first
                             | (exfalso; first | omega | (simp at h6; done))
                             | (skip
                                refine GC.seq' ?_
                                refine GC.region ?_
                                refine GL.pure rfl (p_assign rfl) ?_
                                refine GL.nil (?_ : GC _ _ _ _)
                                refine GC.ret ?_
                                refine fun a w h => Fin.back (rs := [.tmp 6]) (vs := [_]) (is := []) (js := []) rfl ⟨rfl, trivial⟩ rfl rfl ?_ h
                                clear h
                                exact ⟨rfl, rfl, rfl⟩)
                           · try simp only [decide_eq_true_eq, decide_eq_false_iff_not, Bool.not_eq_true', Bool.not_eq_false', Bool.not_true, Bool.not_false, Bool.not_not, ne_eq, Decidable.not_not, Int.not_lt, Int.not_le, gt_iff_lt, ge_iff_le, bool_true_eq_, bool_false_eq_, chkE_iff] at h6
                             first
                             | (exfalso; first | omega | (simp at h6; done))
                             | (skip
                                refine GC.skip (?_ : GC _ _ _ _)
                                refine GC.region ?_
                                refine GL.pure rfl (p_move rfl) ?_
                                refine GL.pure rfl (p_add rfl rfl (w64 (by omega) (by omega))) ?_
                                refine GL.pure rfl (p_assign rfl) ?_
                                refine GL.nil ?_
                                exact fun a w h => ⟨(k + 1), (by omega), ⟨by omega, fun j hj => (Nat.lt_succ_iff_lt_or_eq.1 hj).elim (hn j) (fun e => by subst e; intro g; simp_all)⟩, h.cut (is := [0]) (js := [2, 3, 4, 5, 6, 7]) ⟨rfl, rfl, rfl, rfl, trivial⟩ rfl rfl⟩))
                      · try simp only [decide_eq_true_eq, decide_eq_false_iff_not, Bool.not_eq_true', Bool.not_eq_false', Bool.not_true, Bool.not_false, Bool.not_not, ne_eq, Decidable.not_not, Int.not_lt, Int.not_le, gt_iff_lt, ge_iff_le, bool_true_eq_, bool_false_eq_, chkE_iff] at h5
                        first
                        | (exfalso; first | omega | (simp at h5; done))
                        | (skip
                           refine GQ.pass (s := 43) rfl rfl rfl ?_
                           refine GQ.pass (s := 43) rfl rfl rfl ?_
                           refine GQ.pass (s := 43) rfl rfl rfl ?_
                           refine GQ.pass (s := 43) rfl rfl rfl ?_
                           refine GQ.pass (s := 43) rfl rfl rfl ?_
                           refine GQ.pass (s := 43) rfl rfl rfl ?_
                           refine GQ.step rfl (q_pure (p_pick_false rfl rfl)) ?_
                           refine GQ.nil (?_ : GC _ _ _ _)
                           refine GC.cond_false rfl ?_
                           refine GC.skip (?_ : GC _ _ _ _)
                           refine GC.region ?_
                           refine GL.pure rfl (p_move rfl) ?_
                           refine GL.pure rfl (p_add rfl rfl (w64 (by omega) (by omega))) ?_
                           refine GL.pure rfl (p_assign rfl) ?_
                           refine GL.nil ?_
                           exact fun a w h => ⟨(k + 1), (by omega), ⟨by omega, fun j hj => (Nat.lt_succ_iff_lt_or_eq.1 hj).elim (hn j) (fun e => by subst e; intro g; simp_all)⟩, h.cut (is := [0]) (js := [2, 3, 4, 5, 6, 7]) ⟨rfl, rfl, rfl, rfl, trivial⟩ rfl rfl⟩))
                 · try simp only [decide_eq_true_eq, decide_eq_false_iff_not, Bool.not_eq_true', Bool.not_eq_false', Bool.not_true, Bool.not_false, Bool.not_not, ne_eq, Decidable.not_not, Int.not_lt, Int.not_le, gt_iff_lt, ge_iff_le, bool_true_eq_, bool_false_eq_, chkE_iff] at h4
                   first
                   | (exfalso; first | omega | (simp at h4; done))
                   | (skip
                      refine GC.exit (?_ : GC _ _ _ _)
                      refine GC.seq' ?_
                      refine GC.region ?_
                      refine GL.pure rfl (p_assign rfl) ?_
                      refine GL.nil (?_ : GC _ _ _ _)
                      refine GC.ret ?_
                      refine fun a w h => Fin.back (rs := [.tmp 6]) (vs := [_]) (is := []) (js := []) rfl ⟨rfl, trivial⟩ rfl rfl ?_ h
                      clear h
                      exfalso
                      have := cnt_sum (a := ea.take 100) (b := eb.take 100) (l := l.take 100) (fun x hx h1 h2 => by
                        obtain ⟨j, hj, e⟩ := mem_gt h1
                        exact hn j (by omega) ⟨by rw [e]; exact h2, by rw [e]; exact hx⟩)
                      omega))))
end Go.Proofs.Ytoofbjclockcdaa
