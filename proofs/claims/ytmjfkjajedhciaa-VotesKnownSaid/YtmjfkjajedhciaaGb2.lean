/- ROWS OF NUMBERS: numbers deleted, by closures. -/
import Derived.Test.YtmjfkjajedhciaaGb1
import Derived.Test.YtmjfkjajedhciaaSx19
set_option linter.unusedVariables false
set_option linter.unusedSimpArgs false
set_option maxRecDepth 100000
namespace Go.Proofs.Ytmjfkjajedhciaa
open Go Go.Sx Go.Proofs
section
variable {p : Int → Bool} {xs ys : List Int} {i k : Nat}
theorem gt_get {α : Type} [Inhabited α] {l : List α} {k : Nat} (h : k < l.length) : gt l (k : Int) = l[k] := by
  have := gt_ok (xs := l) (i := (k : Int)) (by omega) (by omega)
  simp only [Int.toNat_natCast, List.getElem?_eq_getElem h, Option.some.injEq] at this
  exact this.symm
theorem del_gt (hk : k < xs.length) (hl : ys.length = xs.length) (h : ys.drop k = xs.drop k) : gt ys (k : Int) = gt xs (k : Int) := by
  rw [drop_gtI (show k < ys.length by omega), drop_gtI hk] at h
  exact (List.cons.inj h).1
theorem drop_next (h : ys.drop k = xs.drop k) : ys.drop (k + 1) = xs.drop (k + 1) := by
  rw [← List.drop_drop, ← List.drop_drop, h]
theorem filter_take (hk : k < xs.length) : (xs.take (k + 1)).filter p = (xs.take k).filter p ++ (if p (gt xs (k : Int)) = true then [gt xs (k : Int)] else []) := by
  rw [take_gtI hk, List.filter_append]
  by_cases h : p (gt xs (k : Int)) = true <;> simp [h]
theorem del_none (g : ∀ j : Nat, j < xs.length → p (gt xs (j : Int)) = false) : xs.filter (fun x => !p x) = xs := by
  rw [List.filter_eq_self]
  intro x hx
  obtain ⟨j, hj, rfl⟩ := mem_gt hx
  rw [g j hj]; rfl
theorem del_first (hi : i < xs.length) (hp : p (gt xs (i : Int)) = true) (h : ∀ j : Nat, j < i → p (gt xs (j : Int)) = false) : xs.take i = (xs.take (i + 1)).filter (fun x => !p x) := by
  rw [filter_take hi, hp]
  have : (xs.take i).filter (fun x => !p x) = xs.take i := del_none fun j hj => by
    have hj' : j < i := by simp at hj; omega
    have e : gt (xs.take i) (j : Int) = gt xs (j : Int) := by
      rw [gt_get hj, gt_get (show j < xs.length by omega), List.getElem_take]
    rw [e]; exact h j hj'
  rw [this]; simp
theorem del_skip (hk : k < xs.length) (h : ys.take i = (xs.take k).filter (fun x => !p x)) (hp : p (gt xs (k : Int)) = true) : ys.take i = (xs.take (k + 1)).filter (fun x => !p x) := by
  rw [filter_take hk, hp, h]; simp
theorem del_keep (hk : k < xs.length) (hi : i < xs.length) (hl : ys.length = xs.length) (h : ys.take i = (xs.take k).filter (fun x => !p x)) (hp : p (gt xs (k : Int)) = false) : (ys.set ((i : Int)).toNat (gt xs (k : Int))).take (i + 1) = (xs.take (k + 1)).filter (fun x => !p x) := by
  rw [filter_take hk, hp, ← h]
  rw [Int.toNat_natCast, List.take_set, List.set_eq_take_append_cons_drop, if_pos (by simp; omega)]
  rw [List.take_take, Nat.min_eq_left (by omega), List.drop_of_length_le (by simp; omega)]
  simp
theorem del_drop (hi : i < k) (h : ys.drop k = xs.drop k) {v : Int} : (ys.set ((i : Int)).toNat v).drop (k + 1) = xs.drop (k + 1) := by
  rw [Int.toNat_natCast, List.drop_set_of_lt (by omega)]
  exact drop_next h
theorem clear_tail {sp : List Value} {n : Nat} (hl : ys.length = n) (hi : i ≤ n) : laid (ys.map iv ++ sp) (0 + ((i : Int)).toNat * 1) (List.replicate (n - ((i : Int)).toNat) (iv 0)) = (ys.take i).map iv ++ (List.replicate (n - i) (iv 0) ++ sp) := by
  rw [Int.toNat_natCast, Nat.zero_add, Nat.mul_one, laid, List.take_append_of_le_length (by simp; omega), List.map_take, List.drop_append]
  rw [List.drop_of_length_le (by simp; omega), List.length_replicate, List.length_map, show i + (n - i) - ys.length = 0 by omega, List.drop_zero]
  simp
end
theorem others1_ct (me : Int) (cb : Nat) (x : Int) : Ct Try.prog 62 [.int .i64 x, .pointer (some ⟨cb, 0, none⟩)] [.cells cb [iv me] 3] [] (fun u G Q => u = .bool ((fun x => decide (x = me)) x) ∧ G = [.cells cb [iv me] 3] ∧ Q = []) := by
  refine Ct.intro Try.func62 rfl rfl rfl (fun c hc => ?_)
  refine GC.seq' ?_
  refine GC.region ?_
  refine GL.pure rfl (p_assign rfl) ?_
  refine GL.nil (?_ : GC _ _ _ _)
  refine GC.seq' ?_
  refine GC.region ?_
  refine GL.pure rfl (p_move rfl) ?_
  refine GL.step rfl (t_mem rfl (m_load (i := 0) rfl rfl ag_3 rfl)) ?_
  refine GL.pure rfl (p_eql rfl rfl) ?_
  refine GL.pure rfl (p_assign rfl) ?_
  refine GL.nil (?_ : GC _ _ _ _)
  refine GC.ret ?_
  refine fun a w h => Fin.back (rs := [.tmp 3]) (vs := [_]) (is := [0]) (js := []) rfl ⟨rfl, trivial⟩ rfl rfl ?_ h
  clear h
  exact ⟨rfl, rfl, rfl⟩

theorem idx_oth (me : Int) (cb : Nat) (b : Nat) (xs : List Int) (sp : List Value) (cp : Nat) (hl : xs.length ≤ 140737488355328) : Ct Try.prog 61 [.slice (some ⟨b, 0, none⟩) xs.length cp, .func (.func 62) #[] #[.pointer (some ⟨cb, 0, none⟩)]] [.cells b (xs.map iv ++ sp) 3, .cells cb [iv me] 3] []
    (fun u G Q => ∃ i : Int, ((i = -1 ∧ ∀ j : Nat, j < xs.length → (fun x => decide (x = me)) (gt xs (j : Int)) = false) ∨ (0 ≤ i ∧ i < xs.length ∧ (fun x => decide (x = me)) (gt xs i) = true ∧ ∀ j : Nat, (j : Int) < i → (fun x => decide (x = me)) (gt xs (j : Int)) = false)) ∧ u = .int .i64 i ∧ G = [.cells b (xs.map iv ++ sp) 3, .cells cb [iv me] 3] ∧ Q = []) := by
  refine Ct.intro Try.func61 rfl rfl rfl (fun c hc => ?_)
  refine GC.seq' ?_
  refine GC.region ?_
  refine GL.pure rfl (p_assign rfl) ?_
  refine GL.nil (?_ : GC _ _ _ _)
  refine GC.seq' ?_
  refine GC.seq' ?_
  refine GC.region ?_
  refine GL.pure rfl (p_move rfl) ?_
  refine GL.pure rfl (p_len Try.underlying22 rfl) ?_
  refine GL.pure rfl (p_move rfl) ?_
  refine GL.nil (?_ : GC _ _ _ _)
  refine GC.block ?_
  refine GC.loopK1 (ks := [0, 1, 7]) (is := [0, 1]) (js := []) (fun (k : Nat) => k ≤ xs.length ∧ ∀ j : Nat, j < k → (fun x => decide (x = me)) (gt xs (j : Int)) = false) (fun (k : Nat) => [(8, .int .i64 (k : Int))]) (fun (k : Nat) => []) (fun (k : Nat) => []) (fun (k : Nat) => xs.length - k) (0) rfl rfl rfl (fun a w h => ⟨⟨by omega, fun j hj => by omega⟩, h.cutK (is := [0, 0]) (js := []) (ks := [0, 1, 7]) ⟨rfl, trivial⟩ rfl rfl rfl⟩) ?_
  intro k hk
  try dsimp only [List.cons_append, List.nil_append] at hk ⊢
  obtain ⟨hk, hn⟩ := hk
  refine GC.seq' ?_
  refine GC.region ?_
  refine GL.pure rfl (p_lss rfl rfl) ?_
  refine GL.nil (?_ : GC _ _ _ _)
  refine GC.seq' ?_
  refine GC.cond rfl (fun h1 => ?_) (fun h1 => ?_)
  · try simp only [decide_eq_true_eq, decide_eq_false_iff_not, Bool.not_eq_true', Bool.not_eq_false', Bool.not_true, Bool.not_false, Bool.not_not, ne_eq, Decidable.not_not, Int.not_lt, Int.not_le, gt_iff_lt, ge_iff_le, bool_true_eq_, bool_false_eq_] at h1
    refine GC.skip (?_ : GC _ _ _ _)
    refine GC.seq' ?_
    refine GC.block ?_
    refine GC.seq' ?_
    refine GC.region ?_
    refine GL.pure rfl (p_move rfl) ?_
    refine GL.pure rfl (p_assign rfl) ?_
    refine GL.nil (?_ : GC _ _ _ _)
    refine GC.seq' ?_
    refine GC.region ?_
    refine GL.pure rfl (p_move rfl) ?_
    refine GL.pure rfl (p_move rfl) ?_
    refine GL.pure rfl (p_move rfl) ?_
    refine GL.pure rfl (p_indexB rfl rfl Try.underlying22 sz_3 (by omega) (by omega)) ?_
    refine GL.step rfl (t_mem rfl (m_load (i := 0) rfl rfl ag_3 (nth_mapS _ (by omega) (by omega)))) ?_
    refine GL.step rfl (t_callv rfl fn_62 rfl rfl (is := [1]) (js := []) rfl rfl (by exact others1_ct _ _ _)) (GL.ret ?_)
    rintro _ _ _ ⟨rfl, rfl, rfl⟩
    refine GL.nil (?_ : GC _ _ _ _)
    refine GC.cond rfl (fun h2 => ?_) (fun h2 => ?_)
    · try simp only [decide_eq_true_eq, decide_eq_false_iff_not, Bool.not_eq_true', Bool.not_eq_false', Bool.not_true, Bool.not_false, Bool.not_not, ne_eq, Decidable.not_not, Int.not_lt, Int.not_le, gt_iff_lt, ge_iff_le, bool_true_eq_, bool_false_eq_] at h2
      refine GC.seq' ?_
      refine GC.region ?_
      refine GL.pure rfl (p_move rfl) ?_
      refine GL.pure rfl (p_assign rfl) ?_
      refine GL.nil (?_ : GC _ _ _ _)
      refine GC.ret ?_
      refine fun a w h => Fin.back (rs := [.tmp 4]) (vs := [_]) (is := [1, 0]) (js := []) rfl ⟨rfl, trivial⟩ rfl rfl ?_ h
      clear h
      exact ⟨_, .inr ⟨by omega, by omega, by simpa using h2, fun j hj => hn j (by omega)⟩, rfl, rfl, rfl⟩
    · try simp only [decide_eq_true_eq, decide_eq_false_iff_not, Bool.not_eq_true', Bool.not_eq_false', Bool.not_true, Bool.not_false, Bool.not_not, ne_eq, Decidable.not_not, Int.not_lt, Int.not_le, gt_iff_lt, ge_iff_le, bool_true_eq_, bool_false_eq_] at h2
      refine GC.skip (?_ : GC _ _ _ _)
      refine GC.region ?_
      refine GL.pure rfl (p_add rfl rfl (w64 (by omega) (by omega))) ?_
      refine GL.pure rfl (p_move rfl) ?_
      refine GL.nil ?_
      exact fun a w h => ⟨(k + 1), (by omega), ⟨by omega, fun j hj => (Nat.lt_succ_iff_lt_or_eq.1 hj).elim (hn j) (fun e => by subst e; simpa using h2)⟩, h.cut (is := [1, 0]) (js := []) ⟨rfl, rfl, rfl, rfl, trivial⟩ rfl rfl⟩
  · try simp only [decide_eq_true_eq, decide_eq_false_iff_not, Bool.not_eq_true', Bool.not_eq_false', Bool.not_true, Bool.not_false, Bool.not_not, ne_eq, Decidable.not_not, Int.not_lt, Int.not_le, gt_iff_lt, ge_iff_le, bool_true_eq_, bool_false_eq_] at h1
    refine GC.exit (?_ : GC _ _ _ _)
    refine GC.seq' ?_
    refine GC.region ?_
    refine GL.pure rfl (p_assign rfl) ?_
    refine GL.nil (?_ : GC _ _ _ _)
    refine GC.ret ?_
    refine fun a w h => Fin.back (rs := [.tmp 4]) (vs := [_]) (is := [0, 0]) (js := []) rfl ⟨rfl, trivial⟩ rfl rfl ?_ h
    clear h
    exact ⟨_, .inl ⟨rfl, fun j hj => hn j (by omega)⟩, rfl, rfl, rfl⟩
theorem idx0_oth (me : Int) (cb : Nat) (A : Option Addr) (cp : Nat) : Ct Try.prog 61 [.slice A 0 cp, .func (.func 62) #[] #[.pointer (some ⟨cb, 0, none⟩)]] [.cells cb [iv me] 3] [] (fun u G Q => u = .int .i64 (-1) ∧ G = [.cells cb [iv me] 3] ∧ Q = []) := by
  refine Ct.intro Try.func61 rfl rfl rfl (fun c hc => ?_)
  refine GC.seq' ?_
  refine GC.region ?_
  refine GL.pure rfl (p_assign rfl) ?_
  refine GL.nil (?_ : GC _ _ _ _)
  refine GC.seq' ?_
  refine GC.seq' ?_
  refine GC.region ?_
  refine GL.pure rfl (p_move rfl) ?_
  refine GL.pure rfl (p_len Try.underlying22 rfl) ?_
  refine GL.pure rfl (p_move rfl) ?_
  refine GL.nil (?_ : GC _ _ _ _)
  refine GC.block ?_
  refine GC.loopK1 (ks := [0, 1, 7]) (is := [0]) (js := []) (fun (k : Nat) => k = 0) (fun (k : Nat) => [(8, .int .i64 (k : Int))]) (fun (k : Nat) => []) (fun (k : Nat) => []) (fun (k : Nat) => 0) (0) rfl rfl rfl (fun a w h => ⟨rfl, h.cutK (is := [0]) (js := []) (ks := [0, 1, 7]) ⟨rfl, trivial⟩ rfl rfl rfl⟩) ?_
  intro k hk
  try dsimp only [List.cons_append, List.nil_append] at hk ⊢
  refine GC.seq' ?_
  refine GC.region ?_
  refine GL.pure rfl (p_lss rfl rfl) ?_
  refine GL.nil (?_ : GC _ _ _ _)
  refine GC.seq' ?_
  refine GC.cond rfl (fun h1 => ?_) (fun h1 => ?_)
  · try simp only [decide_eq_true_eq, decide_eq_false_iff_not, Bool.not_eq_true', Bool.not_eq_false', Bool.not_true, Bool.not_false, Bool.not_not, ne_eq, Decidable.not_not, Int.not_lt, Int.not_le, gt_iff_lt, ge_iff_le, bool_true_eq_, bool_false_eq_] at h1
    exact absurd h1 (by omega)
  · try simp only [decide_eq_true_eq, decide_eq_false_iff_not, Bool.not_eq_true', Bool.not_eq_false', Bool.not_true, Bool.not_false, Bool.not_not, ne_eq, Decidable.not_not, Int.not_lt, Int.not_le, gt_iff_lt, ge_iff_le, bool_true_eq_, bool_false_eq_] at h1
    refine GC.exit (?_ : GC _ _ _ _)
    refine GC.seq' ?_
    refine GC.region ?_
    refine GL.pure rfl (p_assign rfl) ?_
    refine GL.nil (?_ : GC _ _ _ _)
    refine GC.ret ?_
    refine fun a w h => Fin.back (rs := [.tmp 4]) (vs := [_]) (is := [0]) (js := []) rfl ⟨rfl, trivial⟩ rfl rfl ?_ h
    clear h
    exact ⟨rfl, rfl, rfl⟩
theorem del_oth (me : Int) (cb : Nat) (A : Option Addr) (n cp : Nat) (xs : List Int) (hn : xs.length = n) (hl : n ≤ 140737488355328) : Ct Try.prog 39 [.slice A n cp, .func (.func 62) #[] #[.pointer (some ⟨cb, 0, none⟩)]] [.row (.slice A n cp) 3 1 n (xs.map iv), .cells cb [iv me] 3] []
    (fun u G Q => ∃ A' cp', (xs.filter fun x => !(fun x => decide (x = me)) x).length ≤ cp' ∧ cp' ≤ 9223372036854775807 ∧ u = .slice A' (xs.filter fun x => !(fun x => decide (x = me)) x).length cp' ∧ G = [.row (.slice A' (xs.filter fun x => !(fun x => decide (x = me)) x).length cp') 3 1 (xs.filter fun x => !(fun x => decide (x = me)) x).length ((xs.filter fun x => !(fun x => decide (x = me)) x).map iv), .cells cb [iv me] 3] ∧ Q = []) := by
  subst hn
  refine Ct.unrow (fun h0 => ?_) (fun b sp hne hA hlen hcp hmax => ?_)
  · have hx : xs = [] := List.eq_nil_of_length_eq_zero h0
    subst hx
    refine Ct.intro Try.func39 rfl rfl rfl (fun c hc => ?_)
    refine GC.seq' ?_
    refine GC.region ?_
    refine GL.pure rfl (p_assign rfl) ?_
    refine GL.nil (?_ : GC _ _ _ _)
    refine GC.seq' ?_
    refine GC.region ?_
    refine GL.pure rfl (p_move rfl) ?_
    refine GL.pure rfl (p_move rfl) ?_
    refine GL.step rfl (t_call rfl fn_61 rfl (is := [1]) (js := []) rfl rfl (by exact idx0_oth me cb _ _)) (GL.ret ?_)
    rintro _ _ _ ⟨rfl, rfl, rfl⟩
    refine GL.pure rfl (p_assign rfl) ?_
    refine GL.nil (?_ : GC _ _ _ _)
    refine GC.seq' ?_
    refine GC.seq' ?_
    refine GC.region ?_
    refine GL.pure rfl (p_move rfl) ?_
    refine GL.pure rfl (p_eql rfl rfl) ?_
    refine GL.nil (?_ : GC _ _ _ _)
    refine GC.cond_true rfl ?_
    refine GC.seq' ?_
    refine GC.region ?_
    refine GL.pure rfl (p_move rfl) ?_
    refine GL.pure rfl (p_assign rfl) ?_
    refine GL.nil (?_ : GC _ _ _ _)
    refine GC.shape (i := 1) rfl (fun A1 c1 e1 l1 l2 => ?_)
    refine GC.ret ?_
    refine fun a w h => Fin.back (rs := [.tmp 4]) (vs := [_]) (is := [1, 0]) (js := []) rfl ⟨rfl, trivial⟩ rfl rfl ?_ h
    clear h
    cases e1
    exact ⟨_, _, by simp, l2, rfl, rfl, rfl⟩
  · subst hA
    have hsl : sp.length = cp - xs.length := by simp at hlen; omega
    refine Ct.intro Try.func39 rfl rfl rfl (fun c hc => ?_)
    refine GC.seq' ?_
    refine GC.region ?_
    refine GL.pure rfl (p_assign rfl) ?_
    refine GL.nil (?_ : GC _ _ _ _)
    refine GC.seq' ?_
    refine GC.region ?_
    refine GL.pure rfl (p_move rfl) ?_
    refine GL.pure rfl (p_move rfl) ?_
    refine GL.step rfl (t_call rfl fn_61 rfl (is := [0, 0]) (js := []) rfl rfl (by exact idx_oth me cb _ xs sp _ hl)) (GL.ret ?_)
    rintro _ _ _ ⟨i10, hi10, rfl, rfl, rfl⟩
    refine GL.pure rfl (p_assign rfl) ?_
    refine GL.nil (?_ : GC _ _ _ _)
    refine GC.seq' ?_
    refine GC.seq' ?_
    refine GC.region ?_
    refine GL.pure rfl (p_move rfl) ?_
    refine GL.pure rfl (p_eql rfl rfl) ?_
    refine GL.nil (?_ : GC _ _ _ _)
    refine GC.cond rfl (fun h1 => ?_) (fun h1 => ?_)
    · try simp only [decide_eq_true_eq, decide_eq_false_iff_not, Bool.not_eq_true', Bool.not_eq_false', Bool.not_true, Bool.not_false, Bool.not_not, ne_eq, Decidable.not_not, Int.not_lt, Int.not_le, gt_iff_lt, ge_iff_le, bool_true_eq_, bool_false_eq_] at h1
      first
      | (exfalso; omega)
      | (skip
         refine GC.seq' ?_
         refine GC.region ?_
         refine GL.pure rfl (p_move rfl) ?_
         refine GL.pure rfl (p_assign rfl) ?_
         refine GL.nil (?_ : GC _ _ _ _)
         have hall : xs.filter (fun x => !(fun x => decide (x = me)) x) = xs := by
           rcases hi10 with ⟨_, g⟩ | ⟨g, _⟩
           · exact del_none g
           · omega
         refine GC.rerow (i := 0) (sz := 1) (xs.map iv) sp rfl rfl (by simp) hlen hcp hmax rfl ?_
         refine GC.ret ?_
         refine fun a w h => Fin.back (rs := [.tmp 4]) (vs := [_]) (is := [0, 0]) (js := []) rfl ⟨rfl, trivial⟩ rfl rfl ?_ h
         clear h
         rw [hall]; exact ⟨_, _, hcp, hmax, rfl, rfl, rfl⟩)
    · try simp only [decide_eq_true_eq, decide_eq_false_iff_not, Bool.not_eq_true', Bool.not_eq_false', Bool.not_true, Bool.not_false, Bool.not_not, ne_eq, Decidable.not_not, Int.not_lt, Int.not_le, gt_iff_lt, ge_iff_le, bool_true_eq_, bool_false_eq_] at h1
      first
      | (exfalso; omega)
      | (skip
         refine GC.skip (?_ : GC _ _ _ _)
         refine GC.seq' ?_
         refine GC.seq' ?_
         refine GC.region ?_
         have hi0 : 0 ≤ i10 ∧ i10 < xs.length ∧ (fun x => decide (x = me)) (gt xs i10) = true ∧ ∀ j : Nat, (j : Int) < i10 → (fun x => decide (x = me)) (gt xs (j : Int)) = false := by rcases hi10 with ⟨g, _⟩ | g <;> first | omega | exact g
         obtain ⟨i0, rfl⟩ := Int.eq_ofNat_of_zero_le hi0.1
         have hil : i0 < xs.length := by omega
         refine GL.pure rfl (p_move rfl) ?_
         refine GL.pure rfl (p_add rfl rfl (w64 (by (first | omega | (rw [hk.2.1]; omega))) (by (first | omega | (rw [hk.2.1]; omega))))) ?_
         refine GL.pure rfl (p_assign rfl) ?_
         refine GL.nil (?_ : GC _ _ _ _)
         refine GC.block ?_
         refine GC.loopK3 (ks := [0, 1]) (is := [1]) (js := []) (fun (i : Nat) (k : Nat) (ys : List Int) => k ≤ xs.length ∧ ys.length = xs.length ∧ i < k ∧ ys.take i = (xs.take k).filter (fun x => !(fun x => decide (x = me)) x) ∧ ys.drop k = xs.drop k) (fun (i : Nat) (k : Nat) (ys : List Int) => [(5, .int .i64 (i : Int)), (6, .int .i64 (k : Int))]) (fun (i : Nat) (k : Nat) (ys : List Int) => [.cells b (ys.map iv ++ sp) 3]) (fun (i : Nat) (k : Nat) (ys : List Int) => []) (fun (i : Nat) (k : Nat) (ys : List Int) => xs.length - k) (i0) (i0 + 1) (xs) rfl rfl rfl (fun a w h => ⟨⟨by omega, rfl, by omega, del_first hil hi0.2.2.1 (fun j hj => hi0.2.2.2 j (by omega)), rfl⟩, h.cutK (is := [0, 0]) (js := []) (ks := [0, 1]) ⟨rfl, rfl, trivial⟩ rfl rfl rfl⟩) ?_
         intro i k ys hk
         try dsimp only [List.cons_append, List.nil_append] at hk ⊢
         refine GC.seq' ?_
         refine GC.seq' ?_
         refine GC.region ?_
         refine GL.pure rfl (p_move rfl) ?_
         refine GL.pure rfl (p_move rfl) ?_
         refine GL.pure rfl (p_len Try.underlying22 rfl) ?_
         refine GL.pure rfl (p_lss rfl rfl) ?_
         refine GL.nil (?_ : GC _ _ _ _)
         refine GC.cond rfl (fun h2 => ?_) (fun h2 => ?_)
         · try simp only [decide_eq_true_eq, decide_eq_false_iff_not, Bool.not_eq_true', Bool.not_eq_false', Bool.not_true, Bool.not_false, Bool.not_not, ne_eq, Decidable.not_not, Int.not_lt, Int.not_le, gt_iff_lt, ge_iff_le, bool_true_eq_, bool_false_eq_] at h2
           first
           | (exfalso; omega)
           | (skip
              refine GC.skip (?_ : GC _ _ _ _)
              refine GC.seq' ?_
              refine GC.block ?_
              refine GC.seq' ?_
              refine GC.region ?_
              refine GL.pure rfl (p_move rfl) ?_
              refine GL.pure rfl (p_move rfl) ?_
              refine GL.pure rfl (p_indexB rfl rfl Try.underlying22 sz_3 (by (first | omega | (rw [hk.2.1]; omega))) (by (first | omega | (rw [hk.2.1]; omega)))) ?_
              refine GL.step rfl (t_mem rfl (m_load (i := 0) rfl rfl ag_3 (nth_mapS _ (by (first | omega | (rw [hk.2.1]; omega))) (by (first | omega | (rw [hk.2.1]; omega)))))) ?_
              refine GL.pure rfl (p_assign rfl) ?_
              refine GL.nil (?_ : GC _ _ _ _)
              refine GC.seq' ?_
              have hgt := del_gt (show k < xs.length by omega) hk.2.1 hk.2.2.2.2
              refine GC.region ?_
              rw [hgt]
              refine GL.pure rfl (p_move rfl) ?_
              refine GL.pure rfl (p_move rfl) ?_
              refine GL.step rfl (t_callv rfl fn_62 rfl rfl (is := [1]) (js := []) rfl rfl (by exact others1_ct _ _ _)) (GL.ret ?_)
              rintro _ _ _ ⟨rfl, rfl, rfl⟩
              refine GL.pure rfl (p_not rfl) ?_
              refine GL.nil (?_ : GC _ _ _ _)
              refine GC.cond rfl (fun h3 => ?_) (fun h3 => ?_)
              · try simp only [decide_eq_true_eq, decide_eq_false_iff_not, Bool.not_eq_true', Bool.not_eq_false', Bool.not_true, Bool.not_false, Bool.not_not, ne_eq, Decidable.not_not, Int.not_lt, Int.not_le, gt_iff_lt, ge_iff_le, bool_true_eq_, bool_false_eq_] at h3
                first
                | (exfalso; omega)
                | (skip
                   refine GC.seq' ?_
                   refine GC.region ?_
                   refine GL.pure rfl (p_move rfl) ?_
                   refine GL.pure rfl (p_move rfl) ?_
                   refine GL.pure rfl (p_move rfl) ?_
                   refine GL.pure rfl (p_indexB rfl rfl Try.underlying22 sz_3 (by (first | omega | (rw [hk.2.1]; omega))) (by (first | omega | (rw [hk.2.1]; omega)))) ?_
                   refine GL.step rfl (t_store (i := 1) rfl rfl rfl rfl sz_3 rfl (upd_mapS _ (by (first | omega | (rw [hk.2.1]; omega))) (by (first | omega | (rw [hk.2.1]; omega)))) rfl) ?_
                   refine GL.nil (?_ : GC _ _ _ _)
                   refine GC.region ?_
                   refine GL.pure rfl (p_move rfl) ?_
                   refine GL.pure rfl (p_add rfl rfl (w64 (by (first | omega | (rw [hk.2.1]; omega))) (by (first | omega | (rw [hk.2.1]; omega))))) ?_
                   refine GL.pure rfl (p_assign rfl) ?_
                   refine GL.nil (?_ : GC _ _ _ _)
                   refine GC.region ?_
                   refine GL.pure rfl (p_move rfl) ?_
                   refine GL.pure rfl (p_add rfl rfl (w64 (by (first | omega | (rw [hk.2.1]; omega))) (by (first | omega | (rw [hk.2.1]; omega))))) ?_
                   refine GL.pure rfl (p_assign rfl) ?_
                   refine GL.nil ?_
                   exact fun a w h => ⟨(i + 1), (k + 1), (_), (by omega), ⟨by omega, by rw [List.length_set]; exact hk.2.1, by omega, del_keep (by omega) (by omega) hk.2.1 hk.2.2.2.1 (by simpa using h3), del_drop hk.2.2.1 hk.2.2.2.2⟩, h.cut (is := [1, 0]) (js := []) ⟨rfl, rfl, rfl, rfl, trivial⟩ rfl rfl⟩)
              · try simp only [decide_eq_true_eq, decide_eq_false_iff_not, Bool.not_eq_true', Bool.not_eq_false', Bool.not_true, Bool.not_false, Bool.not_not, ne_eq, Decidable.not_not, Int.not_lt, Int.not_le, gt_iff_lt, ge_iff_le, bool_true_eq_, bool_false_eq_] at h3
                first
                | (exfalso; omega)
                | (skip
                   refine GC.skip (?_ : GC _ _ _ _)
                   refine GC.region ?_
                   refine GL.pure rfl (p_move rfl) ?_
                   refine GL.pure rfl (p_add rfl rfl (w64 (by (first | omega | (rw [hk.2.1]; omega))) (by (first | omega | (rw [hk.2.1]; omega))))) ?_
                   refine GL.pure rfl (p_assign rfl) ?_
                   refine GL.nil ?_
                   exact fun a w h => ⟨(i), (k + 1), (_), (by omega), ⟨by omega, hk.2.1, by omega, del_skip (by omega) hk.2.2.2.1 (by simpa using h3), drop_next hk.2.2.2.2⟩, h.cut (is := [1, 0]) (js := []) ⟨rfl, rfl, rfl, rfl, trivial⟩ rfl rfl⟩))
         · try simp only [decide_eq_true_eq, decide_eq_false_iff_not, Bool.not_eq_true', Bool.not_eq_false', Bool.not_true, Bool.not_false, Bool.not_not, ne_eq, Decidable.not_not, Int.not_lt, Int.not_le, gt_iff_lt, ge_iff_le, bool_true_eq_, bool_false_eq_] at h2
           first
           | (exfalso; omega)
           | (skip
              refine GC.exit (?_ : GC _ _ _ _)
              refine GC.seq' ?_
              refine GC.region ?_
              obtain rfl : k = xs.length := by omega
              refine GL.pure rfl (p_move rfl) ?_
              refine GL.pure rfl (p_move rfl) ?_
              refine GL.pure rfl (p_cut_l rfl rfl Try.underlying22 sz_3 (by (first | omega | (rw [hk.2.1]; omega))) (by (first | omega | (rw [hk.2.1]; omega))) rfl rfl (slA_blk (by (first | omega | (rw [hk.2.1]; omega))))) ?_
              refine GL.step rfl (t_clearB (i := 0) rfl rfl Try.underlying22 ze_3 rfl (by simp [hk.2.1]; omega) rfl rfl) ?_
              refine GL.nil (?_ : GC _ _ _ _)
              refine GC.seq' ?_
              refine GC.region ?_
              refine GL.pure rfl (p_move rfl) ?_
              refine GL.pure rfl (p_move rfl) ?_
              refine GL.pure rfl (p_cut_h rfl rfl Try.underlying22 sz_3 (by (first | omega | (rw [hk.2.1]; omega))) (by (first | omega | (rw [hk.2.1]; omega))) rfl rfl (slA_blk (by (first | omega | (rw [hk.2.1]; omega))))) ?_
              refine GL.pure rfl (p_assign rfl) ?_
              refine GL.nil (?_ : GC _ _ _ _)
              have hkept : xs.filter (fun x => !(fun x => decide (x = me)) x) = ys.take i := by rw [hk.2.2.2.1, List.take_length]
              have hti : (ys.take i).length = i := by simp; omega
              refine GC.rerow (i := 0) (sz := 1) (m := i) ((ys.take i).map iv) (List.replicate (xs.length - i) (iv 0) ++ sp) rfl (clear_tail (i := i) hk.2.1 (by omega)) (by simp; omega) (by rw [clear_tail (i := i) hk.2.1 (by omega)]; simp; omega) (by omega) hmax rfl ?_
              refine GC.ret ?_
              refine fun a w h => Fin.back (rs := [.tmp 4]) (vs := [_]) (is := [0, 0]) (js := []) rfl ⟨rfl, trivial⟩ rfl rfl ?_ h
              clear h
              rw [hkept, hti]; exact ⟨some ⟨b, 0, none⟩, cp, by omega, hmax, rfl, rfl, rfl⟩))

end Go.Proofs.Ytmjfkjajedhciaa

