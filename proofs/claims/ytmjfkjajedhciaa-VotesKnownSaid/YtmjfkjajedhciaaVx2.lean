/- VOTES: who is behind. -/
import Derived.Test.YtmjfkjajedhciaaVx1
set_option linter.unusedVariables false
set_option linter.unusedSimpArgs false
set_option maxRecDepth 100000
namespace Go.Proofs.Ytmjfkjajedhciaa
open Go Go.Sx Go.Proofs
def hasP (l : List Ack) (num : Int) (x : Int) : Bool := (numF l x).2 && decide (num ≤ (numF l x).1)
theorem beh1_ct (cb : Nat) (D : Option Addr) (l : List Ack) (dcp : Nat) (cb2 : Nat) (num : Int) (x : Int) (hd : l.length ≤ 140737488355328) : Ct Try.prog 41 [.int .i64 x, .pointer (some ⟨cb, 0, none⟩), .pointer (some ⟨cb2, 0, none⟩)] [.cells cb [.slice D l.length dcp] 23, .cells cb2 [.int .i64 num] 3] [Pers.row kAck D l]
    (fun u G Q => u = .bool (hasP l num x) ∧ G = [.cells cb [.slice D l.length dcp] 23, .cells cb2 [.int .i64 num] 3] ∧ Q = []) := by
  refine Ct.intro Try.func41 rfl rfl rfl (fun c hc => ?_)
  refine GC.seq' ?_
  refine GC.region ?_
  refine GL.pure rfl (p_assign rfl) ?_
  refine GL.nil (?_ : GC _ _ _ _)
  refine GC.seq' ?_
  refine GC.region ?_
  refine GL.step rfl (t_mem rfl (m_load (i := 0) rfl rfl ag_23 rfl)) ?_
  refine GL.pure rfl (p_move rfl) ?_
  refine GL.step rfl (t_call rfl fn_7 rfl (is := []) (js := [0]) rfl rfl (by exact num_ct _ l _ _ hd)) (GL.ret ?_)
  rintro _ _ _ ⟨rfl, rfl, rfl⟩
  refine GL.pure rfl (p_move rfl) ?_
  refine GL.pure rfl (p_extract rfl rfl) ?_
  refine GL.pure rfl (p_extract rfl rfl) ?_
  refine GL.pure rfl (p_assign rfl) ?_
  refine GL.pure rfl (p_assign rfl) ?_
  refine GL.nil (?_ : GC _ _ _ _)
  refine GC.seq' ?_
  refine GC.region ?_
  refine GL.pure rfl (p_move rfl) ?_
  refine GL.pure rfl (p_move rfl) ?_
  refine GL.split (i := 14) rfl (fun h1 => ?_) (fun h1 => ?_)
  · try simp only [decide_eq_true_eq, decide_eq_false_iff_not, Bool.not_eq_true', Bool.not_eq_false', Bool.not_true, Bool.not_false, Bool.not_not, ne_eq, Decidable.not_not, Int.not_lt, Int.not_le, gt_iff_lt, ge_iff_le, bool_true_eq_, bool_false_eq_] at h1
    refine GL.pureG (s := 14) rfl rfl rfl (p_move rfl) ?_
    refine GL.stepG rfl (s := 14) rfl rfl (t_mem rfl (m_load (i := 1) rfl rfl ag_3 rfl)) ?_
    refine GL.pureG (s := 14) rfl rfl rfl (p_geq rfl rfl) ?_
    refine GL.pure rfl (p_pick_true rfl rfl) ?_
    refine GL.pure rfl (p_assign rfl) ?_
    refine GL.nil (?_ : GC _ _ _ _)
    refine GC.ret ?_
    refine fun a w h => Fin.back (rs := [.tmp 4]) (vs := [_]) (is := [0, 0]) (js := []) rfl ⟨rfl, trivial⟩ rfl rfl ?_ h
    clear h
    refine ⟨congrArg Value.bool ?_, rfl, rfl⟩
    simp [hasP, *]
  · try simp only [decide_eq_true_eq, decide_eq_false_iff_not, Bool.not_eq_true', Bool.not_eq_false', Bool.not_true, Bool.not_false, Bool.not_not, ne_eq, Decidable.not_not, Int.not_lt, Int.not_le, gt_iff_lt, ge_iff_le, bool_true_eq_, bool_false_eq_] at h1
    refine GL.pass (s := 14) rfl rfl rfl ?_
    refine GL.pass (s := 14) rfl rfl rfl ?_
    refine GL.pass (s := 14) rfl rfl rfl ?_
    refine GL.pure rfl (p_pick_false rfl rfl) ?_
    refine GL.pure rfl (p_assign rfl) ?_
    refine GL.nil (?_ : GC _ _ _ _)
    refine GC.ret ?_
    refine fun a w h => Fin.back (rs := [.tmp 4]) (vs := [_]) (is := [0, 0]) (js := []) rfl ⟨rfl, trivial⟩ rfl rfl ?_ h
    clear h
    refine ⟨congrArg Value.bool ?_, rfl, rfl⟩
    simp [hasP, *]

theorem idx_bh (cb : Nat) (D : Option Addr) (l : List Ack) (dcp : Nat) (cb2 : Nat) (num : Int) (hd : l.length ≤ 140737488355328) (b : Nat) (xs : List Int) (sp : List Value) (cp : Nat) (hl : xs.length ≤ 140737488355328) : Ct Try.prog 61 [.slice (some ⟨b, 0, none⟩) xs.length cp, .func (.func 41) #[] #[.pointer (some ⟨cb, 0, none⟩), .pointer (some ⟨cb2, 0, none⟩)]] [.cells b (xs.map iv ++ sp) 3, .cells cb [.slice D l.length dcp] 23, .cells cb2 [.int .i64 num] 3] [Pers.row kAck D l]
    (fun u G Q => ∃ i : Int, ((i = -1 ∧ ∀ j : Nat, j < xs.length → (fun x => hasP l num x) (gt xs (j : Int)) = false) ∨ (0 ≤ i ∧ i < xs.length ∧ (fun x => hasP l num x) (gt xs i) = true ∧ ∀ j : Nat, (j : Int) < i → (fun x => hasP l num x) (gt xs (j : Int)) = false)) ∧ u = .int .i64 i ∧ G = [.cells b (xs.map iv ++ sp) 3, .cells cb [.slice D l.length dcp] 23, .cells cb2 [.int .i64 num] 3] ∧ Q = []) := by
  refine Ct.intro Try.func61 rfl rfl rfl (fun c hc => ?_)
  refine GC.seq' ?_
  refine GC.region ?_
  refine GL.pure rfl (p_assign rfl) ?_
  refine GL.nil (?_ : GC _ _ _ _)
  refine GC.seq' ?_
  refine GC.seq' ?_
  refine GC.region ?_
  refine GL.pure rfl (p_move rfl) ?_
  refine GL.pure rfl (p_len Try.underlying22 rfl) ?_
  refine GL.pure rfl (p_move rfl) ?_
  refine GL.nil (?_ : GC _ _ _ _)
  refine GC.block ?_
  refine GC.loopK1 (ks := [0, 1, 7]) (is := [0, 1, 2]) (js := [0]) (fun (k : Nat) => k ≤ xs.length ∧ ∀ j : Nat, j < k → (fun x => hasP l num x) (gt xs (j : Int)) = false) (fun (k : Nat) => [(8, .int .i64 (k : Int))]) (fun (k : Nat) => []) (fun (k : Nat) => []) (fun (k : Nat) => xs.length - k) (0) rfl rfl rfl (fun a w h => ⟨⟨by omega, fun j hj => by omega⟩, h.cutK (is := [0, 0, 0]) (js := [0]) (ks := [0, 1, 7]) ⟨rfl, trivial⟩ rfl rfl rfl⟩) ?_
  intro k hk
  try dsimp only [List.cons_append, List.nil_append] at hk ⊢
  obtain ⟨hk, hn⟩ := hk
  refine GC.seq' ?_
  refine GC.region ?_
  refine GL.pure rfl (p_lss rfl rfl) ?_
  refine GL.nil (?_ : GC _ _ _ _)
  refine GC.seq' ?_
  refine GC.cond rfl (fun h1 => ?_) (fun h1 => ?_)
  · try simp only [decide_eq_true_eq, decide_eq_false_iff_not, Bool.not_eq_true', Bool.not_eq_false', Bool.not_true, Bool.not_false, Bool.not_not, ne_eq, Decidable.not_not, Int.not_lt, Int.not_le, gt_iff_lt, ge_iff_le, bool_true_eq_, bool_false_eq_] at h1
    refine GC.skip (?_ : GC _ _ _ _)
    refine GC.seq' ?_
    refine GC.block ?_
    refine GC.seq' ?_
    refine GC.region ?_
    refine GL.pure rfl (p_move rfl) ?_
    refine GL.pure rfl (p_assign rfl) ?_
    refine GL.nil (?_ : GC _ _ _ _)
    refine GC.seq' ?_
    refine GC.region ?_
    refine GL.pure rfl (p_move rfl) ?_
    refine GL.pure rfl (p_move rfl) ?_
    refine GL.pure rfl (p_move rfl) ?_
    refine GL.pure rfl (p_indexB rfl rfl Try.underlying22 sz_3 (by omega) (by omega)) ?_
    refine GL.step rfl (t_mem rfl (m_load (i := 0) rfl rfl ag_3 (nth_mapS _ (by omega) (by omega)))) ?_
    refine GL.step rfl (t_callv rfl fn_41 rfl rfl (is := [1, 1]) (js := [0]) rfl rfl (by exact beh1_ct _ _ l _ _ _ _ hd)) (GL.ret ?_)
    rintro _ _ _ ⟨rfl, rfl, rfl⟩
    refine GL.nil (?_ : GC _ _ _ _)
    refine GC.cond rfl (fun h2 => ?_) (fun h2 => ?_)
    · try simp only [decide_eq_true_eq, decide_eq_false_iff_not, Bool.not_eq_true', Bool.not_eq_false', Bool.not_true, Bool.not_false, Bool.not_not, ne_eq, Decidable.not_not, Int.not_lt, Int.not_le, gt_iff_lt, ge_iff_le, bool_true_eq_, bool_false_eq_] at h2
      refine GC.seq' ?_
      refine GC.region ?_
      refine GL.pure rfl (p_move rfl) ?_
      refine GL.pure rfl (p_assign rfl) ?_
      refine GL.nil (?_ : GC _ _ _ _)
      refine GC.ret ?_
      refine fun a w h => Fin.back (rs := [.tmp 4]) (vs := [_]) (is := [2, 0, 0]) (js := []) rfl ⟨rfl, trivial⟩ rfl rfl ?_ h
      clear h
      exact ⟨_, .inr ⟨by omega, by omega, by simpa using h2, fun j hj => hn j (by omega)⟩, rfl, rfl, rfl⟩
    · try simp only [decide_eq_true_eq, decide_eq_false_iff_not, Bool.not_eq_true', Bool.not_eq_false', Bool.not_true, Bool.not_false, Bool.not_not, ne_eq, Decidable.not_not, Int.not_lt, Int.not_le, gt_iff_lt, ge_iff_le, bool_true_eq_, bool_false_eq_] at h2
      refine GC.skip (?_ : GC _ _ _ _)
      refine GC.region ?_
      refine GL.pure rfl (p_add rfl rfl (w64 (by omega) (by omega))) ?_
      refine GL.pure rfl (p_move rfl) ?_
      refine GL.nil ?_
      exact fun a w h => ⟨(k + 1), (by omega), ⟨by omega, fun j hj => (Nat.lt_succ_iff_lt_or_eq.1 hj).elim (hn j) (fun e => by subst e; simpa using h2)⟩, h.cut (is := [2, 0, 0]) (js := [0]) ⟨rfl, rfl, rfl, rfl, trivial⟩ rfl rfl⟩
  · try simp only [decide_eq_true_eq, decide_eq_false_iff_not, Bool.not_eq_true', Bool.not_eq_false', Bool.not_true, Bool.not_false, Bool.not_not, ne_eq, Decidable.not_not, Int.not_lt, Int.not_le, gt_iff_lt, ge_iff_le, bool_true_eq_, bool_false_eq_] at h1
    refine GC.exit (?_ : GC _ _ _ _)
    refine GC.seq' ?_
    refine GC.region ?_
    refine GL.pure rfl (p_assign rfl) ?_
    refine GL.nil (?_ : GC _ _ _ _)
    refine GC.ret ?_
    refine fun a w h => Fin.back (rs := [.tmp 4]) (vs := [_]) (is := [0, 0, 0]) (js := []) rfl ⟨rfl, trivial⟩ rfl rfl ?_ h
    clear h
    exact ⟨_, .inl ⟨rfl, fun j hj => hn j (by omega)⟩, rfl, rfl, rfl⟩
theorem idx0_bh (cb : Nat) (D : Option Addr) (l : List Ack) (dcp : Nat) (cb2 : Nat) (num : Int) (hd : l.length ≤ 140737488355328) (A : Option Addr) (cp : Nat) : Ct Try.prog 61 [.slice A 0 cp, .func (.func 41) #[] #[.pointer (some ⟨cb, 0, none⟩), .pointer (some ⟨cb2, 0, none⟩)]] [.cells cb [.slice D l.length dcp] 23, .cells cb2 [.int .i64 num] 3] [Pers.row kAck D l] (fun u G Q => u = .int .i64 (-1) ∧ G = [.cells cb [.slice D l.length dcp] 23, .cells cb2 [.int .i64 num] 3] ∧ Q = []) := by
  refine Ct.intro Try.func61 rfl rfl rfl (fun c hc => ?_)
  refine GC.seq' ?_
  refine GC.region ?_
  refine GL.pure rfl (p_assign rfl) ?_
  refine GL.nil (?_ : GC _ _ _ _)
  refine GC.seq' ?_
  refine GC.seq' ?_
  refine GC.region ?_
  refine GL.pure rfl (p_move rfl) ?_
  refine GL.pure rfl (p_len Try.underlying22 rfl) ?_
  refine GL.pure rfl (p_move rfl) ?_
  refine GL.nil (?_ : GC _ _ _ _)
  refine GC.block ?_
  refine GC.loopK1 (ks := [0, 1, 7]) (is := [0, 1]) (js := [0]) (fun (k : Nat) => k = 0) (fun (k : Nat) => [(8, .int .i64 (k : Int))]) (fun (k : Nat) => []) (fun (k : Nat) => []) (fun (k : Nat) => 0) (0) rfl rfl rfl (fun a w h => ⟨rfl, h.cutK (is := [0, 0]) (js := [0]) (ks := [0, 1, 7]) ⟨rfl, trivial⟩ rfl rfl rfl⟩) ?_
  intro k hk
  try dsimp only [List.cons_append, List.nil_append] at hk ⊢
  refine GC.seq' ?_
  refine GC.region ?_
  refine GL.pure rfl (p_lss rfl rfl) ?_
  refine GL.nil (?_ : GC _ _ _ _)
  refine GC.seq' ?_
  refine GC.cond rfl (fun h1 => ?_) (fun h1 => ?_)
  · try simp only [decide_eq_true_eq, decide_eq_false_iff_not, Bool.not_eq_true', Bool.not_eq_false', Bool.not_true, Bool.not_false, Bool.not_not, ne_eq, Decidable.not_not, Int.not_lt, Int.not_le, gt_iff_lt, ge_iff_le, bool_true_eq_, bool_false_eq_] at h1
    exact absurd h1 (by omega)
  · try simp only [decide_eq_true_eq, decide_eq_false_iff_not, Bool.not_eq_true', Bool.not_eq_false', Bool.not_true, Bool.not_false, Bool.not_not, ne_eq, Decidable.not_not, Int.not_lt, Int.not_le, gt_iff_lt, ge_iff_le, bool_true_eq_, bool_false_eq_] at h1
    refine GC.exit (?_ : GC _ _ _ _)
    refine GC.seq' ?_
    refine GC.region ?_
    refine GL.pure rfl (p_assign rfl) ?_
    refine GL.nil (?_ : GC _ _ _ _)
    refine GC.ret ?_
    refine fun a w h => Fin.back (rs := [.tmp 4]) (vs := [_]) (is := [0, 0]) (js := []) rfl ⟨rfl, trivial⟩ rfl rfl ?_ h
    clear h
    exact ⟨rfl, rfl, rfl⟩
theorem del_bh (cb : Nat) (D : Option Addr) (l : List Ack) (dcp : Nat) (cb2 : Nat) (num : Int) (hd : l.length ≤ 140737488355328) (A : Option Addr) (n cp : Nat) (xs : List Int) (hn : xs.length = n) (hl : n ≤ 140737488355328) : Ct Try.prog 39 [.slice A n cp, .func (.func 41) #[] #[.pointer (some ⟨cb, 0, none⟩), .pointer (some ⟨cb2, 0, none⟩)]] [.row (.slice A n cp) 3 1 n (xs.map iv), .cells cb [.slice D l.length dcp] 23, .cells cb2 [.int .i64 num] 3] [Pers.row kAck D l]
    (fun u G Q => ∃ A' cp', (xs.filter fun x => !(fun x => hasP l num x) x).length ≤ cp' ∧ cp' ≤ 9223372036854775807 ∧ u = .slice A' (xs.filter fun x => !(fun x => hasP l num x) x).length cp' ∧ G = [.row (.slice A' (xs.filter fun x => !(fun x => hasP l num x) x).length cp') 3 1 (xs.filter fun x => !(fun x => hasP l num x) x).length ((xs.filter fun x => !(fun x => hasP l num x) x).map iv), .cells cb [.slice D l.length dcp] 23, .cells cb2 [.int .i64 num] 3] ∧ Q = []) := by
  subst hn
  refine Ct.unrow (fun h0 => ?_) (fun b sp hne hA hlen hcp hmax => ?_)
  · have hx : xs = [] := List.eq_nil_of_length_eq_zero h0
    subst hx
    refine Ct.intro Try.func39 rfl rfl rfl (fun c hc => ?_)
    refine GC.seq' ?_
    refine GC.region ?_
    refine GL.pure rfl (p_assign rfl) ?_
    refine GL.nil (?_ : GC _ _ _ _)
    refine GC.seq' ?_
    refine GC.region ?_
    refine GL.pure rfl (p_move rfl) ?_
    refine GL.pure rfl (p_move rfl) ?_
    refine GL.step rfl (t_call rfl fn_61 rfl (is := [1, 1]) (js := [0]) rfl rfl (by exact idx0_bh cb D l dcp cb2 num hd _ _)) (GL.ret ?_)
    rintro _ _ _ ⟨rfl, rfl, rfl⟩
    refine GL.pure rfl (p_assign rfl) ?_
    refine GL.nil (?_ : GC _ _ _ _)
    refine GC.seq' ?_
    refine GC.seq' ?_
    refine GC.region ?_
    refine GL.pure rfl (p_move rfl) ?_
    refine GL.pure rfl (p_eql rfl rfl) ?_
    refine GL.nil (?_ : GC _ _ _ _)
    refine GC.cond_true rfl ?_
    refine GC.seq' ?_
    refine GC.region ?_
    refine GL.pure rfl (p_move rfl) ?_
    refine GL.pure rfl (p_assign rfl) ?_
    refine GL.nil (?_ : GC _ _ _ _)
    refine GC.shape (i := 2) rfl (fun A1 c1 e1 l1 l2 => ?_)
    refine GC.ret ?_
    refine fun a w h => Fin.back (rs := [.tmp 4]) (vs := [_]) (is := [2, 0, 0]) (js := []) rfl ⟨rfl, trivial⟩ rfl rfl ?_ h
    clear h
    cases e1
    exact ⟨_, _, by simp, l2, rfl, rfl, rfl⟩
  · subst hA
    have hsl : sp.length = cp - xs.length := by simp at hlen; omega
    refine Ct.intro Try.func39 rfl rfl rfl (fun c hc => ?_)
    refine GC.seq' ?_
    refine GC.region ?_
    refine GL.pure rfl (p_assign rfl) ?_
    refine GL.nil (?_ : GC _ _ _ _)
    refine GC.seq' ?_
    refine GC.region ?_
    refine GL.pure rfl (p_move rfl) ?_
    refine GL.pure rfl (p_move rfl) ?_
    refine GL.step rfl (t_call rfl fn_61 rfl (is := [0, 0, 0]) (js := [0]) rfl rfl (by exact idx_bh cb D l dcp cb2 num hd _ xs sp _ hl)) (GL.ret ?_)
    rintro _ _ _ ⟨i10, hi10, rfl, rfl, rfl⟩
    refine GL.pure rfl (p_assign rfl) ?_
    refine GL.nil (?_ : GC _ _ _ _)
    refine GC.seq' ?_
    refine GC.seq' ?_
    refine GC.region ?_
    refine GL.pure rfl (p_move rfl) ?_
    refine GL.pure rfl (p_eql rfl rfl) ?_
    refine GL.nil (?_ : GC _ _ _ _)
    refine GC.cond rfl (fun h1 => ?_) (fun h1 => ?_)
    · try simp only [decide_eq_true_eq, decide_eq_false_iff_not, Bool.not_eq_true', Bool.not_eq_false', Bool.not_true, Bool.not_false, Bool.not_not, ne_eq, Decidable.not_not, Int.not_lt, Int.not_le, gt_iff_lt, ge_iff_le, bool_true_eq_, bool_false_eq_] at h1
      first
      | (exfalso; omega)
      | (skip
         refine GC.seq' ?_
         refine GC.region ?_
         refine GL.pure rfl (p_move rfl) ?_
         refine GL.pure rfl (p_assign rfl) ?_
         refine GL.nil (?_ : GC _ _ _ _)
         have hall : xs.filter (fun x => !(fun x => hasP l num x) x) = xs := by
           rcases hi10 with ⟨_, g⟩ | ⟨g, _⟩
           · exact del_none g
           · omega
         refine GC.rerow (i := 0) (sz := 1) (xs.map iv) sp rfl rfl (by simp) hlen hcp hmax rfl ?_
         refine GC.ret ?_
         refine fun a w h => Fin.back (rs := [.tmp 4]) (vs := [_]) (is := [0, 0, 0]) (js := []) rfl ⟨rfl, trivial⟩ rfl rfl ?_ h
         clear h
         rw [hall]; exact ⟨_, _, hcp, hmax, rfl, rfl, rfl⟩)
    · try simp only [decide_eq_true_eq, decide_eq_false_iff_not, Bool.not_eq_true', Bool.not_eq_false', Bool.not_true, Bool.not_false, Bool.not_not, ne_eq, Decidable.not_not, Int.not_lt, Int.not_le, gt_iff_lt, ge_iff_le, bool_true_eq_, bool_false_eq_] at h1
      first
      | (exfalso; omega)
      | (skip
         refine GC.skip (?_ : GC _ _ _ _)
         refine GC.seq' ?_
         refine GC.seq' ?_
         refine GC.region ?_
         have hi0 : 0 ≤ i10 ∧ i10 < xs.length ∧ (fun x => hasP l num x) (gt xs i10) = true ∧ ∀ j : Nat, (j : Int) < i10 → (fun x => hasP l num x) (gt xs (j : Int)) = false := by rcases hi10 with ⟨g, _⟩ | g <;> first | omega | exact g
         obtain ⟨i0, rfl⟩ := Int.eq_ofNat_of_zero_le hi0.1
         have hil : i0 < xs.length := by omega
         refine GL.pure rfl (p_move rfl) ?_
         refine GL.pure rfl (p_add rfl rfl (w64 (by (first | omega | (rw [hk.2.1]; omega))) (by (first | omega | (rw [hk.2.1]; omega))))) ?_
         refine GL.pure rfl (p_assign rfl) ?_
         refine GL.nil (?_ : GC _ _ _ _)
         refine GC.block ?_
         refine GC.loopK3 (ks := [0, 1]) (is := [1, 2]) (js := [0]) (fun (i : Nat) (k : Nat) (ys : List Int) => k ≤ xs.length ∧ ys.length = xs.length ∧ i < k ∧ ys.take i = (xs.take k).filter (fun x => !(fun x => hasP l num x) x) ∧ ys.drop k = xs.drop k) (fun (i : Nat) (k : Nat) (ys : List Int) => [(5, .int .i64 (i : Int)), (6, .int .i64 (k : Int))]) (fun (i : Nat) (k : Nat) (ys : List Int) => [.cells b (ys.map iv ++ sp) 3]) (fun (i : Nat) (k : Nat) (ys : List Int) => []) (fun (i : Nat) (k : Nat) (ys : List Int) => xs.length - k) (i0) (i0 + 1) (xs) rfl rfl rfl (fun a w h => ⟨⟨by omega, rfl, by omega, del_first hil hi0.2.2.1 (fun j hj => hi0.2.2.2 j (by omega)), rfl⟩, h.cutK (is := [0, 0, 0]) (js := [0]) (ks := [0, 1]) ⟨rfl, rfl, trivial⟩ rfl rfl rfl⟩) ?_
         intro i k ys hk
         try dsimp only [List.cons_append, List.nil_append] at hk ⊢
         refine GC.seq' ?_
         refine GC.seq' ?_
         refine GC.region ?_
         refine GL.pure rfl (p_move rfl) ?_
         refine GL.pure rfl (p_move rfl) ?_
         refine GL.pure rfl (p_len Try.underlying22 rfl) ?_
         refine GL.pure rfl (p_lss rfl rfl) ?_
         refine GL.nil (?_ : GC _ _ _ _)
         refine GC.cond rfl (fun h2 => ?_) (fun h2 => ?_)
         · try simp only [decide_eq_true_eq, decide_eq_false_iff_not, Bool.not_eq_true', Bool.not_eq_false', Bool.not_true, Bool.not_false, Bool.not_not, ne_eq, Decidable.not_not, Int.not_lt, Int.not_le, gt_iff_lt, ge_iff_le, bool_true_eq_, bool_false_eq_] at h2
           first
           | (exfalso; omega)
           | (skip
              refine GC.skip (?_ : GC _ _ _ _)
              refine GC.seq' ?_
              refine GC.block ?_
              refine GC.seq' ?_
              refine GC.region ?_
              refine GL.pure rfl (p_move rfl) ?_
              refine GL.pure rfl (p_move rfl) ?_
              refine GL.pure rfl (p_indexB rfl rfl Try.underlying22 sz_3 (by (first | omega | (rw [hk.2.1]; omega))) (by (first | omega | (rw [hk.2.1]; omega)))) ?_
              refine GL.step rfl (t_mem rfl (m_load (i := 0) rfl rfl ag_3 (nth_mapS _ (by (first | omega | (rw [hk.2.1]; omega))) (by (first | omega | (rw [hk.2.1]; omega)))))) ?_
              refine GL.pure rfl (p_assign rfl) ?_
              refine GL.nil (?_ : GC _ _ _ _)
              refine GC.seq' ?_
              have hgt := del_gt (show k < xs.length by omega) hk.2.1 hk.2.2.2.2
              refine GC.region ?_
              rw [hgt]
              refine GL.pure rfl (p_move rfl) ?_
              refine GL.pure rfl (p_move rfl) ?_
              refine GL.step rfl (t_callv rfl fn_41 rfl rfl (is := [1, 1]) (js := [0]) rfl rfl (by exact beh1_ct _ _ l _ _ _ _ hd)) (GL.ret ?_)
              rintro _ _ _ ⟨rfl, rfl, rfl⟩
              refine GL.pure rfl (p_not rfl) ?_
              refine GL.nil (?_ : GC _ _ _ _)
              refine GC.cond rfl (fun h3 => ?_) (fun h3 => ?_)
              · try simp only [decide_eq_true_eq, decide_eq_false_iff_not, Bool.not_eq_true', Bool.not_eq_false', Bool.not_true, Bool.not_false, Bool.not_not, ne_eq, Decidable.not_not, Int.not_lt, Int.not_le, gt_iff_lt, ge_iff_le, bool_true_eq_, bool_false_eq_] at h3
                first
                | (exfalso; omega)
                | (skip
                   refine GC.seq' ?_
                   refine GC.region ?_
                   refine GL.pure rfl (p_move rfl) ?_
                   refine GL.pure rfl (p_move rfl) ?_
                   refine GL.pure rfl (p_move rfl) ?_
                   refine GL.pure rfl (p_indexB rfl rfl Try.underlying22 sz_3 (by (first | omega | (rw [hk.2.1]; omega))) (by (first | omega | (rw [hk.2.1]; omega)))) ?_
                   refine GL.step rfl (t_store (i := 2) rfl rfl rfl rfl sz_3 rfl (upd_mapS _ (by (first | omega | (rw [hk.2.1]; omega))) (by (first | omega | (rw [hk.2.1]; omega)))) rfl) ?_
                   refine GL.nil (?_ : GC _ _ _ _)
                   refine GC.region ?_
                   refine GL.pure rfl (p_move rfl) ?_
                   refine GL.pure rfl (p_add rfl rfl (w64 (by (first | omega | (rw [hk.2.1]; omega))) (by (first | omega | (rw [hk.2.1]; omega))))) ?_
                   refine GL.pure rfl (p_assign rfl) ?_
                   refine GL.nil (?_ : GC _ _ _ _)
                   refine GC.region ?_
                   refine GL.pure rfl (p_move rfl) ?_
                   refine GL.pure rfl (p_add rfl rfl (w64 (by (first | omega | (rw [hk.2.1]; omega))) (by (first | omega | (rw [hk.2.1]; omega))))) ?_
                   refine GL.pure rfl (p_assign rfl) ?_
                   refine GL.nil ?_
                   exact fun a w h => ⟨(i + 1), (k + 1), (_), (by omega), ⟨by omega, by rw [List.length_set]; exact hk.2.1, by omega, del_keep (by omega) (by omega) hk.2.1 hk.2.2.2.1 (by simpa using h3), del_drop hk.2.2.1 hk.2.2.2.2⟩, h.cut (is := [2, 0, 0]) (js := [0]) ⟨rfl, rfl, rfl, rfl, trivial⟩ rfl rfl⟩)
              · try simp only [decide_eq_true_eq, decide_eq_false_iff_not, Bool.not_eq_true', Bool.not_eq_false', Bool.not_true, Bool.not_false, Bool.not_not, ne_eq, Decidable.not_not, Int.not_lt, Int.not_le, gt_iff_lt, ge_iff_le, bool_true_eq_, bool_false_eq_] at h3
                first
                | (exfalso; omega)
                | (skip
                   refine GC.skip (?_ : GC _ _ _ _)
                   refine GC.region ?_
                   refine GL.pure rfl (p_move rfl) ?_
                   refine GL.pure rfl (p_add rfl rfl (w64 (by (first | omega | (rw [hk.2.1]; omega))) (by (first | omega | (rw [hk.2.1]; omega))))) ?_
                   refine GL.pure rfl (p_assign rfl) ?_
                   refine GL.nil ?_
                   exact fun a w h => ⟨(i), (k + 1), (_), (by omega), ⟨by omega, hk.2.1, by omega, del_skip (by omega) hk.2.2.2.1 (by simpa using h3), drop_next hk.2.2.2.2⟩, h.cut (is := [2, 0, 0]) (js := [0]) ⟨rfl, rfl, rfl, rfl, trivial⟩ rfl rfl⟩))
         · try simp only [decide_eq_true_eq, decide_eq_false_iff_not, Bool.not_eq_true', Bool.not_eq_false', Bool.not_true, Bool.not_false, Bool.not_not, ne_eq, Decidable.not_not, Int.not_lt, Int.not_le, gt_iff_lt, ge_iff_le, bool_true_eq_, bool_false_eq_] at h2
           first
           | (exfalso; omega)
           | (skip
              refine GC.exit (?_ : GC _ _ _ _)
              refine GC.seq' ?_
              refine GC.region ?_
              obtain rfl : k = xs.length := by omega
              refine GL.pure rfl (p_move rfl) ?_
              refine GL.pure rfl (p_move rfl) ?_
              refine GL.pure rfl (p_cut_l rfl rfl Try.underlying22 sz_3 (by (first | omega | (rw [hk.2.1]; omega))) (by (first | omega | (rw [hk.2.1]; omega))) rfl rfl (slA_blk (by (first | omega | (rw [hk.2.1]; omega))))) ?_
              refine GL.step rfl (t_clearB (i := 0) rfl rfl Try.underlying22 ze_3 rfl (by simp [hk.2.1]; omega) rfl rfl) ?_
              refine GL.nil (?_ : GC _ _ _ _)
              refine GC.seq' ?_
              refine GC.region ?_
              refine GL.pure rfl (p_move rfl) ?_
              refine GL.pure rfl (p_move rfl) ?_
              refine GL.pure rfl (p_cut_h rfl rfl Try.underlying22 sz_3 (by (first | omega | (rw [hk.2.1]; omega))) (by (first | omega | (rw [hk.2.1]; omega))) rfl rfl (slA_blk (by (first | omega | (rw [hk.2.1]; omega))))) ?_
              refine GL.pure rfl (p_assign rfl) ?_
              refine GL.nil (?_ : GC _ _ _ _)
              have hkept : xs.filter (fun x => !(fun x => hasP l num x) x) = ys.take i := by rw [hk.2.2.2.1, List.take_length]
              have hti : (ys.take i).length = i := by simp; omega
              refine GC.rerow (i := 0) (sz := 1) (m := i) ((ys.take i).map iv) (List.replicate (xs.length - i) (iv 0) ++ sp) rfl (clear_tail (i := i) hk.2.1 (by omega)) (by simp; omega) (by rw [clear_tail (i := i) hk.2.1 (by omega)]; simp; omega) (by omega) hmax rfl ?_
              refine GC.ret ?_
              refine fun a w h => Fin.back (rs := [.tmp 4]) (vs := [_]) (is := [0, 0, 0]) (js := []) rfl ⟨rfl, trivial⟩ rfl rfl ?_ h
              clear h
              rw [hkept, hti]; exact ⟨some ⟨b, 0, none⟩, cp, by omega, hmax, rfl, rfl, rfl⟩))

theorem behind_ct (e : Int) (A : Option Addr) (ms : List Int) (cp : Nat) (me num : Int) (B : Option Addr) (l : List Ack) (cq : Nat) (hm : ms.length ≤ 1000000) (hl : l.length ≤ 1000000) : Ct Try.prog 31 [grpV e A ms.length cp, .int .i64 me, .int .i64 num, .slice B l.length cq] [] [Pers.row kI A ms, Pers.row kAck B l]
    (fun u G Q => ∃ R cs, u = .slice R ((ms.filter fun x => !decide (x = me)).filter fun x => !hasP l num x).length cs ∧ G = [.row (.slice R ((ms.filter fun x => !decide (x = me)).filter fun x => !hasP l num x).length cs) 3 1 ((ms.filter fun x => !decide (x = me)).filter fun x => !hasP l num x).length (((ms.filter fun x => !decide (x = me)).filter fun x => !hasP l num x).map iv)] ∧ Q = []) := by
  have q3 := List.length_filter_le (fun x => !decide (x = me)) ms
  have hd : l.length ≤ 140737488355328 := by omega
  refine Ct.intro Try.func31 rfl rfl rfl (fun c hc => ?_)
  refine GC.seq' ?_
  refine GC.region ?_
  refine GL.step rfl (t_box rfl rfl rfl) (GL.ex fun b_t4 => ?_)
  refine GL.step rfl (t_box rfl rfl rfl) (GL.ex fun b_t6 => ?_)
  refine GL.step rfl (t_box rfl rfl rfl) (GL.ex fun b_t7 => ?_)
  refine GL.pure rfl (p_assign rfl) ?_
  refine GL.nil (?_ : GC _ _ _ _)
  refine GC.seq' ?_
  refine GC.region ?_
  refine GL.step rfl (t_mem rfl (m_loadN (i := 2) rfl rfl ag_34 (vs := [_, _]) sz_34 ⟨rfl, rfl, trivial⟩)) ?_
  refine GL.pure rfl (p_move rfl) ?_
  refine GL.step rfl (t_call rfl fn_40 rfl (is := []) (js := [0]) rfl rfl (by exact others_ct _ _ ms _ _ hm)) (GL.ret ?_)
  rintro _ _ _ ⟨A11, cp11, l11, k11, rfl, rfl, rfl⟩
  refine GL.pure rfl (p_makeFunc rfl rfl) ?_
  refine GL.step rfl (t_call rfl fn_39 rfl (is := [0, 0, 0]) (js := [1]) rfl rfl (by exact del_bh _ _ l _ _ _ hd _ _ _ (ms.filter fun x => !decide (x = me)) rfl (by omega))) (GL.ret ?_)
  rintro _ _ _ ⟨A13, cp13, l13, k13, rfl, rfl, rfl⟩
  refine GL.pure rfl (p_assign rfl) ?_
  refine GL.nil (?_ : GC _ _ _ _)
  refine GC.ret ?_
  refine fun a w h => Fin.back (rs := [.tmp 8]) (vs := [_]) (is := [0]) (js := []) rfl ⟨rfl, trivial⟩ rfl rfl ?_ h
  clear h
  exact ⟨_, _, rfl, rfl, rfl⟩
end Go.Proofs.Ytmjfkjajedhciaa
