/- VOTES: acknowledgements with one more, the document's way. -/
import Derived.Test.YtmjfkjajedhciaaVa3
set_option linter.unusedVariables false
set_option linter.unusedSimpArgs false
set_option maxRecDepth 100000
namespace Go.Proofs.Ytmjfkjajedhciaa
open Go Go.Sx Go.Proofs
def nodesF (l : List Ack) : List Int := l.foldl (fun ns a => addF ns a.node) []
theorem nodesF_snoc (l : List Ack) (a : Ack) : nodesF (l ++ [a]) = addF (nodesF l) a.node := by simp [nodesF, List.foldl_append]
theorem nodesF_take {l : List Ack} {k : Nat} (h : k < l.length) : nodesF (l.take (k + 1)) = addF (nodesF (l.take k)) (gt l (k : Int)).node := by rw [take_gtI h, nodesF_snoc]
theorem nodesF_up (l : List Ack) : ∀ k, k ≤ l.length → (nodesF (l.take k)).length ≤ k ∧ (nodesF (l.take k)).Pairwise (· < ·) ∧ ∀ y, y ∈ nodesF (l.take k) ↔ ∃ a ∈ l.take k, a.node = y
  | 0, _ => by simp [nodesF]
  | k + 1, h => by
    have ih := nodesF_up l k (by omega)
    rw [nodesF_take (by omega)]
    refine ⟨?_, addF_inc _ _, fun y => ?_⟩
    · have := addF_len (nodesF (l.take k)) (gt l (k : Int)).node; omega
    · rw [addF_mem, ih.2.2 y, take_gtI (by omega)]; simp only [List.mem_append, List.mem_singleton]; grind
theorem nodesF_all (l : List Ack) : (nodesF l).length ≤ l.length ∧ (nodesF l).Pairwise (· < ·) ∧ ∀ y, y ∈ nodesF l ↔ ∃ a ∈ l, a.node = y := by
  have := nodesF_up l l.length (Nat.le_refl _)
  rwa [List.take_length] at this
theorem nodesF_len (l : List Ack) (k : Nat) : (nodesF (l.take k)).length ≤ k := by
  have := (nodesF_all (l.take k)).1; simp at this; omega
def ofN (al : List Ack) (n : Int) : Ack := ⟨n, (numF al n).1⟩
abbrev alA (l : List Ack) (node num : Int) : List Ack := l ++ [⟨node, num⟩]
def ackF (l : List Ack) (node num : Int) : List Ack := (nodesF (alA l node num)).map (ofN (alA l node num))
theorem ackF_len (l : List Ack) (node num : Int) : (ackF l node num).length ≤ l.length + 1 := by
  have := (nodesF_all (alA l node num)).1; simp at this; simp [ackF]; omega
theorem map_take {α β : Type} [Inhabited α] {f : α → β} {l : List α} {k : Nat} (h : k < l.length) : (l.take (k + 1)).map f = (l.take k).map f ++ [f (gt l (k : Int))] := by rw [take_gtI h]; simp
theorem rack_ct (A : Option Addr) (l : List Ack) (cp : Nat) (node num : Int) (hl : l.length ≤ 100000) : Ct Try.prog 14 [.slice A l.length cp, .int .i64 node, .int .i64 num] [] [Pers.row kAck A l]
    (fun u G Q => ∃ R cs, u = .slice R (ackF l node num).length cs ∧ G = [] ∧ Q = [Pers.row kAck R (ackF l node num)]) := by
  have hal : (alA l node num).length = l.length + 1 := by simp
  have hns := (nodesF_all (alA l node num)).1
  refine Ct.intro Try.func14 rfl rfl rfl (fun c hc => ?_)
  refine GC.know (q := Pers.row kI none []) (fun _ _ _ => .inl rfl) ?_
  refine GC.seq' ?_
  refine GC.region ?_
  refine GL.pure rfl (p_assign rfl) ?_
  refine GL.nil (?_ : GC _ _ _ _)
  refine GC.seq' ?_
  refine GC.region ?_
  refine GL.step rfl (t_buildSlice rfl Try.underlying23 sz_44 ze_44 rfl rfl rfl rfl rfl rfl) (GL.ex fun b_t14 => ?_)
  refine GL.pure rfl (p_move rfl) ?_
  refine GL.torow (i := 0) (m := 0) (sz := 2) rfl rfl (by decide) rfl ?_
  refine GL.step rfl (t_appendR (i := 0) (k := 1) rfl el_23 rfl rfl rfl rfl (by first | omega | (simp; omega)) (fun _ _ => rfl)) (GL.ex fun v16 => GL.ex fun nw_16 => ?_)
  refine GL.pure rfl (p_move rfl) ?_
  refine GL.pure rfl (p_move rfl) ?_
  refine GL.pure rfl (p_build ze_44 of_44 rfl rfl) ?_
  refine GL.step rfl (t_buildSlice rfl Try.underlying23 sz_44 ze_44 rfl rfl rfl rfl rfl rfl) (GL.ex fun b_t20 => ?_)
  refine GL.step rfl (t_append (i := 1) (k := 0) rfl el_23 rfl rfl rfl rfl rfl (allOne_mem rfl) (by first | omega | (simp; omega)) (fun _ => rfl)) (GL.ex fun v21 => ?_)
  refine GL.snoc (j := 0) (js := []) (⟨node, num⟩ : Ack) ((), ()) rfl rfl ⟨trivial, trivial⟩ ?_
  refine GL.rowIs (i := 1) (m' := (alA l node num).length) rfl (by first | rfl | (simp; done) | (simp; omega)) rfl rfl ?_
  refine GL.shape (i := 1) rfl (fun A_t14 c_t14 e_t14 l_t14 k_t14 => ?_)
  subst e_t14
  refine GL.freezeR (i := 1) (j := 0) rfl rfl (by decide) ?_
  refine GL.pure rfl (p_assign rfl) ?_
  refine GL.nil (?_ : GC _ _ _ _)
  refine GC.seq' ?_
  refine GC.region ?_
  skip
  refine GL.pure rfl (p_assign rfl) ?_
  refine GL.nil (?_ : GC _ _ _ _)
  refine GC.seq' ?_
  refine GC.seq' ?_
  refine GC.region ?_
  refine GL.pure rfl (p_assign rfl) ?_
  refine GL.nil (?_ : GC _ _ _ _)
  refine GC.block ?_
  refine GC.loopK3 (ks := [7]) (is := [0]) (js := [0, 1, 2, 3, 4]) (fun (k : Nat) (A1 : Option Addr) (c1 : Nat) => k ≤ (alA l node num).length) (fun (k : Nat) (A1 : Option Addr) (c1 : Nat) => [(8, .slice A1 (nodesF ((alA l node num).take k)).length c1), (9, .int .i64 (k : Int))]) (fun (k : Nat) (A1 : Option Addr) (c1 : Nat) => []) (fun (k : Nat) (A1 : Option Addr) (c1 : Nat) => [Pers.row kI A1 (nodesF ((alA l node num).take k))]) (fun (k : Nat) (A1 : Option Addr) (c1 : Nat) => (alA l node num).length - k) (0) (none) (0) rfl rfl rfl (fun a w h => ⟨by omega, h.cutK (is := [0]) (js := [3, 0, 1, 2, 3, 4]) (ks := [7]) ⟨rfl, rfl, trivial⟩ rfl rfl rfl⟩) ?_
  intro k A1 c1 hk
  try dsimp only [List.cons_append, List.nil_append] at hk ⊢
  refine GC.seq' ?_
  refine GC.seq' ?_
  refine GC.region ?_
  refine GL.pure rfl (p_move rfl) ?_
  refine GL.pure rfl (p_move rfl) ?_
  refine GL.pure rfl (p_len Try.underlying23 rfl) ?_
  refine GL.pure rfl (p_lss rfl rfl) ?_
  refine GL.nil (?_ : GC _ _ _ _)
  refine GC.cond rfl (fun h1 => ?_) (fun h1 => ?_)
  · try simp only [decide_eq_true_eq, decide_eq_false_iff_not, Bool.not_eq_true', Bool.not_eq_false', Bool.not_true, Bool.not_false, Bool.not_not, ne_eq, Decidable.not_not, Int.not_lt, Int.not_le, gt_iff_lt, ge_iff_le, bool_true_eq_, bool_false_eq_] at h1
    refine GC.skip (?_ : GC _ _ _ _)
    refine GC.seq' ?_
    refine GC.block ?_
    refine GC.region ?_
    refine GL.pure rfl (p_move rfl) ?_
    refine GL.pure rfl (p_move rfl) ?_
    refine GL.pure rfl (p_move rfl) ?_
    refine GL.step rfl (t_index (i := 1) rfl rfl rfl rfl Try.underlying23 sz_44 (by omega) (gt_ok (by omega) (by omega))) (GL.ex fun p_x31 => GL.ex fun r_x31 => GL.and fun ok_x31 => ?_)
    rcases r_x31 with ⟨_, _⟩
    refine GL.pure rfl (p_fieldAddr' fo_44_0 rfl) ?_
    refine GL.step rfl (t_mem rfl (m_loadP (i := 0) rfl rfl ag_3 rfl)) ?_
    refine GL.step rfl (t_call rfl fn_11 rfl (is := []) (js := [1]) rfl rfl (by exact radd_ct _ (nodesF ((alA l node num).take k)) _ _ (by have := nodesF_len (alA l node num) k; omega))) (GL.ret ?_)
    rintro _ _ _ ⟨A34, cp34, rfl, rfl, rfl⟩
    refine GL.pure rfl (p_assign rfl) ?_
    refine GL.nil (?_ : GC _ _ _ _)
    refine GC.region ?_
    refine GL.pure rfl (p_move rfl) ?_
    refine GL.pure rfl (p_add rfl rfl (w64 (by omega) (by omega))) ?_
    refine GL.pure rfl (p_assign rfl) ?_
    refine GL.nil ?_
    exact fun a w h => ⟨(k + 1), (_), (_), (by omega), by omega, by rw [nodesF_take (by omega)]; exact h.cut (is := [0]) (js := [0, 3, 4, 5, 6, 7]) ⟨rfl, rfl, rfl, trivial⟩ rfl rfl⟩
  · try simp only [decide_eq_true_eq, decide_eq_false_iff_not, Bool.not_eq_true', Bool.not_eq_false', Bool.not_true, Bool.not_false, Bool.not_not, ne_eq, Decidable.not_not, Int.not_lt, Int.not_le, gt_iff_lt, ge_iff_le, bool_true_eq_, bool_false_eq_] at h1
    refine GC.exit (?_ : GC _ _ _ _)
    refine GC.seq' ?_
    refine GC.region ?_
    obtain rfl : k = (alA l node num).length := by omega
    rw [List.take_length]
    refine GL.pure rfl (p_assign rfl) ?_
    refine GL.nil (?_ : GC _ _ _ _)
    refine GC.seq' ?_
    refine GC.seq' ?_
    refine GC.region ?_
    refine GL.nilrow 44 2 ?_
    refine GL.know (q := Pers.reps kAck [] []) (fun _ _ _ => rfl) ?_
    refine GL.pure rfl (p_assign rfl) ?_
    refine GL.nil (?_ : GC _ _ _ _)
    refine GC.block ?_
    refine GC.loopK3 (ks := [7, 8]) (is := [1]) (js := [1, 2, 3, 4, 5, 6]) (fun (k : Nat) (V : Value) (cs : List Value) => k ≤ (nodesF (alA l node num)).length) (fun (k : Nat) (V : Value) (cs : List Value) => [(10, V), (11, .int .i64 (k : Int))]) (fun (k : Nat) (V : Value) (cs : List Value) => [.row V 44 2 k cs]) (fun (k : Nat) (V : Value) (cs : List Value) => [Pers.reps kAck (((nodesF (alA l node num)).take k).map (ofN (alA l node num))) cs]) (fun (k : Nat) (V : Value) (cs : List Value) => (nodesF (alA l node num)).length - k) (0) (_) ([]) rfl rfl rfl (fun a w h => ⟨by omega, h.cutK (is := [0, 0]) (js := [0, 1, 2, 3, 4, 5, 6]) (ks := [7, 8]) ⟨rfl, rfl, trivial⟩ rfl rfl rfl⟩) ?_
    intro k V cs hk2
    try dsimp only [List.cons_append, List.nil_append] at hk2 ⊢
    refine GC.seq' ?_
    refine GC.seq' ?_
    refine GC.region ?_
    refine GL.pure rfl (p_move rfl) ?_
    refine GL.pure rfl (p_move rfl) ?_
    refine GL.pure rfl (p_len Try.underlying22 rfl) ?_
    refine GL.pure rfl (p_lss rfl rfl) ?_
    refine GL.nil (?_ : GC _ _ _ _)
    refine GC.cond rfl (fun h2 => ?_) (fun h2 => ?_)
    · try simp only [decide_eq_true_eq, decide_eq_false_iff_not, Bool.not_eq_true', Bool.not_eq_false', Bool.not_true, Bool.not_false, Bool.not_not, ne_eq, Decidable.not_not, Int.not_lt, Int.not_le, gt_iff_lt, ge_iff_le, bool_true_eq_, bool_false_eq_] at h2
      refine GC.skip (?_ : GC _ _ _ _)
      refine GC.seq' ?_
      refine GC.block ?_
      refine GC.seq' ?_
      refine GC.region ?_
      refine GL.pure rfl (p_move rfl) ?_
      refine GL.pure rfl (p_move rfl) ?_
      refine GL.pure rfl (p_move rfl) ?_
      refine GL.step rfl (t_index (i := 1) rfl rfl rfl rfl Try.underlying22 sz_3 (by omega) (gt_ok (by omega) (by omega))) (GL.ex fun p_x45 => GL.ex fun r_x45 => GL.and fun ok_x45 => ?_)
      rcases r_x45 with _
      refine GL.step rfl (t_mem rfl (m_loadP (i := 0) rfl rfl ag_3 rfl)) ?_
      refine GL.step rfl (t_call rfl fn_8 rfl (is := []) (js := [3]) rfl rfl (by exact rnum_ct _ (alA l node num) _ _ (by omega))) (GL.ret ?_)
      rintro _ _ _ ⟨rfl, rfl, rfl⟩
      refine GL.pure rfl (p_move rfl) ?_
      refine GL.pure rfl (p_extract rfl rfl) ?_
      refine GL.pure rfl (p_extract rfl rfl) ?_
      refine GL.pure rfl (p_assign rfl) ?_
      refine GL.pure rfl (p_assign rfl) ?_
      refine GL.nil (?_ : GC _ _ _ _)
      refine GC.region ?_
      refine GL.pure rfl (p_move rfl) ?_
      refine GL.pure rfl (p_move rfl) ?_
      refine GL.pure rfl (p_move rfl) ?_
      refine GL.step rfl (t_index (i := 2) rfl rfl rfl rfl Try.underlying22 sz_3 (by omega) (gt_ok (by omega) (by omega))) (GL.ex fun p_x53 => GL.ex fun r_x53 => GL.and fun ok_x53 => ?_)
      rcases r_x53 with _
      refine GL.step rfl (t_mem rfl (m_loadP (i := 0) rfl rfl ag_3 rfl)) ?_
      refine GL.pure rfl (p_move rfl) ?_
      refine GL.pure rfl (p_build ze_44 of_44 rfl rfl) ?_
      refine GL.step rfl (t_buildSlice rfl Try.underlying23 sz_44 ze_44 rfl rfl rfl rfl rfl rfl) (GL.ex fun b_t57 => ?_)
      refine GL.step rfl (t_append (i := 1) (k := 0) rfl el_23 rfl rfl rfl rfl rfl (allOne_mem rfl) (by first | omega | (simp; omega)) (fun _ => rfl)) (GL.ex fun v58 => ?_)
      refine GL.snoc (j := 2) (js := []) (ofN (alA l node num) (gt (nodesF (alA l node num)) (k : Int))) ((), ()) rfl rfl ⟨trivial, trivial⟩ ?_
      refine GL.pure rfl (p_assign rfl) ?_
      refine GL.nil (?_ : GC _ _ _ _)
      refine GC.region ?_
      refine GL.pure rfl (p_move rfl) ?_
      refine GL.pure rfl (p_add rfl rfl (w64 (by omega) (by omega))) ?_
      refine GL.pure rfl (p_assign rfl) ?_
      refine GL.nil ?_
      exact fun a w h => ⟨(k + 1), (_), (_), (by omega), by omega, by rw [map_take (by omega)]; exact h.cut (is := [1, 1]) (js := [0, 4, 5, 6, 7, 8, 9]) ⟨rfl, rfl, rfl, rfl, trivial⟩ rfl rfl⟩
    · try simp only [decide_eq_true_eq, decide_eq_false_iff_not, Bool.not_eq_true', Bool.not_eq_false', Bool.not_true, Bool.not_false, Bool.not_not, ne_eq, Decidable.not_not, Int.not_lt, Int.not_le, gt_iff_lt, ge_iff_le, bool_true_eq_, bool_false_eq_] at h2
      refine GC.exit (?_ : GC _ _ _ _)
      refine GC.seq' ?_
      refine GC.region ?_
      refine GL.pure rfl (p_move rfl) ?_
      refine GL.pure rfl (p_assign rfl) ?_
      refine GL.nil (?_ : GC _ _ _ _)
      obtain rfl : k = (nodesF (alA l node num)).length := by omega
      rw [List.take_length]
      refine GC.rowIs (i := 0) (m' := (ackF l node num).length) rfl (by simp [ackF]) rfl rfl ?_
      refine GC.shape (i := 0) rfl (fun A1 c1 e1 l1 k1 => ?_)
      subst e1
      refine GC.freezeR (i := 0) (j := 0) rfl rfl (by decide) ?_
      refine GC.ret ?_
      refine fun a w h => Fin.back (rs := [.tmp 6]) (vs := [_]) (is := []) (js := [0]) rfl ⟨rfl, trivial⟩ rfl rfl ?_ h
      clear h
      exact ⟨_, _, rfl, rfl, rfl⟩
end Go.Proofs.Ytmjfkjajedhciaa
