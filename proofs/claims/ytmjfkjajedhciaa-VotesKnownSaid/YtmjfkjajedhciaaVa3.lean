/- VOTES: what a node has acknowledged. -/
import Derived.Test.YtmjfkjajedhciaaVa2
set_option linter.unusedVariables false
set_option linter.unusedSimpArgs false
set_option maxRecDepth 100000
namespace Go.Proofs.Ytmjfkjajedhciaa
open Go Go.Sx Go.Proofs
structure Ack where
  node : Int
  num : Int
  deriving Inhabited, DecidableEq
def kAck : Kd Ack := Kd.iso (Kd.pair (Kd.int .i64) (Kd.int .i64)) (fun r => (r.node, r.num))
def okAck (r : Ack) : Prop := ((Lit.int .i64 r.node).wf = true) ∧ ((Lit.int .i64 r.num).wf = true)
theorem opensAck : Opens Try.prog 44 kAck okAck := Opens.struct Try.underlying44 (OpensF.cons (Opens.int Try.underlying3) (by kernel_rfl) rfl (OpensF.one (Opens.int Try.underlying3) (by kernel_rfl))) (by kernel_rfl) (fun r : Ack => (r.node, r.num)) (fun p => (⟨p.1, p.2⟩ : Ack)) (fun _ => rfl)
def numS (x : Int) (s : Int × Bool) (a : Ack) : Int × Bool := if a.node = x then (if s.2 = false ∨ s.1 < a.num then a.num else s.1, true) else s
def numF (l : List Ack) (x : Int) : Int × Bool := l.foldl (numS x) (0, false)
theorem numF_snoc (l : List Ack) (x : Int) (a : Ack) : numF (l ++ [a]) x = numS x (numF l x) a := by simp [numF, List.foldl_append]
theorem numF_take {l : List Ack} {k : Nat} (h : k < l.length) (x : Int) : numF (l.take (k + 1)) x = numS x (numF (l.take k) x) (gt l (k : Int)) := by
  rw [take_gtI h, numF_snoc]
theorem num_no {l : List Ack} {k : Nat} {x n : Int} {ok : Bool} (hI : (n, ok) = numF (l.take k) x) (h : k < l.length) (h1 : (gt l (k : Int)).node ≠ x) : (n, ok) = numF (l.take (k + 1)) x := by
  rw [numF_take h, ← hI]; simp [numS, h1]
theorem num_old {l : List Ack} {k : Nat} {x n : Int} {ok : Bool} (hI : (n, ok) = numF (l.take k) x) (h : k < l.length) (h1 : (gt l (k : Int)).node = x) (h2 : ok = true) (h3 : (gt l (k : Int)).num ≤ n) : (n, true) = numF (l.take (k + 1)) x := by
  rw [numF_take h, ← hI]; simp [numS, h1, h2]; omega
theorem num_new {l : List Ack} {k : Nat} {x n : Int} {ok : Bool} (hI : (n, ok) = numF (l.take k) x) (h : k < l.length) (h1 : (gt l (k : Int)).node = x) (h2 : ok = false ∨ n < (gt l (k : Int)).num) : ((gt l (k : Int)).num, true) = numF (l.take (k + 1)) x := by
  rw [numF_take h, ← hI]; simp only [numS, h1, if_true]; rw [if_pos h2]
theorem num_ct (A : Option Addr) (l : List Ack) (cp : Nat) (x : Int) (hl : l.length ≤ 140737488355328) : Ct Try.prog 7 [.slice A l.length cp, .int .i64 x] [] [Pers.row kAck A l] (fun u G Q => u = .tuple #[.int .i64 (numF l x).1, .bool (numF l x).2] ∧ G = [] ∧ Q = []) := by
  refine Ct.intro Try.func7 rfl rfl rfl (fun c hc => ?_)
  refine GC.seq' ?_
  refine GC.region ?_
  refine GL.pure rfl (p_assign rfl) ?_
  refine GL.pure rfl (p_assign rfl) ?_
  refine GL.nil (?_ : GC _ _ _ _)
  refine GC.seq' ?_
  refine GC.region ?_
  refine GL.pure rfl (p_assign rfl) ?_
  refine GL.pure rfl (p_assign rfl) ?_
  refine GL.nil (?_ : GC _ _ _ _)
  refine GC.seq' ?_
  refine GC.seq' ?_
  refine GC.region ?_
  refine GL.pure rfl (p_move rfl) ?_
  refine GL.pure rfl (p_len Try.underlying23 rfl) ?_
  refine GL.pure rfl (p_move rfl) ?_
  refine GL.nil (?_ : GC _ _ _ _)
  refine GC.block ?_
  refine GC.loopK3 (ks := [1, 10, 11]) (is := []) (js := [0]) (fun (k : Nat) (n : Int) (ok : Bool) => k ≤ l.length ∧ (n, ok) = numF (l.take k) x) (fun (k : Nat) (n : Int) (ok : Bool) => [(6, .int .i64 n), (7, .bool ok), (12, .int .i64 (k : Int))]) (fun (k : Nat) (n : Int) (ok : Bool) => []) (fun (k : Nat) (n : Int) (ok : Bool) => []) (fun (k : Nat) (n : Int) (ok : Bool) => l.length - k) (0) (_) (_) rfl rfl rfl (fun a w h => ⟨⟨by omega, rfl⟩, h.cutK (is := []) (js := [0]) (ks := [1, 10, 11]) ⟨rfl, rfl, rfl, trivial⟩ rfl rfl rfl⟩) ?_
  intro k n ok hk
  try dsimp only [List.cons_append, List.nil_append] at hk ⊢
  obtain ⟨hk, hI⟩ := hk
  refine GC.seq' ?_
  refine GC.region ?_
  refine GL.pure rfl (p_lss rfl rfl) ?_
  refine GL.nil (?_ : GC _ _ _ _)
  refine GC.seq' ?_
  refine GC.cond rfl (fun h1 => ?_) (fun h1 => ?_)
  · try simp only [decide_eq_true_eq, decide_eq_false_iff_not, Bool.not_eq_true', Bool.not_eq_false', Bool.not_true, Bool.not_false, Bool.not_not, ne_eq, Decidable.not_not, Int.not_lt, Int.not_le, gt_iff_lt, ge_iff_le, bool_true_eq_, bool_false_eq_] at h1
    refine GC.skip (?_ : GC _ _ _ _)
    refine GC.seq' ?_
    refine GC.block ?_
    refine GC.seq' ?_
    refine GC.region ?_
    refine GL.step rfl (t_index (i := 0) rfl rfl rfl rfl Try.underlying23 sz_44 (by omega) (gt_ok (by omega) (by omega))) (GL.ex fun p_x14 => GL.ex fun r_x14 => GL.and fun ok_x14 => ?_)
    rcases r_x14 with ⟨_, _⟩
    refine GL.step rfl (t_mem rfl (m_loadPN (i := 0) rfl rfl ag_44 (vs := [_, _]) sz_44 ⟨rfl, rfl, trivial⟩)) ?_
    refine GL.step rfl (t_alloc rfl ze_44) (GL.ex fun b_t9 => ?_)
    refine GL.step rfl (t_storeN (i := 0) rfl rfl rfl sz_44 rfl rfl rfl) ?_
    refine GL.nil (?_ : GC _ _ _ _)
    refine GC.seq' ?_
    refine GC.region ?_
    refine GL.pure rfl (p_fieldAddr fo_44_0 rfl) ?_
    refine GL.step rfl (t_mem rfl (m_load (i := 0) rfl rfl ag_3 rfl)) ?_
    refine GL.pure rfl (p_move rfl) ?_
    refine GL.pure rfl (p_eql rfl rfl) ?_
    refine GL.nil (?_ : GC _ _ _ _)
    refine GC.cond rfl (fun h2 => ?_) (fun h2 => ?_)
    · try simp only [decide_eq_true_eq, decide_eq_false_iff_not, Bool.not_eq_true', Bool.not_eq_false', Bool.not_true, Bool.not_false, Bool.not_not, ne_eq, Decidable.not_not, Int.not_lt, Int.not_le, gt_iff_lt, ge_iff_le, bool_true_eq_, bool_false_eq_] at h2
      refine GC.seq' ?_
      refine GC.seq' ?_
      refine GC.region ?_
      refine GL.pure rfl (p_move rfl) ?_
      refine GL.pure rfl (p_not rfl) ?_
      refine GL.pure rfl (p_move rfl) ?_
      refine GL.split (i := 22) rfl (fun h3 => ?_) (fun h3 => ?_)
      · try simp only [decide_eq_true_eq, decide_eq_false_iff_not, Bool.not_eq_true', Bool.not_eq_false', Bool.not_true, Bool.not_false, Bool.not_not, ne_eq, Decidable.not_not, Int.not_lt, Int.not_le, gt_iff_lt, ge_iff_le, bool_true_eq_, bool_false_eq_] at h3
        refine GL.pass (s := 22) rfl rfl rfl ?_
        refine GL.pass (s := 22) rfl rfl rfl ?_
        refine GL.pass (s := 22) rfl rfl rfl ?_
        refine GL.pass (s := 22) rfl rfl rfl ?_
        refine GL.pure rfl (p_pick_true rfl rfl) ?_
        refine GL.nil (?_ : GC _ _ _ _)
        refine GC.cond_true rfl ?_
        refine GC.region ?_
        refine GL.pure rfl (p_fieldAddr fo_44_1 rfl) ?_
        refine GL.step rfl (t_mem rfl (m_load (i := 0) rfl rfl ag_3 rfl)) ?_
        refine GL.pure rfl (p_assign rfl) ?_
        refine GL.nil (?_ : GC _ _ _ _)
        refine GC.region ?_
        refine GL.pure rfl (p_assign rfl) ?_
        refine GL.nil (?_ : GC _ _ _ _)
        refine GC.region ?_
        refine GL.pure rfl (p_add rfl rfl (w64 (by omega) (by omega))) ?_
        refine GL.pure rfl (p_move rfl) ?_
        refine GL.nil ?_
        exact fun a w h => ⟨(k + 1), (_), (_), (by omega), ⟨by omega, by first | exact num_no hI (by omega) (by assumption) | exact num_old hI (by omega) (by assumption) (by simp_all) (by omega) | exact num_new hI (by omega) (by assumption) (by first | (right; omega) | (left; simp_all))⟩, h.cut (is := []) (js := [1]) ⟨rfl, rfl, rfl, rfl, rfl, rfl, trivial⟩ rfl rfl⟩
      · try simp only [decide_eq_true_eq, decide_eq_false_iff_not, Bool.not_eq_true', Bool.not_eq_false', Bool.not_true, Bool.not_false, Bool.not_not, ne_eq, Decidable.not_not, Int.not_lt, Int.not_le, gt_iff_lt, ge_iff_le, bool_true_eq_, bool_false_eq_] at h3
        refine GL.pureG (s := 22) rfl rfl rfl (p_fieldAddr fo_44_1 rfl) ?_
        refine GL.stepG rfl (s := 22) rfl rfl (t_mem rfl (m_load (i := 0) rfl rfl ag_3 rfl)) ?_
        refine GL.pureG (s := 22) rfl rfl rfl (p_move rfl) ?_
        refine GL.pureG (s := 22) rfl rfl rfl (p_gtr rfl rfl) ?_
        refine GL.pure rfl (p_pick_false rfl rfl) ?_
        refine GL.nil (?_ : GC _ _ _ _)
        refine GC.cond rfl (fun h4 => ?_) (fun h4 => ?_)
        · try simp only [decide_eq_true_eq, decide_eq_false_iff_not, Bool.not_eq_true', Bool.not_eq_false', Bool.not_true, Bool.not_false, Bool.not_not, ne_eq, Decidable.not_not, Int.not_lt, Int.not_le, gt_iff_lt, ge_iff_le, bool_true_eq_, bool_false_eq_] at h4
          refine GC.region ?_
          refine GL.pure rfl (p_fieldAddr fo_44_1 rfl) ?_
          refine GL.step rfl (t_mem rfl (m_load (i := 0) rfl rfl ag_3 rfl)) ?_
          refine GL.pure rfl (p_assign rfl) ?_
          refine GL.nil (?_ : GC _ _ _ _)
          refine GC.region ?_
          refine GL.pure rfl (p_assign rfl) ?_
          refine GL.nil (?_ : GC _ _ _ _)
          refine GC.region ?_
          refine GL.pure rfl (p_add rfl rfl (w64 (by omega) (by omega))) ?_
          refine GL.pure rfl (p_move rfl) ?_
          refine GL.nil ?_
          exact fun a w h => ⟨(k + 1), (_), (_), (by omega), ⟨by omega, by first | exact num_no hI (by omega) (by assumption) | exact num_old hI (by omega) (by assumption) (by simp_all) (by omega) | exact num_new hI (by omega) (by assumption) (by first | (right; omega) | (left; simp_all))⟩, h.cut (is := []) (js := [1]) ⟨rfl, rfl, rfl, rfl, rfl, rfl, trivial⟩ rfl rfl⟩
        · try simp only [decide_eq_true_eq, decide_eq_false_iff_not, Bool.not_eq_true', Bool.not_eq_false', Bool.not_true, Bool.not_false, Bool.not_not, ne_eq, Decidable.not_not, Int.not_lt, Int.not_le, gt_iff_lt, ge_iff_le, bool_true_eq_, bool_false_eq_] at h4
          refine GC.skip (?_ : GC _ _ _ _)
          refine GC.region ?_
          refine GL.pure rfl (p_assign rfl) ?_
          refine GL.nil (?_ : GC _ _ _ _)
          refine GC.region ?_
          refine GL.pure rfl (p_add rfl rfl (w64 (by omega) (by omega))) ?_
          refine GL.pure rfl (p_move rfl) ?_
          refine GL.nil ?_
          exact fun a w h => ⟨(k + 1), (_), (_), (by omega), ⟨by omega, by first | exact num_no hI (by omega) (by assumption) | exact num_old hI (by omega) (by assumption) (by simp_all) (by omega) | exact num_new hI (by omega) (by assumption) (by first | (right; omega) | (left; simp_all))⟩, h.cut (is := []) (js := [1]) ⟨rfl, rfl, rfl, rfl, rfl, rfl, trivial⟩ rfl rfl⟩
    · try simp only [decide_eq_true_eq, decide_eq_false_iff_not, Bool.not_eq_true', Bool.not_eq_false', Bool.not_true, Bool.not_false, Bool.not_not, ne_eq, Decidable.not_not, Int.not_lt, Int.not_le, gt_iff_lt, ge_iff_le, bool_true_eq_, bool_false_eq_] at h2
      refine GC.skip (?_ : GC _ _ _ _)
      refine GC.region ?_
      refine GL.pure rfl (p_add rfl rfl (w64 (by omega) (by omega))) ?_
      refine GL.pure rfl (p_move rfl) ?_
      refine GL.nil ?_
      exact fun a w h => ⟨(k + 1), (_), (_), (by omega), ⟨by omega, by first | exact num_no hI (by omega) (by assumption) | exact num_old hI (by omega) (by assumption) (by simp_all) (by omega) | exact num_new hI (by omega) (by assumption) (by first | (right; omega) | (left; simp_all))⟩, h.cut (is := []) (js := [1]) ⟨rfl, rfl, rfl, rfl, rfl, rfl, trivial⟩ rfl rfl⟩
  · try simp only [decide_eq_true_eq, decide_eq_false_iff_not, Bool.not_eq_true', Bool.not_eq_false', Bool.not_true, Bool.not_false, Bool.not_not, ne_eq, Decidable.not_not, Int.not_lt, Int.not_le, gt_iff_lt, ge_iff_le, bool_true_eq_, bool_false_eq_] at h1
    refine GC.exit (?_ : GC _ _ _ _)
    refine GC.seq' ?_
    refine GC.region ?_
    refine GL.pure rfl (p_move rfl) ?_
    refine GL.pure rfl (p_move rfl) ?_
    refine GL.pure rfl (p_assign rfl) ?_
    refine GL.pure rfl (p_assign rfl) ?_
    refine GL.nil (?_ : GC _ _ _ _)
    refine GC.ret ?_
    refine fun a w h => Fin.back (rs := [.tmp 4, .tmp 5]) (vs := [_, _]) (is := []) (js := []) rfl ⟨rfl, rfl, trivial⟩ rfl rfl ?_ h
    clear h
    obtain rfl : k = l.length := by omega
    rw [List.take_length] at hI
    rw [← hI]; exact ⟨rfl, rfl, rfl⟩
theorem rnum_ct (A : Option Addr) (l : List Ack) (cp : Nat) (x : Int) (hl : l.length ≤ 140737488355328) : Ct Try.prog 8 [.slice A l.length cp, .int .i64 x] [] [Pers.row kAck A l] (fun u G Q => u = .tuple #[.int .i64 (numF l x).1, .bool (numF l x).2] ∧ G = [] ∧ Q = []) := by
  refine Ct.intro Try.func8 rfl rfl rfl (fun c hc => ?_)
  refine GC.seq' ?_
  refine GC.region ?_
  refine GL.pure rfl (p_assign rfl) ?_
  refine GL.pure rfl (p_assign rfl) ?_
  refine GL.nil (?_ : GC _ _ _ _)
  refine GC.seq' ?_
  refine GC.region ?_
  refine GL.pure rfl (p_assign rfl) ?_
  refine GL.pure rfl (p_assign rfl) ?_
  refine GL.nil (?_ : GC _ _ _ _)
  refine GC.seq' ?_
  refine GC.seq' ?_
  refine GC.region ?_
  refine GL.pure rfl (p_assign rfl) ?_
  refine GL.nil (?_ : GC _ _ _ _)
  refine GC.block ?_
  refine GC.loopK3 (ks := [0, 1]) (is := []) (js := [0]) (fun (k : Nat) (n : Int) (ok : Bool) => k ≤ l.length ∧ (n, ok) = numF (l.take k) x) (fun (k : Nat) (n : Int) (ok : Bool) => [(6, .int .i64 n), (7, .bool ok), (8, .int .i64 (k : Int))]) (fun (k : Nat) (n : Int) (ok : Bool) => []) (fun (k : Nat) (n : Int) (ok : Bool) => []) (fun (k : Nat) (n : Int) (ok : Bool) => l.length - k) (0) (_) (_) rfl rfl rfl (fun a w h => ⟨⟨by omega, rfl⟩, h.cutK (is := []) (js := [0]) (ks := [0, 1]) ⟨rfl, rfl, rfl, trivial⟩ rfl rfl rfl⟩) ?_
  intro k n ok hk
  try dsimp only [List.cons_append, List.nil_append] at hk ⊢
  obtain ⟨hk, hI⟩ := hk
  refine GC.seq' ?_
  refine GC.seq' ?_
  refine GC.region ?_
  refine GL.pure rfl (p_move rfl) ?_
  refine GL.pure rfl (p_move rfl) ?_
  refine GL.pure rfl (p_len Try.underlying23 rfl) ?_
  refine GL.pure rfl (p_lss rfl rfl) ?_
  refine GL.nil (?_ : GC _ _ _ _)
  refine GC.cond rfl (fun h1 => ?_) (fun h1 => ?_)
  · try simp only [decide_eq_true_eq, decide_eq_false_iff_not, Bool.not_eq_true', Bool.not_eq_false', Bool.not_true, Bool.not_false, Bool.not_not, ne_eq, Decidable.not_not, Int.not_lt, Int.not_le, gt_iff_lt, ge_iff_le, bool_true_eq_, bool_false_eq_] at h1
    refine GC.skip (?_ : GC _ _ _ _)
    refine GC.seq' ?_
    refine GC.block ?_
    refine GC.seq' ?_
    refine GC.region ?_
    refine GL.pure rfl (p_move rfl) ?_
    refine GL.pure rfl (p_move rfl) ?_
    refine GL.step rfl (t_index (i := 0) rfl rfl rfl rfl Try.underlying23 sz_44 (by omega) (gt_ok (by omega) (by omega))) (GL.ex fun p_x17 => GL.ex fun r_x17 => GL.and fun ok_x17 => ?_)
    rcases r_x17 with ⟨_, _⟩
    refine GL.pure rfl (p_fieldAddr' fo_44_0 rfl) ?_
    refine GL.step rfl (t_mem rfl (m_loadP (i := 0) rfl rfl ag_3 rfl)) ?_
    refine GL.pure rfl (p_move rfl) ?_
    refine GL.pure rfl (p_eql rfl rfl) ?_
    refine GL.pure rfl (p_move rfl) ?_
    refine GL.split (i := 22) rfl (fun h2 => ?_) (fun h2 => ?_)
    · try simp only [decide_eq_true_eq, decide_eq_false_iff_not, Bool.not_eq_true', Bool.not_eq_false', Bool.not_true, Bool.not_false, Bool.not_not, ne_eq, Decidable.not_not, Int.not_lt, Int.not_le, gt_iff_lt, ge_iff_le, bool_true_eq_, bool_false_eq_] at h2
      refine GL.pureG (s := 22) rfl rfl rfl (p_move rfl) ?_
      refine GL.pureG (s := 22) rfl rfl rfl (p_not rfl) ?_
      refine GL.pureG (s := 22) rfl rfl rfl (p_move rfl) ?_
      refine GL.split (i := 25) rfl (fun h3 => ?_) (fun h3 => ?_)
      · try simp only [decide_eq_true_eq, decide_eq_false_iff_not, Bool.not_eq_true', Bool.not_eq_false', Bool.not_true, Bool.not_false, Bool.not_not, ne_eq, Decidable.not_not, Int.not_lt, Int.not_le, gt_iff_lt, ge_iff_le, bool_true_eq_, bool_false_eq_] at h3
        refine GL.pass (s := 25) rfl rfl rfl ?_
        refine GL.pass (s := 25) rfl rfl rfl ?_
        refine GL.pass (s := 25) rfl rfl rfl ?_
        refine GL.pass (s := 25) rfl rfl rfl ?_
        refine GL.pass (s := 25) rfl rfl rfl ?_
        refine GL.pass (s := 25) rfl rfl rfl ?_
        refine GL.pass (s := 25) rfl rfl rfl ?_
        refine GL.pureG (s := 22) rfl rfl rfl (p_pick_true rfl rfl) ?_
        refine GL.pure rfl (p_pick_true rfl rfl) ?_
        refine GL.nil (?_ : GC _ _ _ _)
        refine GC.cond_true rfl ?_
        refine GC.region ?_
        refine GL.pure rfl (p_move rfl) ?_
        refine GL.pure rfl (p_move rfl) ?_
        refine GL.step rfl (t_index (i := 1) rfl rfl rfl rfl Try.underlying23 sz_44 (by omega) (gt_ok (by omega) (by omega))) (GL.ex fun p_x37 => GL.ex fun r_x37 => GL.and fun ok_x37 => ?_)
        rcases r_x37 with ⟨_, _⟩
        refine GL.pure rfl (p_fieldAddr' fo_44_1 rfl) ?_
        refine GL.step rfl (t_mem rfl (m_loadP (i := 0) rfl rfl ag_3 rfl)) ?_
        refine GL.pure rfl (p_assign rfl) ?_
        refine GL.pure rfl (p_assign rfl) ?_
        refine GL.nil (?_ : GC _ _ _ _)
        refine GC.region ?_
        refine GL.pure rfl (p_move rfl) ?_
        refine GL.pure rfl (p_add rfl rfl (w64 (by omega) (by omega))) ?_
        refine GL.pure rfl (p_assign rfl) ?_
        refine GL.nil ?_
        exact fun a w h => ⟨(k + 1), (_), (_), (by omega), ⟨by omega, by first | exact num_no hI (by omega) (by assumption) | exact num_new hI (by omega) (by assumption) (by first | (right; omega) | (left; simp_all)) | (obtain rfl : ok = true := (by simp_all); exact num_old hI (by omega) (by assumption) rfl (by omega))⟩, h.cut (is := []) (js := [2]) ⟨rfl, rfl, rfl, rfl, rfl, trivial⟩ rfl rfl⟩
      · try simp only [decide_eq_true_eq, decide_eq_false_iff_not, Bool.not_eq_true', Bool.not_eq_false', Bool.not_true, Bool.not_false, Bool.not_not, ne_eq, Decidable.not_not, Int.not_lt, Int.not_le, gt_iff_lt, ge_iff_le, bool_true_eq_, bool_false_eq_] at h3
        refine GL.pureG (s := 25) rfl rfl rfl (p_move rfl) ?_
        refine GL.pureG (s := 25) rfl rfl rfl (p_move rfl) ?_
        refine GL.stepG rfl (s := 25) rfl rfl (t_index (i := 1) rfl rfl rfl rfl Try.underlying23 sz_44 (by omega) (gt_ok (by omega) (by omega))) (GL.ex fun p_x28 => GL.ex fun r_x28 => GL.and fun ok_x28 => ?_)
        rcases r_x28 with ⟨_, _⟩
        refine GL.pureG (s := 25) rfl rfl rfl (p_fieldAddr' fo_44_1 rfl) ?_
        refine GL.stepG rfl (s := 25) rfl rfl (t_mem rfl (m_loadP (i := 0) rfl rfl ag_3 rfl)) ?_
        refine GL.pureG (s := 25) rfl rfl rfl (p_move rfl) ?_
        refine GL.pureG (s := 25) rfl rfl rfl (p_gtr rfl rfl) ?_
        refine GL.pureG (s := 22) rfl rfl rfl (p_pick_false rfl rfl) ?_
        refine GL.pure rfl (p_pick_true rfl rfl) ?_
        refine GL.nil (?_ : GC _ _ _ _)
        refine GC.cond rfl (fun h4 => ?_) (fun h4 => ?_)
        · try simp only [decide_eq_true_eq, decide_eq_false_iff_not, Bool.not_eq_true', Bool.not_eq_false', Bool.not_true, Bool.not_false, Bool.not_not, ne_eq, Decidable.not_not, Int.not_lt, Int.not_le, gt_iff_lt, ge_iff_le, bool_true_eq_, bool_false_eq_] at h4
          refine GC.region ?_
          refine GL.pure rfl (p_move rfl) ?_
          refine GL.pure rfl (p_move rfl) ?_
          refine GL.step rfl (t_index (i := 2) rfl rfl rfl rfl Try.underlying23 sz_44 (by omega) (gt_ok (by omega) (by omega))) (GL.ex fun p_x37 => GL.ex fun r_x37 => GL.and fun ok_x37 => ?_)
          rcases r_x37 with ⟨_, _⟩
          refine GL.pure rfl (p_fieldAddr' fo_44_1 rfl) ?_
          refine GL.step rfl (t_mem rfl (m_loadP (i := 0) rfl rfl ag_3 rfl)) ?_
          refine GL.pure rfl (p_assign rfl) ?_
          refine GL.pure rfl (p_assign rfl) ?_
          refine GL.nil (?_ : GC _ _ _ _)
          refine GC.region ?_
          refine GL.pure rfl (p_move rfl) ?_
          refine GL.pure rfl (p_add rfl rfl (w64 (by omega) (by omega))) ?_
          refine GL.pure rfl (p_assign rfl) ?_
          refine GL.nil ?_
          exact fun a w h => ⟨(k + 1), (_), (_), (by omega), ⟨by omega, by first | exact num_no hI (by omega) (by assumption) | exact num_new hI (by omega) (by assumption) (by first | (right; omega) | (left; simp_all)) | (obtain rfl : ok = true := (by simp_all); exact num_old hI (by omega) (by assumption) rfl (by omega))⟩, h.cut (is := []) (js := [3]) ⟨rfl, rfl, rfl, rfl, rfl, trivial⟩ rfl rfl⟩
        · try simp only [decide_eq_true_eq, decide_eq_false_iff_not, Bool.not_eq_true', Bool.not_eq_false', Bool.not_true, Bool.not_false, Bool.not_not, ne_eq, Decidable.not_not, Int.not_lt, Int.not_le, gt_iff_lt, ge_iff_le, bool_true_eq_, bool_false_eq_] at h4
          refine GC.skip (?_ : GC _ _ _ _)
          refine GC.region ?_
          refine GL.pure rfl (p_move rfl) ?_
          refine GL.pure rfl (p_add rfl rfl (w64 (by omega) (by omega))) ?_
          refine GL.pure rfl (p_assign rfl) ?_
          refine GL.nil ?_
          exact fun a w h => ⟨(k + 1), (_), (_), (by omega), ⟨by omega, by first | exact num_no hI (by omega) (by assumption) | exact num_new hI (by omega) (by assumption) (by first | (right; omega) | (left; simp_all)) | (obtain rfl : ok = true := (by simp_all); exact num_old hI (by omega) (by assumption) rfl (by omega))⟩, h.cut (is := []) (js := [2]) ⟨rfl, rfl, rfl, rfl, rfl, trivial⟩ rfl rfl⟩
    · try simp only [decide_eq_true_eq, decide_eq_false_iff_not, Bool.not_eq_true', Bool.not_eq_false', Bool.not_true, Bool.not_false, Bool.not_not, ne_eq, Decidable.not_not, Int.not_lt, Int.not_le, gt_iff_lt, ge_iff_le, bool_true_eq_, bool_false_eq_] at h2
      refine GL.pass (s := 22) rfl rfl rfl ?_
      refine GL.pass (s := 22) rfl rfl rfl ?_
      refine GL.pass (s := 22) rfl rfl rfl ?_
      refine GL.passU (s := 25) rfl rfl rfl ?_
      refine GL.passU (s := 25) rfl rfl rfl ?_
      refine GL.passU (s := 25) rfl rfl rfl ?_
      refine GL.passU (s := 25) rfl rfl rfl ?_
      refine GL.passU (s := 25) rfl rfl rfl ?_
      refine GL.passU (s := 25) rfl rfl rfl ?_
      refine GL.passU (s := 25) rfl rfl rfl ?_
      refine GL.pass (s := 22) rfl rfl rfl ?_
      refine GL.pure rfl (p_pick_false rfl rfl) ?_
      refine GL.nil (?_ : GC _ _ _ _)
      refine GC.cond_false rfl ?_
      refine GC.skip (?_ : GC _ _ _ _)
      refine GC.region ?_
      refine GL.pure rfl (p_move rfl) ?_
      refine GL.pure rfl (p_add rfl rfl (w64 (by omega) (by omega))) ?_
      refine GL.pure rfl (p_assign rfl) ?_
      refine GL.nil ?_
      exact fun a w h => ⟨(k + 1), (_), (_), (by omega), ⟨by omega, by first | exact num_no hI (by omega) (by assumption) | exact num_new hI (by omega) (by assumption) (by first | (right; omega) | (left; simp_all)) | (obtain rfl : ok = true := (by simp_all); exact num_old hI (by omega) (by assumption) rfl (by omega))⟩, h.cut (is := []) (js := [1]) ⟨rfl, rfl, rfl, rfl, rfl, trivial⟩ rfl rfl⟩
  · try simp only [decide_eq_true_eq, decide_eq_false_iff_not, Bool.not_eq_true', Bool.not_eq_false', Bool.not_true, Bool.not_false, Bool.not_not, ne_eq, Decidable.not_not, Int.not_lt, Int.not_le, gt_iff_lt, ge_iff_le, bool_true_eq_, bool_false_eq_] at h1
    refine GC.exit (?_ : GC _ _ _ _)
    refine GC.seq' ?_
    refine GC.region ?_
    refine GL.pure rfl (p_move rfl) ?_
    refine GL.pure rfl (p_move rfl) ?_
    refine GL.pure rfl (p_assign rfl) ?_
    refine GL.pure rfl (p_assign rfl) ?_
    refine GL.nil (?_ : GC _ _ _ _)
    refine GC.ret ?_
    refine fun a w h => Fin.back (rs := [.tmp 4, .tmp 5]) (vs := [_, _]) (is := []) (js := []) rfl ⟨rfl, rfl, trivial⟩ rfl rfl ?_ h
    clear h
    obtain rfl : k = l.length := by omega
    rw [List.take_length] at hI
    rw [← hI]; exact ⟨rfl, rfl, rfl⟩
end Go.Proofs.Ytmjfkjajedhciaa
