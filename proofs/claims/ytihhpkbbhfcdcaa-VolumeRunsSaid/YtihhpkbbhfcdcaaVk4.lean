/- THE SUM: the reference's, and that of rows of rows. -/
import Derived.Test.YtihhpkbbhfcdcaaVk3
set_option linter.unusedVariables false
set_option linter.unusedSimpArgs false
set_option maxRecDepth 100000
namespace Go.Proofs.Ytihhpkbbhfcdcaa
open Go Go.Sx Go.Proofs
def iterB : Nat → BitVec 32 → BitVec 32
  | 0, s => s
  | k + 1, s => stepB (iterB k s)
theorem iter8 (s : BitVec 32) (b : UInt8) : iterB 8 (s ^^^ b.toBitVec.zeroExtend 32) = byteB s b := rfl
theorem rmore_ct (s : BitVec 32) (A : Option Addr) (l : List UInt8) (cp : Nat) (hl : l.length ≤ 140737488355328) : Ct Try.prog 57 [w32 s, .slice A l.length cp] [] [Pers.row Kd.u8 A l] (fun u G Q => u = w32 (moreB s l) ∧ G = [] ∧ Q = []) := by
  refine Ct.intro Try.func57 rfl rfl rfl (fun c hc => ?_)
  refine GC.seq' ?_
  refine GC.region ?_
  refine GL.pure rfl (p_assign rfl) ?_
  refine GL.nil (?_ : GC _ _ _ _)
  refine GC.seq' ?_
  refine GC.region ?_
  refine GL.pure rfl (p_move rfl) ?_
  refine GL.pure rfl (p_com32 rfl) ?_
  refine GL.pure rfl (p_assign rfl) ?_
  refine GL.nil (?_ : GC _ _ _ _)
  refine GC.seq' ?_
  refine GC.seq' ?_
  refine GC.region ?_
  refine GL.pure rfl (p_assign rfl) ?_
  refine GL.nil (?_ : GC _ _ _ _)
  refine GC.block ?_
  refine GC.imp (fun a w h => (⟨by simp, h.cut (is := []) (js := [0]) ⟨rfl, rfl, rfl, trivial⟩ rfl rfl⟩ : (fun (k : Nat) (a : Act) (w : World) => k ≤ l.length ∧ St c 31 [(1, .slice A l.length cp), (5, w32 ((l.take k).foldl byteB (~~~ s))), (6, .int .i64 (k : Int))] [] [Pers.row Kd.u8 A l] a w) 0 a w)) (GC.loop (fun (k : Nat) (a : Act) (w : World) => k ≤ l.length ∧ St c 31 [(1, .slice A l.length cp), (5, w32 ((l.take k).foldl byteB (~~~ s))), (6, .int .i64 (k : Int))] [] [Pers.row Kd.u8 A l] a w) (fun k => l.length - k) 0 ?_)
  intro k
  refine GC.and fun hk => ?_
  refine GC.seq' ?_
  refine GC.seq' ?_
  refine GC.region ?_
  refine GL.pure rfl (p_move rfl) ?_
  refine GL.pure rfl (p_move rfl) ?_
  refine GL.pure rfl (p_len Try.underlying31 rfl) ?_
  refine GL.pure rfl (p_lss rfl rfl) ?_
  refine GL.nil (?_ : GC _ _ _ _)
  refine GC.cond rfl (fun h1 => ?_) (fun h1 => ?_)
  · try simp only [decide_eq_true_eq, decide_eq_false_iff_not, Bool.not_eq_true', Bool.not_eq_false', Bool.not_true, Bool.not_false, Bool.not_not, ne_eq, Decidable.not_not, Int.not_lt, Int.not_le, gt_iff_lt, ge_iff_le, bool_true_eq_, bool_false_eq_] at h1
    refine GC.skip (?_ : GC _ _ _ _)
    refine GC.seq' ?_
    refine GC.block ?_
    refine GC.seq' ?_
    refine GC.region ?_
    refine GL.pure rfl (p_move rfl) ?_
    refine GL.pure rfl (p_move rfl) ?_
    refine GL.pure rfl (p_move rfl) ?_
    refine GL.step rfl (t_index (i := 0) rfl rfl rfl rfl Try.underlying31 sz_5 (by omega) (gt_ok (by omega) (by omega))) (GL.ex fun p_x19 => GL.ex fun r_x19 => GL.and fun ok_x19 => ?_)
    rcases r_x19 with _
    refine GL.step rfl (t_mem rfl (m_loadP (i := 0) rfl rfl ag_5 rfl)) ?_
    refine GL.pure rfl (p_conv8 (t := 5) (by rw [Try.underlying5]; simp) Try.underlying62 rfl) ?_
    refine GL.pure rfl (p_xor32 rfl rfl) ?_
    refine GL.pure rfl (p_assign rfl) ?_
    refine GL.nil (?_ : GC _ _ _ _)
    refine GC.seq' ?_
    refine GC.region ?_
    refine GL.pure rfl (p_assign rfl) ?_
    refine GL.nil (?_ : GC _ _ _ _)
    refine GC.block ?_
    refine GC.imp (fun a w h => (⟨by simp, h.cut (is := []) (js := [1]) ⟨rfl, rfl, rfl, rfl, trivial⟩ rfl rfl⟩ : (fun (j : Nat) (a : Act) (w : World) => j ≤ 8 ∧ St c 31 [(1, .slice A l.length cp), (5, w32 (iterB j (((l.take k).foldl byteB (~~~ s)) ^^^ (gt l (k : Int)).toBitVec.zeroExtend 32))), (6, .int .i64 (k : Int)), (7, .int .i64 (j : Int))] [] [Pers.row Kd.u8 A l] a w) 0 a w)) (GC.loop (fun (j : Nat) (a : Act) (w : World) => j ≤ 8 ∧ St c 31 [(1, .slice A l.length cp), (5, w32 (iterB j (((l.take k).foldl byteB (~~~ s)) ^^^ (gt l (k : Int)).toBitVec.zeroExtend 32))), (6, .int .i64 (k : Int)), (7, .int .i64 (j : Int))] [] [Pers.row Kd.u8 A l] a w) (fun j => 8 - j) 0 ?_)
    intro j
    refine GC.and fun hj => ?_
    refine GC.seq' ?_
    refine GC.seq' ?_
    refine GC.region ?_
    refine GL.pure rfl (p_move rfl) ?_
    refine GL.pure rfl (p_lss rfl rfl) ?_
    refine GL.nil (?_ : GC _ _ _ _)
    refine GC.cond rfl (fun h2 => ?_) (fun h2 => ?_)
    · try simp only [decide_eq_true_eq, decide_eq_false_iff_not, Bool.not_eq_true', Bool.not_eq_false', Bool.not_true, Bool.not_false, Bool.not_not, ne_eq, Decidable.not_not, Int.not_lt, Int.not_le, gt_iff_lt, ge_iff_le, bool_true_eq_, bool_false_eq_] at h2
      refine GC.skip (?_ : GC _ _ _ _)
      refine GC.seq' ?_
      refine GC.block ?_
      refine GC.region ?_
      refine GL.pure rfl (p_move rfl) ?_
      refine GL.step rfl (t_call rfl fn_58 rfl (is := []) (js := []) rfl rfl (by exact step32_ct _)) (GL.ret ?_)
      rintro _ _ _ ⟨rfl, rfl, rfl⟩
      refine GL.pure rfl (p_assign rfl) ?_
      refine GL.nil (?_ : GC _ _ _ _)
      refine GC.region ?_
      refine GL.pure rfl (p_move rfl) ?_
      refine GL.pure rfl (p_add rfl rfl (w64 (by omega) (by omega))) ?_
      refine GL.pure rfl (p_assign rfl) ?_
      refine GL.nil ?_
      exact fun a w h => ⟨(j + 1), (by omega), (by omega), h.cut (is := []) (js := [0]) ⟨rfl, rfl, rfl, rfl, trivial⟩ rfl rfl⟩
    · try simp only [decide_eq_true_eq, decide_eq_false_iff_not, Bool.not_eq_true', Bool.not_eq_false', Bool.not_true, Bool.not_false, Bool.not_not, ne_eq, Decidable.not_not, Int.not_lt, Int.not_le, gt_iff_lt, ge_iff_le, bool_true_eq_, bool_false_eq_] at h2
      refine GC.exit (?_ : GC _ _ _ _)
      refine GC.region ?_
      refine GL.pure rfl (p_move rfl) ?_
      refine GL.pure rfl (p_add rfl rfl (w64 (by omega) (by omega))) ?_
      refine GL.pure rfl (p_assign rfl) ?_
      refine GL.nil ?_
      obtain rfl : j = 8 := by omega
      exact fun a w h => ⟨(k + 1), (by omega), (by omega), by rw [foldl_take (by omega), ← iter8]; exact h.cut (is := []) (js := [0]) ⟨rfl, rfl, rfl, trivial⟩ rfl rfl⟩
  · try simp only [decide_eq_true_eq, decide_eq_false_iff_not, Bool.not_eq_true', Bool.not_eq_false', Bool.not_true, Bool.not_false, Bool.not_not, ne_eq, Decidable.not_not, Int.not_lt, Int.not_le, gt_iff_lt, ge_iff_le, bool_true_eq_, bool_false_eq_] at h1
    refine GC.exit (?_ : GC _ _ _ _)
    refine GC.seq' ?_
    refine GC.region ?_
    refine GL.pure rfl (p_move rfl) ?_
    refine GL.pure rfl (p_com32 rfl) ?_
    refine GL.pure rfl (p_assign rfl) ?_
    refine GL.nil (?_ : GC _ _ _ _)
    refine GC.ret ?_
    refine fun a w h => Fin.back (rs := [.tmp 4]) (vs := [_]) (is := []) (js := []) rfl ⟨rfl, trivial⟩ rfl rfl ?_ h
    clear h
    obtain rfl : k = l.length := by omega
    exact ⟨by rw [List.take_length]; rfl, rfl, rfl⟩
theorem rmore0 (A : Option Addr) (l : List UInt8) (cp : Nat) (hl : l.length ≤ 140737488355328) : Ct Try.prog 57 [.int .u32 0, .slice A l.length cp] [] [Pers.row Kd.u8 A l] (fun u G Q => u = w32 (moreB 0#32 l) ∧ G = [] ∧ Q = []) := by
  have h := rmore_ct 0#32 A l cp hl
  rw [show w32 0#32 = Value.int .u32 0 from rfl] at h
  exact h
theorem of_ct (A : Option Addr) (l : List UInt8) (cp : Nat) (hl : l.length ≤ 140737488355328) : Ct Try.prog 52 [.slice A l.length cp] [] [Pers.row Kd.u8 A l] (fun u G Q => u = w32 (moreB 0#32 l) ∧ G = [] ∧ Q = []) := by
  refine Ct.intro Try.func52 rfl rfl rfl (fun c hc => ?_)
  refine GC.seq' ?_
  refine GC.region ?_
  refine GL.pure rfl (p_assign rfl) ?_
  refine GL.nil (?_ : GC _ _ _ _)
  refine GC.seq' ?_
  refine GC.region ?_
  refine GL.pure rfl (p_move rfl) ?_
  refine GL.step rfl (t_call rfl fn_57 rfl (is := []) (js := [0]) rfl rfl (by exact rmore0 _ _ _ hl)) (GL.ret ?_)
  rintro _ _ _ ⟨rfl, rfl, rfl⟩
  refine GL.pure rfl (p_assign rfl) ?_
  refine GL.nil (?_ : GC _ _ _ _)
  refine GC.ret ?_
  refine fun a w h => Fin.back (rs := [.tmp 2]) (vs := [_]) (is := []) (js := []) rfl ⟨rfl, trivial⟩ rfl rfl ?_ h
  clear h
  exact ⟨rfl, rfl, rfl⟩
theorem csum_ct (A : Option Addr) (b : List UInt8) (cp : Nat) (hl : b.length ≤ 140737488355328) : Ct Try.prog 39 [.slice A 1 cp] [] [Pers.row kBytes A [b]] (fun u G Q => u = w32 (moreB 0#32 b) ∧ G = [] ∧ Q = []) := by
  have e1 : ([b] : List (List UInt8)).length = 1 := rfl
  rw [← e1]
  refine Ct.intro Try.func39 rfl rfl rfl (fun c hc => ?_)
  refine GC.seq' ?_
  refine GC.region ?_
  refine GL.pure rfl (p_assign rfl) ?_
  refine GL.nil (?_ : GC _ _ _ _)
  refine GC.seq' ?_
  refine GC.region ?_
  refine GL.pure rfl (p_assign rfl) ?_
  refine GL.nil (?_ : GC _ _ _ _)
  refine GC.seq' ?_
  refine GC.seq' ?_
  refine GC.region ?_
  refine GL.pure rfl (p_move rfl) ?_
  refine GL.pure rfl (p_len Try.underlying77 rfl) ?_
  refine GL.pure rfl (p_move rfl) ?_
  refine GL.nil (?_ : GC _ _ _ _)
  refine GC.block ?_
  refine GC.imp (fun a w h => (⟨by simp, h.cut (is := []) (js := [0]) ⟨rfl, rfl, rfl, rfl, trivial⟩ rfl rfl⟩ : (fun (k : Nat) (a : Act) (w : World) => k ≤ 1 ∧ St c 17 [(3, w32 (if k = 0 then 0#32 else moreB 0#32 b)), (6, .slice A ([b] : List (List UInt8)).length cp), (7, .int .i64 (([b] : List (List UInt8)).length : Int)), (8, .int .i64 (k : Int))] [] [Pers.row kBytes A [b]] a w) 0 a w)) (GC.loop (fun (k : Nat) (a : Act) (w : World) => k ≤ 1 ∧ St c 17 [(3, w32 (if k = 0 then 0#32 else moreB 0#32 b)), (6, .slice A ([b] : List (List UInt8)).length cp), (7, .int .i64 (([b] : List (List UInt8)).length : Int)), (8, .int .i64 (k : Int))] [] [Pers.row kBytes A [b]] a w) (fun k => 1 - k) 0 ?_)
  intro k
  refine GC.and fun hk => ?_
  refine GC.seq' ?_
  refine GC.region ?_
  refine GL.pure rfl (p_lss rfl rfl) ?_
  refine GL.nil (?_ : GC _ _ _ _)
  refine GC.seq' ?_
  refine GC.cond rfl (fun h1 => ?_) (fun h1 => ?_)
  · try simp only [decide_eq_true_eq, decide_eq_false_iff_not, Bool.not_eq_true', Bool.not_eq_false', Bool.not_true, Bool.not_false, Bool.not_not, ne_eq, Decidable.not_not, Int.not_lt, Int.not_le, gt_iff_lt, ge_iff_le, bool_true_eq_, bool_false_eq_] at h1
    refine GC.skip (?_ : GC _ _ _ _)
    refine GC.seq' ?_
    refine GC.block ?_
    refine GC.seq' ?_
    refine GC.region ?_
    refine GL.step rfl (t_index (i := 0) rfl rfl rfl rfl Try.underlying77 sz_31 (by omega) (gt_ok (by omega) (by omega))) (GL.ex fun p_x10 => GL.ex fun r_x10 => GL.and fun ok_x10 => ?_)
    rcases r_x10 with ⟨Ax10_0, cpx10_0⟩
    refine GL.step rfl (t_mem rfl (m_loadP (i := 0) rfl rfl ag_31 rfl)) ?_
    refine GL.pure rfl (p_assign rfl) ?_
    refine GL.nil (?_ : GC _ _ _ _)
    refine GC.region ?_
    refine GL.pure rfl (p_move rfl) ?_
    refine GL.pure rfl (p_move rfl) ?_
    have hk0 : k = 0 := by simp at h1; omega
    have hlk : (gt [b] (k : Int)).length ≤ 140737488355328 := by subst hk0; exact hl
    refine GL.step rfl (t_call rfl fn_51 rfl (is := []) (js := [1]) rfl rfl (by exact more_ct _ _ (gt [b] (k : Int)) _ hlk)) (GL.ret ?_)
    rintro _ _ _ ⟨rfl, rfl, rfl⟩
    refine GL.pure rfl (p_assign rfl) ?_
    refine GL.nil (?_ : GC _ _ _ _)
    refine GC.region ?_
    refine GL.pure rfl (p_add rfl rfl (w64 (by omega) (by omega))) ?_
    refine GL.pure rfl (p_move rfl) ?_
    refine GL.nil ?_
    subst hk0
    exact fun a w h => ⟨(0 + 1), (by omega), (by omega), h.cut (is := []) (js := [2]) ⟨rfl, rfl, rfl, rfl, trivial⟩ rfl rfl⟩
  · try simp only [decide_eq_true_eq, decide_eq_false_iff_not, Bool.not_eq_true', Bool.not_eq_false', Bool.not_true, Bool.not_false, Bool.not_not, ne_eq, Decidable.not_not, Int.not_lt, Int.not_le, gt_iff_lt, ge_iff_le, bool_true_eq_, bool_false_eq_] at h1
    refine GC.exit (?_ : GC _ _ _ _)
    refine GC.seq' ?_
    refine GC.region ?_
    refine GL.pure rfl (p_move rfl) ?_
    refine GL.pure rfl (p_assign rfl) ?_
    refine GL.nil (?_ : GC _ _ _ _)
    refine GC.ret ?_
    refine fun a w h => Fin.back (rs := [.tmp 2]) (vs := [_]) (is := []) (js := []) rfl ⟨rfl, trivial⟩ rfl rfl ?_ h
    clear h
    obtain rfl : k = 1 := by simp at h1; omega
    exact ⟨rfl, rfl, rfl⟩
end Go.Proofs.Ytihhpkbbhfcdcaa
