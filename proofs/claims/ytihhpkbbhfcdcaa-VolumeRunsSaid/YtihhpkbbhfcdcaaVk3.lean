/- THE SUM: contracts of the rows' sums. -/
import Derived.Test.YtihhpkbbhfcdcaaVk2
set_option linter.unusedVariables false
set_option linter.unusedSimpArgs false
set_option maxRecDepth 100000
namespace Go.Proofs.Ytihhpkbbhfcdcaa
open Go Go.Sx Go.Proofs
theorem take_gt {α : Type} [Inhabited α] {l : List α} {k : Nat} (h : k < l.length) : l.take (k + 1) = l.take k ++ [gt l (k : Int)] := by
  have := gt_ok (xs := l) (i := (k : Int)) (by omega) (by omega)
  simp only [Int.toNat_natCast] at this
  rw [List.take_add_one, this]; rfl
theorem foldl_take {l : List UInt8} {k : Nat} {s : BitVec 32} (h : k < l.length) : (l.take (k + 1)).foldl byteB s = byteB ((l.take k).foldl byteB s) (gt l (k : Int)) := by
  rw [take_gt h, List.foldl_append]; rfl
theorem more_ct (s : BitVec 32) (A : Option Addr) (l : List UInt8) (cp : Nat) (hl : l.length ≤ 140737488355328) : Ct Try.prog 51 [w32 s, .slice A l.length cp] [] [Pers.row Kd.u8 A l] (fun u G Q => u = w32 (moreB s l) ∧ G = [] ∧ Q = []) := by
  refine Ct.intro Try.func51 rfl rfl rfl (fun c hc => ?_)
  refine GC.seq' ?_
  refine GC.region ?_
  refine GL.pure rfl (p_assign rfl) ?_
  refine GL.nil (?_ : GC _ _ _ _)
  refine GC.seq' ?_
  refine GC.region ?_
  refine GL.pure rfl (p_move rfl) ?_
  refine GL.pure rfl (p_com32 rfl) ?_
  refine GL.pure rfl (p_assign rfl) ?_
  refine GL.nil (?_ : GC _ _ _ _)
  refine GC.seq' ?_
  refine GC.seq' ?_
  refine GC.region ?_
  refine GL.pure rfl (p_move rfl) ?_
  refine GL.pure rfl (p_len Try.underlying31 rfl) ?_
  refine GL.pure rfl (p_move rfl) ?_
  refine GL.nil (?_ : GC _ _ _ _)
  refine GC.block ?_
  refine GC.imp (fun a w h => (⟨by simp, h.cut (is := []) (js := [0]) ⟨rfl, rfl, rfl, rfl, rfl, trivial⟩ rfl rfl⟩ : (fun (k : Nat) (a : Act) (w : World) => k ≤ l.length ∧ St c 35 [(1, .slice A l.length cp), (5, w32 ((l.take k).foldl byteB (~~~ s))), (10, .slice A l.length cp), (11, .int .i64 (l.length : Int)), (12, .int .i64 (k : Int))] [] [Pers.row Kd.u8 A l] a w) 0 a w)) (GC.loop (fun (k : Nat) (a : Act) (w : World) => k ≤ l.length ∧ St c 35 [(1, .slice A l.length cp), (5, w32 ((l.take k).foldl byteB (~~~ s))), (10, .slice A l.length cp), (11, .int .i64 (l.length : Int)), (12, .int .i64 (k : Int))] [] [Pers.row Kd.u8 A l] a w) (fun k => l.length - k) 0 ?_)
  intro k
  refine GC.and fun hk => ?_
  refine GC.seq' ?_
  refine GC.region ?_
  refine GL.pure rfl (p_lss rfl rfl) ?_
  refine GL.nil (?_ : GC _ _ _ _)
  refine GC.seq' ?_
  refine GC.cond rfl (fun h1 => ?_) (fun h1 => ?_)
  · try simp only [decide_eq_true_eq, decide_eq_false_iff_not, Bool.not_eq_true', Bool.not_eq_false', Bool.not_true, Bool.not_false, Bool.not_not, ne_eq, Decidable.not_not, Int.not_lt, Int.not_le, gt_iff_lt, ge_iff_le, bool_true_eq_, bool_false_eq_] at h1
    refine GC.skip (?_ : GC _ _ _ _)
    refine GC.seq' ?_
    refine GC.block ?_
    refine GC.seq' ?_
    refine GC.region ?_
    refine GL.step rfl (t_index (i := 0) rfl rfl rfl rfl Try.underlying31 sz_5 (by omega) (gt_ok (by omega) (by omega))) (GL.ex fun p_x14 => GL.ex fun r_x14 => GL.and fun ok_x14 => ?_)
    rcases r_x14 with _
    refine GL.step rfl (t_mem rfl (m_loadP (i := 0) rfl rfl ag_5 rfl)) ?_
    refine GL.pure rfl (p_assign rfl) ?_
    refine GL.nil (?_ : GC _ _ _ _)
    refine GC.seq' ?_
    refine GC.region ?_
    refine GL.pure rfl (p_move rfl) ?_
    refine GL.pure rfl (p_move rfl) ?_
    refine GL.pure rfl (p_conv8 (t := 5) (by rw [Try.underlying5]; simp) Try.underlying62 rfl) ?_
    refine GL.pure rfl (p_xor32 rfl rfl) ?_
    refine GL.pure rfl (p_assign rfl) ?_
    refine GL.nil (?_ : GC _ _ _ _)
    refine GC.seq' ?_
    refine GC.region ?_
    refine GL.pure rfl (p_move rfl) ?_
    refine GL.pure rfl (p_shr32 4 (by decide) rfl rfl) ?_
    refine GL.pure rfl (p_move rfl) ?_
    refine GL.pure rfl (p_and32 (b := 15#32) rfl rfl) ?_
    refine GL.step rfl (t_call rfl fn_56 rfl (is := []) (js := []) rfl rfl (by exact nib_ct _ (and15 _))) (GL.ret ?_)
    rintro _ _ _ ⟨rfl, rfl, rfl⟩
    refine GL.pure rfl (p_xor32 rfl rfl) ?_
    refine GL.pure rfl (p_assign rfl) ?_
    refine GL.nil (?_ : GC _ _ _ _)
    refine GC.region ?_
    refine GL.pure rfl (p_move rfl) ?_
    refine GL.pure rfl (p_shr32 4 (by decide) rfl rfl) ?_
    refine GL.pure rfl (p_move rfl) ?_
    refine GL.pure rfl (p_and32 (b := 15#32) rfl rfl) ?_
    refine GL.step rfl (t_call rfl fn_56 rfl (is := []) (js := []) rfl rfl (by exact nib_ct _ (and15 _))) (GL.ret ?_)
    rintro _ _ _ ⟨rfl, rfl, rfl⟩
    refine GL.pure rfl (p_xor32 rfl rfl) ?_
    refine GL.pure rfl (p_assign rfl) ?_
    refine GL.nil (?_ : GC _ _ _ _)
    refine GC.region ?_
    refine GL.pure rfl (p_add rfl rfl (w64 (by omega) (by omega))) ?_
    refine GL.pure rfl (p_move rfl) ?_
    refine GL.nil ?_
    exact fun a w h => ⟨(k + 1), (by omega), (by omega), by rw [foldl_take (by omega), byteB, ← nib_step, ← nib_step]; exact h.cut (is := []) (js := [1]) ⟨rfl, rfl, rfl, rfl, rfl, trivial⟩ rfl rfl⟩
  · try simp only [decide_eq_true_eq, decide_eq_false_iff_not, Bool.not_eq_true', Bool.not_eq_false', Bool.not_true, Bool.not_false, Bool.not_not, ne_eq, Decidable.not_not, Int.not_lt, Int.not_le, gt_iff_lt, ge_iff_le, bool_true_eq_, bool_false_eq_] at h1
    refine GC.exit (?_ : GC _ _ _ _)
    refine GC.seq' ?_
    refine GC.region ?_
    refine GL.pure rfl (p_move rfl) ?_
    refine GL.pure rfl (p_com32 rfl) ?_
    refine GL.pure rfl (p_assign rfl) ?_
    refine GL.nil (?_ : GC _ _ _ _)
    refine GC.ret ?_
    refine fun a w h => Fin.back (rs := [.tmp 4]) (vs := [_]) (is := []) (js := []) rfl ⟨rfl, trivial⟩ rfl rfl ?_ h
    clear h
    obtain rfl : k = l.length := by omega
    exact ⟨by rw [List.take_length]; rfl, rfl, rfl⟩
end Go.Proofs.Ytihhpkbbhfcdcaa
