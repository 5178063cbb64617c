/- THE SUM: contracts. -/
import Derived.Test.YtihhpkbbhfcdcaaVk1
set_option linter.unusedVariables false
set_option linter.unusedSimpArgs false
set_option maxRecDepth 100000
namespace Go.Proofs.Ytihhpkbbhfcdcaa
open Go Go.Sx Go.Proofs
def byteB (s : BitVec 32) (b : UInt8) : BitVec 32 := stepB (stepB (stepB (stepB (stepB (stepB (stepB (stepB (s ^^^ b.toBitVec.zeroExtend 32))))))))
def sumB (b : List UInt8) : BitVec 32 := ~~~ (b.foldl byteB (~~~ 0#32))
def moreB (s : BitVec 32) (b : List UInt8) : BitVec 32 := ~~~ (b.foldl byteB (~~~ s))
theorem step32_ct (s : BitVec 32) : Ct Try.prog 58 [w32 s] [] [] (fun u G Q => u = w32 (stepB s) ∧ G = [] ∧ Q = []) := by
  refine Ct.intro Try.func58 rfl rfl rfl (fun c hc => ?_)
  refine GC.seq' ?_
  refine GC.region ?_
  refine GL.pure rfl (p_assign rfl) ?_
  refine GL.nil (?_ : GC _ _ _ _)
  refine GC.seq' ?_
  refine GC.seq' ?_
  refine GC.region ?_
  refine GL.pure rfl (p_move rfl) ?_
  refine GL.pure rfl (p_rem rfl rfl (by decide) rfl) ?_
  refine GL.pure rfl (p_eql rfl rfl) ?_
  refine GL.nil (?_ : GC _ _ _ _)
  refine GC.cond rfl (fun h1 => ?_) (fun h1 => ?_)
  · try simp only [decide_eq_true_eq, decide_eq_false_iff_not, Bool.not_eq_true', Bool.not_eq_false', Bool.not_true, Bool.not_false, Bool.not_not, ne_eq, Decidable.not_not, Int.not_lt, Int.not_le, gt_iff_lt, ge_iff_le, bool_true_eq_, bool_false_eq_] at h1
    refine GC.seq' ?_
    refine GC.region ?_
    refine GL.pure rfl (p_move rfl) ?_
    refine GL.pure rfl (p_half32 rfl rfl) ?_
    refine GL.pure rfl (p_xor32 (b := 2197175160#32) rfl rfl) ?_
    refine GL.pure rfl (p_assign rfl) ?_
    refine GL.nil (?_ : GC _ _ _ _)
    refine GC.ret ?_
    refine fun a w h => Fin.back (rs := [.tmp 2]) (vs := [_]) (is := []) (js := []) rfl ⟨rfl, trivial⟩ rfl rfl ?_ h
    clear h
    have e := (odd32 s).1 h1
    exact ⟨by simp only [stepB, e, if_true]; rfl, rfl, rfl⟩
  · try simp only [decide_eq_true_eq, decide_eq_false_iff_not, Bool.not_eq_true', Bool.not_eq_false', Bool.not_true, Bool.not_false, Bool.not_not, ne_eq, Decidable.not_not, Int.not_lt, Int.not_le, gt_iff_lt, ge_iff_le, bool_true_eq_, bool_false_eq_] at h1
    refine GC.skip (?_ : GC _ _ _ _)
    refine GC.seq' ?_
    refine GC.region ?_
    refine GL.pure rfl (p_move rfl) ?_
    refine GL.pure rfl (p_half32 rfl rfl) ?_
    refine GL.pure rfl (p_assign rfl) ?_
    refine GL.nil (?_ : GC _ _ _ _)
    refine GC.ret ?_
    refine fun a w h => Fin.back (rs := [.tmp 2]) (vs := [_]) (is := []) (js := []) rfl ⟨rfl, trivial⟩ rfl rfl ?_ h
    clear h
    have e : ¬ s.getLsbD 0 = true := fun g => h1 ((odd32 s).2 g)
    exact ⟨by simp only [stepB, if_neg e]; rfl, rfl, rfl⟩
theorem nib_nth {x : BitVec 32} (h : x.toNat < 16) : nth (nibT.map w32) ((x.toNat : Int).toNat * 1) = some (w32 (nibB x)) := by
  rw [nth_eq, List.getElem?_map, Nat.mul_one, Int.toNat_natCast]
  have hl : nibT.length = 16 := rfl
  rw [List.getElem?_eq_getElem (by omega)]
  unfold nibB
  rw [List.getD_eq_getElem?_getD, List.getElem?_eq_getElem (by omega)]
  rfl
theorem nib_ct (x : BitVec 32) (h : x.toNat < 16) : Ct Try.prog 56 [w32 x] [] [] (fun u G Q => u = w32 (nibB x) ∧ G = [] ∧ Q = []) := by
  refine Ct.intro Try.func56 rfl rfl rfl (fun c hc => ?_)
  refine GC.seq' ?_
  refine GC.region ?_
  refine GL.pure rfl (p_assign rfl) ?_
  refine GL.nil (?_ : GC _ _ _ _)
  refine GC.seq' ?_
  refine GC.region ?_
  refine GL.pure rfl (p_buildA Try.underlying97 sz_62 ze_97 rfl rfl) ?_
  refine GL.pure rfl (p_move rfl) ?_
  refine GL.pure rfl (p_indexV rfl rfl Try.underlying97 sz_62 ag_62 (by omega) (by omega) (nib_nth h)) ?_
  refine GL.pure rfl (p_assign rfl) ?_
  refine GL.nil (?_ : GC _ _ _ _)
  refine GC.ret ?_
  refine fun a w h => Fin.back (rs := [.tmp 2]) (vs := [_]) (is := []) (js := []) rfl ⟨rfl, trivial⟩ rfl rfl ?_ h
  clear h
  exact ⟨rfl, rfl, rfl⟩
theorem and15 (s : BitVec 32) : (s &&& 15#32).toNat < 16 := by
  have : (s &&& 15#32).toNat = s.toNat % 16 := by
    rw [BitVec.toNat_and]; exact Nat.and_two_pow_sub_one_eq_mod s.toNat 4
  omega
end Go.Proofs.Ytihhpkbbhfcdcaa
