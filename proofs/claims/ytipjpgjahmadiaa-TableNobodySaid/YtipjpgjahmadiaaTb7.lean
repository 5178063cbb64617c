/- THE TABLE: a table that nobody made refuses all: the walk of the law. -/
import Derived.Test.YtipjpgjahmadiaaTb6
set_option linter.unusedVariables false
set_option linter.unusedSimpArgs false
set_option maxRecDepth 100000
namespace Go.Proofs.Ytipjpgjahmadiaa
open Go Go.Sx Go.Proofs
theorem tableNobody_ct (b : Bool) (cl se code : Int) (A : Option Addr) (xs : List UInt8) (cp : Nat) :
    Ct Try.prog 5 [.agg #[.bool b, .int .i64 cl, .int .i64 se, .int .u8 code, .slice A xs.length cp]] [] [Pers.row Kd.u8 A xs] (fun v G Q => v = .bool true ∧ G = [] ∧ Q = []) := by
  refine Ct.intro Try.func5 rfl rfl rfl (fun c hc => ?_)
  refine GC.seq' ?_
  refine GC.region ?_
  refine GL.step rfl (t_box rfl rfl rfl) (GL.ex fun b_t1 => ?_)
  refine GL.pure rfl (p_assign rfl) ?_
  refine GL.nil (?_ : GC _ _ _ _)
  refine GC.seq' ?_
  refine GC.region ?_
  refine GL.pure rfl (p_assign rfl) ?_
  refine GL.nil (?_ : GC _ _ _ _)
  refine GC.seq' ?_
  refine GC.seq' ?_
  refine GC.region ?_
  refine GL.pure rfl (p_move rfl) ?_
  refine GL.pure rfl (p_build ze_43 of_43 rfl rfl) ?_
  refine GL.step rfl (t_box rfl rfl rfl) (GL.ex fun b_t13 => ?_)
  refine GL.step rfl (t_buildSlice rfl Try.underlying44 sz_24 ze_24 rfl rfl rfl rfl rfl rfl) (GL.ex fun b_t14 => ?_)
  refine GL.pure rfl (p_len Try.underlying44 rfl) ?_
  refine GL.pure rfl (p_move rfl) ?_
  refine GL.nil (?_ : GC _ _ _ _)
  refine GC.block ?_
  refine GC.loopK1 (ks := [1, 14, 15]) (is := [0, 1, 2]) (js := [0]) (fun (y : Nat) => y ≤ 2) (fun (y : Nat) => [(16, .int .i64 (y : Int))]) (fun (y : Nat) => []) (fun (y : Nat) => []) (fun (y : Nat) => 2 - y) (0) rfl rfl rfl (fun a w h => ⟨by omega, h.cutK (is := [0, 0, 0]) (js := [0]) (ks := [1, 14, 15]) (by exact ⟨rfl, trivial⟩) rfl rfl rfl⟩) ?_
  intro y hk
  try dsimp only [List.cons_append, List.nil_append] at hk ⊢
  refine GC.seq' ?_
  refine GC.region ?_
  refine GL.pure rfl (p_lss rfl rfl) ?_
  refine GL.nil (?_ : GC _ _ _ _)
  refine GC.seq' ?_
  refine GC.cond rfl (fun h1 => ?_) (fun h1 => ?_)
  · try simp only [decide_eq_true_eq, decide_eq_false_iff_not, Bool.not_eq_true', Bool.not_eq_false', Bool.not_true, Bool.not_false, Bool.not_not, ne_eq, Decidable.not_not, Int.not_lt, Int.not_le, gt_iff_lt, ge_iff_le, bool_true_eq_, bool_false_eq_] at h1
    first
    | (exfalso; first | omega | (simp at h1; done))
    | (skip
       refine GC.skip (?_ : GC _ _ _ _)
       refine GC.seq' ?_
       refine GC.block ?_
       refine GC.seq' ?_
       refine GC.region ?_
       have hy : y = 0 ∨ y = 1 := by omega
       rcases hy with rfl | rfl
       · skip
         refine GL.pure rfl (p_indexB rfl rfl Try.underlying44 sz_24 (by omega) (by omega)) ?_
         refine GL.step rfl (t_mem rfl (m_load (i := 0) rfl rfl ag_24 rfl)) ?_
         refine GL.pure rfl (p_assign rfl) ?_
         refine GL.nil (?_ : GC _ _ _ _)
         refine GC.seq' ?_
         refine GC.region ?_
         refine GL.pure rfl (p_move rfl) ?_
         refine GL.pure rfl (p_fieldAddr fo_31_1 rfl) ?_
         refine GL.step rfl (t_mem rfl (m_load (i := 2) rfl rfl ag_3 rfl)) ?_
         refine GL.pure rfl (p_fieldAddr fo_31_2 rfl) ?_
         refine GL.step rfl (t_mem rfl (m_load (i := 2) rfl rfl ag_3 rfl)) ?_
         refine GL.step rfl (t_call rfl fn_11 rfl (is := []) (js := []) rfl rfl (by exact nask_ct _ _)) (GL.ret ?_)
         rintro _ _ _ ⟨rfl, rfl, rfl⟩
         refine GL.pure rfl (p_move rfl) ?_
         refine GL.pure rfl (p_extract rfl rfl) ?_
         refine GL.pure rfl (p_extract rfl rfl) ?_
         refine GL.pure rfl (p_extract rfl rfl) ?_
         refine GL.step rfl (t_alloc rfl ze_29) (GL.ex fun b_t7 => ?_)
         refine GL.pure rfl (p_assign rfl) ?_
         refine GL.step rfl (t_storeN (i := 0) rfl rfl rfl sz_29 rfl rfl rfl) ?_
         refine GL.pure rfl (p_assign rfl) ?_
         refine GL.nil (?_ : GC _ _ _ _)
         refine GC.seq' ?_
         refine GC.region ?_
         refine GL.pure rfl (p_move rfl) ?_
         refine GL.pure rfl (p_fieldAddr fo_31_1 rfl) ?_
         refine GL.step rfl (t_mem rfl (m_load (i := 3) rfl rfl ag_3 rfl)) ?_
         refine GL.step rfl (t_call rfl fn_14 rfl (is := []) (js := []) rfl rfl (by exact nlast_ct _)) (GL.ret ?_)
         rintro _ _ _ ⟨rfl, rfl, rfl⟩
         refine GL.pure rfl (p_move rfl) ?_
         refine GL.pure rfl (p_extract rfl rfl) ?_
         refine GL.pure rfl (p_extract rfl rfl) ?_
         refine GL.pure rfl (p_assign rfl) ?_
         refine GL.pure rfl (p_assign rfl) ?_
         refine GL.nil (?_ : GC _ _ _ _)
         refine GC.seq' ?_
         refine GC.region ?_
         refine GL.pure rfl (p_move rfl) ?_
         refine GL.pure rfl (p_neq rfl rfl) ?_
         refine GL.pure rfl (p_move rfl) ?_
         refine GL.pureG (s := 39) rfl rfl rfl (p_move rfl) ?_
         refine GL.pureG (s := 39) rfl rfl rfl (p_fieldAddr fo_31_1 rfl) ?_
         refine GL.stepG rfl (s := 39) rfl rfl (t_mem rfl (m_load (i := 3) rfl rfl ag_3 rfl)) ?_
         refine GL.pureG (s := 39) rfl rfl rfl (p_fieldAddr fo_31_2 rfl) ?_
         refine GL.stepG rfl (s := 39) rfl rfl (t_mem rfl (m_load (i := 3) rfl rfl ag_3 rfl)) ?_
         refine GL.pureG (s := 39) rfl rfl rfl (p_fieldAddr fo_31_3 rfl) ?_
         refine GL.stepG rfl (s := 39) rfl rfl (t_mem rfl (m_loadN (i := 3) rfl rfl ag_29 (vs := [_, _]) sz_29 ⟨rfl, rfl, trivial⟩)) ?_
         refine GL.stepG rfl (s := 39) rfl rfl (t_call rfl fn_10 rfl (is := []) (js := []) rfl rfl (by exact nput_ct _ _ _ _ _ _)) (GL.ret ?_)
         rintro _ _ _ ⟨rfl, rfl, rfl⟩
         refine GL.pureG (s := 39) rfl rfl rfl (p_neq rfl rfl) ?_
         refine GL.pure rfl (p_pick_false rfl rfl) ?_
         refine GL.pure rfl (p_move rfl) ?_
         refine GL.pureG (s := 50) rfl rfl rfl (p_move rfl) ?_
         refine GL.pureG (s := 50) rfl rfl rfl (p_neq rfl rfl) ?_
         refine GL.pure rfl (p_pick_false rfl rfl) ?_
         refine GL.pure rfl (p_move rfl) ?_
         refine GL.pureG (s := 54) rfl rfl rfl (p_fieldAddr fo_29_0 rfl) ?_
         refine GL.stepG rfl (s := 54) rfl rfl (t_mem rfl (m_load (i := 0) rfl rfl ag_26 rfl)) ?_
         refine GL.pureG (s := 54) rfl rfl rfl (p_neq rfl rfl) ?_
         refine GL.pure rfl (p_pick_false rfl rfl) ?_
         refine GL.pure rfl (p_move rfl) ?_
         refine GL.pureG (s := 59) rfl rfl rfl (p_move rfl) ?_
         refine GL.pure rfl (p_pick_false rfl rfl) ?_
         refine GL.pure rfl (p_move rfl) ?_
         refine GL.pureG (s := 62) rfl rfl rfl (p_move rfl) ?_
         refine GL.pureG (s := 62) rfl rfl rfl (p_move rfl) ?_
         refine GL.stepG rfl (s := 62) rfl rfl (t_call rfl fn_15 rfl (is := []) (js := []) rfl rfl (by exact nrows_ct)) (GL.ret ?_)
         rintro _ _ _ ⟨rfl, rfl, rfl⟩
         refine GL.pureG (s := 62) rfl rfl rfl (p_len Try.underlying47 rfl) ?_
         refine GL.pureG (s := 62) rfl rfl rfl (p_add rfl rfl (w64 (by omega) (by omega))) ?_
         refine GL.pureG (s := 62) rfl rfl rfl (p_move rfl) ?_
         refine GL.stepG rfl (s := 62) rfl rfl (t_call rfl fn_13 rfl (is := []) (js := []) rfl rfl (by exact nlen_ct)) (GL.ret ?_)
         rintro _ _ _ ⟨rfl, rfl, rfl⟩
         refine GL.pureG (s := 62) rfl rfl rfl (p_add rfl rfl (w64 (by omega) (by omega))) ?_
         refine GL.pureG (s := 62) rfl rfl rfl (p_neq rfl rfl) ?_
         refine GL.pure rfl (p_pick_false rfl rfl) ?_
         refine GL.nil (?_ : GC _ _ _ _)
         refine GC.cond rfl (fun h2 => ?_) (fun h2 => ?_)
         · try simp only [decide_eq_true_eq, decide_eq_false_iff_not, Bool.not_eq_true', Bool.not_eq_false', Bool.not_true, Bool.not_false, Bool.not_not, ne_eq, Decidable.not_not, Int.not_lt, Int.not_le, gt_iff_lt, ge_iff_le, bool_true_eq_, bool_false_eq_] at h2
           first
           | (exfalso; first | omega | (simp at h2; done))
           | (skip
              refine GC.seq' ?_
              refine GC.region ?_
              refine GL.pure rfl (p_assign rfl) ?_
              refine GL.nil (?_ : GC _ _ _ _)
              refine GC.ret ?_
              refine fun a w h => Fin.back (rs := [.tmp 2]) (vs := [_]) (is := []) (js := []) rfl ⟨rfl, trivial⟩ rfl rfl ?_ h
              clear h
              exact ⟨rfl, rfl, rfl⟩)
         · try simp only [decide_eq_true_eq, decide_eq_false_iff_not, Bool.not_eq_true', Bool.not_eq_false', Bool.not_true, Bool.not_false, Bool.not_not, ne_eq, Decidable.not_not, Int.not_lt, Int.not_le, gt_iff_lt, ge_iff_le, bool_true_eq_, bool_false_eq_] at h2
           first
           | (exfalso; first | omega | (simp at h2; done))
           | (skip
              refine GC.skip (?_ : GC _ _ _ _)
              refine GC.region ?_
              refine GL.pure rfl (p_add rfl rfl (w64 (by omega) (by omega))) ?_
              refine GL.pure rfl (p_move rfl) ?_
              refine GL.nil ?_
              exact fun a w h => ⟨(_ + 1), (by omega), by omega, h.cut (is := [1, 1, 1]) (js := [0]) ⟨rfl, rfl, rfl, rfl, trivial⟩ rfl rfl⟩)
       · skip
         refine GL.pure rfl (p_indexB rfl rfl Try.underlying44 sz_24 (by omega) (by omega)) ?_
         refine GL.step rfl (t_mem rfl (m_load (i := 0) rfl rfl ag_24 rfl)) ?_
         refine GL.pure rfl (p_assign rfl) ?_
         refine GL.nil (?_ : GC _ _ _ _)
         refine GC.seq' ?_
         refine GC.region ?_
         refine GL.pure rfl (p_move rfl) ?_
         refine GL.pure rfl (p_fieldAddr fo_31_1 rfl) ?_
         refine GL.step rfl (t_mem rfl (m_load (i := 2) rfl rfl ag_3 rfl)) ?_
         refine GL.pure rfl (p_fieldAddr fo_31_2 rfl) ?_
         refine GL.step rfl (t_mem rfl (m_load (i := 2) rfl rfl ag_3 rfl)) ?_
         refine GL.step rfl (t_call rfl fn_11 rfl (is := [1]) (js := []) rfl rfl (by exact zask_ct _ _ _)) (GL.ret ?_)
         rintro _ _ _ ⟨rfl, rfl, rfl⟩
         refine GL.pure rfl (p_move rfl) ?_
         refine GL.pure rfl (p_extract rfl rfl) ?_
         refine GL.pure rfl (p_extract rfl rfl) ?_
         refine GL.pure rfl (p_extract rfl rfl) ?_
         refine GL.step rfl (t_alloc rfl ze_29) (GL.ex fun b_t7 => ?_)
         refine GL.pure rfl (p_assign rfl) ?_
         refine GL.step rfl (t_storeN (i := 0) rfl rfl rfl sz_29 rfl rfl rfl) ?_
         refine GL.pure rfl (p_assign rfl) ?_
         refine GL.nil (?_ : GC _ _ _ _)
         refine GC.seq' ?_
         refine GC.region ?_
         refine GL.pure rfl (p_move rfl) ?_
         refine GL.pure rfl (p_fieldAddr fo_31_1 rfl) ?_
         refine GL.step rfl (t_mem rfl (m_load (i := 3) rfl rfl ag_3 rfl)) ?_
         refine GL.step rfl (t_call rfl fn_14 rfl (is := [1]) (js := []) rfl rfl (by exact zlast_ct _ _)) (GL.ret ?_)
         rintro _ _ _ ⟨rfl, rfl, rfl⟩
         refine GL.pure rfl (p_move rfl) ?_
         refine GL.pure rfl (p_extract rfl rfl) ?_
         refine GL.pure rfl (p_extract rfl rfl) ?_
         refine GL.pure rfl (p_assign rfl) ?_
         refine GL.pure rfl (p_assign rfl) ?_
         refine GL.nil (?_ : GC _ _ _ _)
         refine GC.seq' ?_
         refine GC.region ?_
         refine GL.pure rfl (p_move rfl) ?_
         refine GL.pure rfl (p_neq rfl rfl) ?_
         refine GL.pure rfl (p_move rfl) ?_
         refine GL.pureG (s := 39) rfl rfl rfl (p_move rfl) ?_
         refine GL.pureG (s := 39) rfl rfl rfl (p_fieldAddr fo_31_1 rfl) ?_
         refine GL.stepG rfl (s := 39) rfl rfl (t_mem rfl (m_load (i := 3) rfl rfl ag_3 rfl)) ?_
         refine GL.pureG (s := 39) rfl rfl rfl (p_fieldAddr fo_31_2 rfl) ?_
         refine GL.stepG rfl (s := 39) rfl rfl (t_mem rfl (m_load (i := 3) rfl rfl ag_3 rfl)) ?_
         refine GL.pureG (s := 39) rfl rfl rfl (p_fieldAddr fo_31_3 rfl) ?_
         refine GL.stepG rfl (s := 39) rfl rfl (t_mem rfl (m_loadN (i := 3) rfl rfl ag_29 (vs := [_, _]) sz_29 ⟨rfl, rfl, trivial⟩)) ?_
         refine GL.stepG rfl (s := 39) rfl rfl (t_call rfl fn_10 rfl (is := [0]) (js := []) rfl rfl (by exact zput_ct _ _ _ _ _ _ _)) (GL.ret ?_)
         rintro _ _ _ ⟨rfl, rfl, rfl⟩
         refine GL.pureG (s := 39) rfl rfl rfl (p_neq rfl rfl) ?_
         refine GL.pure rfl (p_pick_false rfl rfl) ?_
         refine GL.pure rfl (p_move rfl) ?_
         refine GL.pureG (s := 50) rfl rfl rfl (p_move rfl) ?_
         refine GL.pureG (s := 50) rfl rfl rfl (p_neq rfl rfl) ?_
         refine GL.pure rfl (p_pick_false rfl rfl) ?_
         refine GL.pure rfl (p_move rfl) ?_
         refine GL.pureG (s := 54) rfl rfl rfl (p_fieldAddr fo_29_0 rfl) ?_
         refine GL.stepG rfl (s := 54) rfl rfl (t_mem rfl (m_load (i := 1) rfl rfl ag_26 rfl)) ?_
         refine GL.pureG (s := 54) rfl rfl rfl (p_neq rfl rfl) ?_
         refine GL.pure rfl (p_pick_false rfl rfl) ?_
         refine GL.pure rfl (p_move rfl) ?_
         refine GL.pureG (s := 59) rfl rfl rfl (p_move rfl) ?_
         refine GL.pure rfl (p_pick_false rfl rfl) ?_
         refine GL.pure rfl (p_move rfl) ?_
         refine GL.pureG (s := 62) rfl rfl rfl (p_move rfl) ?_
         refine GL.pureG (s := 62) rfl rfl rfl (p_move rfl) ?_
         refine GL.stepG rfl (s := 62) rfl rfl (t_call rfl fn_15 rfl (is := [0]) (js := []) rfl rfl (by exact zrows_ct _)) (GL.ret ?_)
         rintro _ _ _ ⟨rfl, rfl, rfl⟩
         refine GL.pureG (s := 62) rfl rfl rfl (p_len Try.underlying47 rfl) ?_
         refine GL.pureG (s := 62) rfl rfl rfl (p_add rfl rfl (w64 (by omega) (by omega))) ?_
         refine GL.pureG (s := 62) rfl rfl rfl (p_move rfl) ?_
         refine GL.stepG rfl (s := 62) rfl rfl (t_call rfl fn_13 rfl (is := [0]) (js := []) rfl rfl (by exact zlen_ct _)) (GL.ret ?_)
         rintro _ _ _ ⟨rfl, rfl, rfl⟩
         refine GL.pureG (s := 62) rfl rfl rfl (p_add rfl rfl (w64 (by omega) (by omega))) ?_
         refine GL.pureG (s := 62) rfl rfl rfl (p_neq rfl rfl) ?_
         refine GL.pure rfl (p_pick_false rfl rfl) ?_
         refine GL.nil (?_ : GC _ _ _ _)
         refine GC.cond rfl (fun h3 => ?_) (fun h3 => ?_)
         · try simp only [decide_eq_true_eq, decide_eq_false_iff_not, Bool.not_eq_true', Bool.not_eq_false', Bool.not_true, Bool.not_false, Bool.not_not, ne_eq, Decidable.not_not, Int.not_lt, Int.not_le, gt_iff_lt, ge_iff_le, bool_true_eq_, bool_false_eq_] at h3
           first
           | (exfalso; first | omega | (simp at h3; done))
           | (skip
              refine GC.seq' ?_
              refine GC.region ?_
              refine GL.pure rfl (p_assign rfl) ?_
              refine GL.nil (?_ : GC _ _ _ _)
              refine GC.ret ?_
              refine fun a w h => Fin.back (rs := [.tmp 2]) (vs := [_]) (is := []) (js := []) rfl ⟨rfl, trivial⟩ rfl rfl ?_ h
              clear h
              exact ⟨rfl, rfl, rfl⟩)
         · try simp only [decide_eq_true_eq, decide_eq_false_iff_not, Bool.not_eq_true', Bool.not_eq_false', Bool.not_true, Bool.not_false, Bool.not_not, ne_eq, Decidable.not_not, Int.not_lt, Int.not_le, gt_iff_lt, ge_iff_le, bool_true_eq_, bool_false_eq_] at h3
           first
           | (exfalso; first | omega | (simp at h3; done))
           | (skip
              refine GC.skip (?_ : GC _ _ _ _)
              refine GC.region ?_
              refine GL.pure rfl (p_add rfl rfl (w64 (by omega) (by omega))) ?_
              refine GL.pure rfl (p_move rfl) ?_
              refine GL.nil ?_
              exact fun a w h => ⟨(_ + 1), (by omega), by omega, h.cut (is := [2, 0, 1]) (js := [0]) ⟨rfl, rfl, rfl, rfl, trivial⟩ rfl rfl⟩))
  · try simp only [decide_eq_true_eq, decide_eq_false_iff_not, Bool.not_eq_true', Bool.not_eq_false', Bool.not_true, Bool.not_false, Bool.not_not, ne_eq, Decidable.not_not, Int.not_lt, Int.not_le, gt_iff_lt, ge_iff_le, bool_true_eq_, bool_false_eq_] at h1
    first
    | (exfalso; first | omega | (simp at h1; done))
    | (skip
       refine GC.exit (?_ : GC _ _ _ _)
       refine GC.seq' ?_
       refine GC.region ?_
       refine GL.step rfl (t_call rfl fn_8 rfl (is := []) (js := []) rfl rfl (by exact awake_ct)) (GL.ret ?_)
       rintro _ _ _ ⟨rfl, rfl, rfl⟩
       refine GL.pure rfl (p_assign rfl) ?_
       refine GL.nil (?_ : GC _ _ _ _)
       refine GC.ret ?_
       refine fun a w h => Fin.back (rs := [.tmp 2]) (vs := [_]) (is := []) (js := []) rfl ⟨rfl, trivial⟩ rfl rfl ?_ h
       clear h
       exact ⟨rfl, rfl, rfl⟩)
end Go.Proofs.Ytipjpgjahmadiaa
