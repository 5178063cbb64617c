/- THE VOLUME: a volume that nobody made refuses all: the walk of the law. -/
import Derived.Test.YtihhpkbbhfcdcaaVn2
set_option linter.unusedVariables false
set_option linter.unusedSimpArgs false
set_option maxRecDepth 100000
namespace Go.Proofs.Ytihhpkbbhfcdcaa
open Go Go.Sx Go.Proofs
theorem volumeNobody_ct (o : OpD) (Bo : Option Addr) (cb : Nat) (Co : Option Addr) (cc : Nat) (i : Int) :
    Ct Try.prog 7 [opV o.kind o.at_ o.n Bo o.data.length cb Co o.old.length cc, .int .i64 i] [] [Pers.row Kd.u8 Bo o.data, Pers.row Kd.u8 Co o.old] (fun v G Q => v = .bool true ∧ G = [] ∧ Q = []) := by
  refine Ct.intro Try.func7 rfl rfl rfl (fun c hc => ?_)
  refine GC.seq' ?_
  refine GC.region ?_
  refine GL.step rfl (t_box rfl rfl rfl) (GL.ex fun b_t2 => ?_)
  refine GL.pure rfl (p_assign rfl) ?_
  refine GL.nil (?_ : GC _ _ _ _)
  refine GC.seq' ?_
  refine GC.region ?_
  refine GL.pure rfl (p_assign rfl) ?_
  refine GL.nil (?_ : GC _ _ _ _)
  refine GC.seq' ?_
  refine GC.seq' ?_
  refine GC.region ?_
  refine GL.pure rfl (p_move rfl) ?_
  refine GL.pure rfl (p_build ze_58 of_58 rfl rfl) ?_
  refine GL.step rfl (t_box rfl rfl rfl) (GL.ex fun b_t15 => ?_)
  refine GL.step rfl (t_buildSlice rfl Try.underlying59 sz_24 ze_24 rfl rfl rfl rfl rfl rfl) (GL.ex fun b_t16 => ?_)
  refine GL.pure rfl (p_len Try.underlying59 rfl) ?_
  refine GL.pure rfl (p_move rfl) ?_
  refine GL.nil (?_ : GC _ _ _ _)
  refine GC.block ?_
  refine GC.imp (fun a w h => (⟨by simp, h.cut (is := [2, 1, 0]) (js := []) ⟨rfl, rfl, rfl, rfl, rfl, trivial⟩ rfl rfl⟩ : (fun (y : Nat) (a : Act) (w : World) => y ≤ 2 ∧ St c 83 [(1, .int .i64 i), (2, .pointer (some ⟨b_t2, 0, none⟩)), (16, .slice (some ⟨b_t16, 0, none⟩) 2 2), (17, .int .i64 ((2 : Nat) : Int)), (18, .int .i64 (y : Int))] [.cells b_t2 [.int .u8 o.kind, .int .i64 o.at_, .int .i64 o.n, .slice Bo o.data.length cb, .slice Co o.old.length cc] 42, .cells b_t15 [.int .i64 0, .int .i64 0, .slice none 0 0, .slice none 0 0, .int .i64 0] 58, .cells b_t16 [.pointer none, .pointer (some ⟨b_t15, 0, none⟩)] 24] [] a w) 0 a w)) (GC.loop (fun (y : Nat) (a : Act) (w : World) => y ≤ 2 ∧ St c 83 [(1, .int .i64 i), (2, .pointer (some ⟨b_t2, 0, none⟩)), (16, .slice (some ⟨b_t16, 0, none⟩) 2 2), (17, .int .i64 ((2 : Nat) : Int)), (18, .int .i64 (y : Int))] [.cells b_t2 [.int .u8 o.kind, .int .i64 o.at_, .int .i64 o.n, .slice Bo o.data.length cb, .slice Co o.old.length cc] 42, .cells b_t15 [.int .i64 0, .int .i64 0, .slice none 0 0, .slice none 0 0, .int .i64 0] 58, .cells b_t16 [.pointer none, .pointer (some ⟨b_t15, 0, none⟩)] 24] [] a w) (fun y => 2 - y) 0 ?_)
  intro y
  refine GC.and fun hk => ?_
  refine GC.seq' ?_
  refine GC.region ?_
  refine GL.pure rfl (p_lss rfl rfl) ?_
  refine GL.nil (?_ : GC _ _ _ _)
  refine GC.seq' ?_
  refine GC.cond rfl (fun h1 => ?_) (fun h1 => ?_)
  · try simp only [decide_eq_true_eq, decide_eq_false_iff_not, Bool.not_eq_true', Bool.not_eq_false', Bool.not_true, Bool.not_false, Bool.not_not, ne_eq, Decidable.not_not, Int.not_lt, Int.not_le, gt_iff_lt, ge_iff_le, bool_true_eq_, bool_false_eq_] at h1
    first
    | (exfalso; first | omega | (simp at h1; done))
    | (skip
       refine GC.skip (?_ : GC _ _ _ _)
       refine GC.seq' ?_
       refine GC.block ?_
       refine GC.seq' ?_
       refine GC.region ?_
       have hy : y = 0 ∨ y = 1 := by omega
       rcases hy with rfl | rfl
       · skip
         refine GL.pure rfl (p_indexB rfl rfl Try.underlying59 sz_24 (by omega) (by omega)) ?_
         refine GL.step rfl (t_mem rfl (m_load (i := 2) rfl rfl ag_24 rfl)) ?_
         refine GL.pure rfl (p_assign rfl) ?_
         refine GL.nil (?_ : GC _ _ _ _)
         refine GC.seq' ?_
         refine GC.region ?_
         refine GL.pure rfl (p_move rfl) ?_
         refine GL.step rfl (t_mem rfl (m_loadN (i := 0) rfl rfl ag_42 (vs := [_, _, _, _, _]) sz_42 ⟨rfl, rfl, rfl, rfl, rfl, trivial⟩)) ?_
         refine GL.step rfl (t_call rfl fn_19 rfl (is := []) (js := []) rfl rfl (by exact ndo_ct _ _ _ _ _ _ _ _ _ _)) (GL.ret ?_)
         rintro _ _ _ ⟨rfl, rfl, rfl⟩
         refine GL.pure rfl (p_move rfl) ?_
         refine GL.pure rfl (p_extract rfl rfl) ?_
         refine GL.pure rfl (p_extract rfl rfl) ?_
         refine GL.step rfl (t_alloc rfl ze_49) (GL.ex fun b_t8 => ?_)
         refine GL.step rfl (t_storeN (i := 0) rfl rfl rfl sz_49 rfl rfl rfl) ?_
         refine GL.pure rfl (p_assign rfl) ?_
         refine GL.nil (?_ : GC _ _ _ _)
         refine GC.seq' ?_
         refine GC.region ?_
         refine GL.pure rfl (p_move rfl) ?_
         refine GL.pure rfl (p_move rfl) ?_
         refine GL.step rfl (t_call rfl fn_22 rfl (is := []) (js := []) rfl rfl (by exact nblock_ct _)) (GL.ret ?_)
         rintro _ _ _ ⟨rfl, rfl, rfl⟩
         refine GL.pure rfl (p_move rfl) ?_
         refine GL.pure rfl (p_extract rfl rfl) ?_
         refine GL.pure rfl (p_extract rfl rfl) ?_
         refine GL.pure rfl (p_extract rfl rfl) ?_
         refine GL.pure rfl (p_assign rfl) ?_
         refine GL.pure rfl (p_assign rfl) ?_
         refine GL.pure rfl (p_assign rfl) ?_
         refine GL.nil (?_ : GC _ _ _ _)
         refine GC.seq' ?_
         refine GC.regionQ wide_ (by kernel_rfl) ?_
         refine GQ.step rfl (q_pure (p_move rfl)) ?_
         refine GQ.step rfl (q_pure (p_neq rfl rfl)) ?_
         refine GQ.step rfl (q_pure (p_move rfl)) ?_
         refine GQ.stepG (s := 37) rfl rfl rfl (q_pure (p_move rfl)) ?_
         refine GQ.stepG (s := 37) rfl rfl rfl (q_pure (p_neq rfl rfl)) ?_
         refine GQ.step rfl (q_pure (p_pick_false rfl rfl)) ?_
         refine GQ.step rfl (q_pure (p_move rfl)) ?_
         refine GQ.stepG (s := 41) rfl rfl rfl (q_pure (p_move rfl)) ?_
         refine GQ.stepG (s := 41) rfl rfl rfl (q_call fn_21 rfl (js := []) rfl (by exact npatch_ct)) ?_
         refine GQ.stepG (s := 41) rfl rfl rfl (q_pure (p_neq rfl rfl)) ?_
         refine GQ.step rfl (q_pure (p_pick_false rfl rfl)) ?_
         refine GQ.step rfl (q_pure (p_move rfl)) ?_
         refine GQ.stepG (s := 46) rfl rfl rfl (q_pure (p_fieldAddr fo_49_0 rfl)) ?_
         refine GQ.stepG (s := 46) rfl rfl rfl (q_mem (m_load (i := 0) rfl rfl ag_47 rfl)) ?_
         refine GQ.stepG (s := 46) rfl rfl rfl (q_pure (p_neq rfl rfl)) ?_
         refine GQ.step rfl (q_pure (p_pick_false rfl rfl)) ?_
         refine GQ.step rfl (q_pure (p_move rfl)) ?_
         refine GQ.stepG (s := 51) rfl rfl rfl (q_pure (p_fieldAddr fo_49_1 rfl)) ?_
         refine GQ.stepG (s := 51) rfl rfl rfl (q_mem (m_load (i := 0) rfl rfl ag_31 rfl)) ?_
         refine GQ.stepG (s := 51) rfl rfl rfl (q_pure (p_len Try.underlying31 rfl)) ?_
         refine GQ.stepG (s := 51) rfl rfl rfl (q_pure (p_move rfl)) ?_
         refine GQ.stepG (s := 51) rfl rfl rfl (q_pure (p_len Try.underlying31 rfl)) ?_
         refine GQ.stepG (s := 51) rfl rfl rfl (q_pure (p_add rfl rfl (w64 (by omega) (by omega)))) ?_
         refine GQ.stepG (s := 51) rfl rfl rfl (q_pure (p_move rfl)) ?_
         refine GQ.stepG (s := 51) rfl rfl rfl (q_pure (p_add rfl rfl (w64 (by omega) (by omega)))) ?_
         refine GQ.stepG (s := 51) rfl rfl rfl (q_pure (p_move rfl)) ?_
         refine GQ.stepG (s := 51) rfl rfl rfl (q_call fn_13 rfl (js := []) rfl (by exact nbytes_ct)) ?_
         refine GQ.stepG (s := 51) rfl rfl rfl (q_pure (p_len Try.underlying31 rfl)) ?_
         refine GQ.stepG (s := 51) rfl rfl rfl (q_pure (p_add rfl rfl (w64 (by omega) (by omega)))) ?_
         refine GQ.stepG (s := 51) rfl rfl rfl (q_pure (p_move rfl)) ?_
         refine GQ.stepG (s := 51) rfl rfl rfl (q_call fn_14 rfl (js := []) rfl (by exact npages_ct _)) ?_
         refine GQ.stepG (s := 51) rfl rfl rfl (q_pure (p_len Try.underlying33 rfl)) ?_
         refine GQ.stepG (s := 51) rfl rfl rfl (q_pure (p_add rfl rfl (w64 (by omega) (by omega)))) ?_
         refine GQ.stepG (s := 51) rfl rfl rfl (q_pure (p_neq rfl rfl)) ?_
         refine GQ.step rfl (q_pure (p_pick_false rfl rfl)) ?_
         refine GQ.step rfl (q_pure (p_move rfl)) ?_
         refine GQ.split (i := 70) rfl (fun h2 => ?_) (fun h2 => ?_)
         · try simp only [decide_eq_true_eq, decide_eq_false_iff_not, Bool.not_eq_true', Bool.not_eq_false', Bool.not_true, Bool.not_false, Bool.not_not, ne_eq, Decidable.not_not, Int.not_lt, Int.not_le, gt_iff_lt, ge_iff_le, bool_true_eq_, bool_false_eq_] at h2
           first
           | (exfalso; first | omega | (simp at h2; done))
           | (skip
              refine GQ.pass (s := 70) rfl rfl rfl ?_
              refine GQ.pass (s := 70) rfl rfl rfl ?_
              refine GQ.pass (s := 70) rfl rfl rfl ?_
              refine GQ.step rfl (q_pure (p_pick_true rfl rfl)) ?_
              refine GQ.step rfl (q_pure (p_move rfl)) ?_
              refine GQ.pass (s := 75) rfl rfl rfl ?_
              refine GQ.pass (s := 75) rfl rfl rfl ?_
              refine GQ.pass (s := 75) rfl rfl rfl ?_
              refine GQ.pass (s := 75) rfl rfl rfl ?_
              refine GQ.step rfl (q_pure (p_pick_true rfl rfl)) ?_
              refine GQ.nil (?_ : GC _ _ _ _)
              refine GC.cond_true rfl ?_
              refine GC.seq' ?_
              refine GC.region ?_
              refine GL.pure rfl (p_assign rfl) ?_
              refine GL.nil (?_ : GC _ _ _ _)
              refine GC.ret ?_
              refine fun a w h => Fin.back (rs := [.tmp 4]) (vs := [_]) (is := []) (js := []) rfl ⟨rfl, trivial⟩ rfl rfl ?_ h
              clear h
              exact ⟨rfl, rfl, rfl⟩)
         · try simp only [decide_eq_true_eq, decide_eq_false_iff_not, Bool.not_eq_true', Bool.not_eq_false', Bool.not_true, Bool.not_false, Bool.not_not, ne_eq, Decidable.not_not, Int.not_lt, Int.not_le, gt_iff_lt, ge_iff_le, bool_true_eq_, bool_false_eq_] at h2
           first
           | (exfalso; first | omega | (simp at h2; done))
           | (skip
              refine GQ.stepG (s := 70) rfl rfl rfl (q_pure (p_move rfl)) ?_
              refine GQ.stepG (s := 70) rfl rfl rfl (q_call fn_23 rfl (js := []) rfl (by exact nsum_ct)) ?_
              refine GQ.stepG (s := 70) rfl rfl rfl (q_pure (p_neq rfl rfl)) ?_
              refine GQ.step rfl (q_pure (p_pick_false rfl rfl)) ?_
              refine GQ.step rfl (q_pure (p_move rfl)) ?_
              refine GQ.stepG (s := 75) rfl rfl rfl (q_pure (p_move rfl)) ?_
              refine GQ.stepG (s := 75) rfl rfl rfl (q_call fn_24 rfl (js := []) rfl (by exact nshape_ct)) ?_
              refine GQ.stepG (s := 75) rfl rfl rfl (q_pure (p_build ze_23 of_23 rfl rfl)) ?_
              refine GQ.stepG (s := 75) rfl rfl rfl (q_pure (p_shapeNeq rfl rfl)) ?_
              refine GQ.step rfl (q_pure (p_pick_false rfl rfl)) ?_
              refine GQ.nil (?_ : GC _ _ _ _)
              refine GC.cond_false rfl ?_
              refine GC.skip (?_ : GC _ _ _ _)
              refine GC.region ?_
              refine GL.pure rfl (p_add rfl rfl (w64 (by omega) (by omega))) ?_
              refine GL.pure rfl (p_move rfl) ?_
              refine GL.nil ?_
              exact fun a w h => ⟨(_ + 1), (by omega), (by omega), h.cut (is := [1, 1, 1]) (js := []) ⟨rfl, rfl, rfl, rfl, rfl, trivial⟩ rfl rfl⟩)
       · skip
         refine GL.pure rfl (p_indexB rfl rfl Try.underlying59 sz_24 (by omega) (by omega)) ?_
         refine GL.step rfl (t_mem rfl (m_load (i := 2) rfl rfl ag_24 rfl)) ?_
         refine GL.pure rfl (p_assign rfl) ?_
         refine GL.nil (?_ : GC _ _ _ _)
         refine GC.seq' ?_
         refine GC.region ?_
         refine GL.pure rfl (p_move rfl) ?_
         refine GL.step rfl (t_mem rfl (m_loadN (i := 0) rfl rfl ag_42 (vs := [_, _, _, _, _]) sz_42 ⟨rfl, rfl, rfl, rfl, rfl, trivial⟩)) ?_
         refine GL.step rfl (t_call rfl fn_19 rfl (is := [1]) (js := []) rfl rfl (by exact zdo_ct _ _ _ _ _ _ _ _ _ _ _)) (GL.ret ?_)
         rintro _ _ _ ⟨rfl, rfl, rfl⟩
         refine GL.pure rfl (p_move rfl) ?_
         refine GL.pure rfl (p_extract rfl rfl) ?_
         refine GL.pure rfl (p_extract rfl rfl) ?_
         refine GL.step rfl (t_alloc rfl ze_49) (GL.ex fun b_t8 => ?_)
         refine GL.step rfl (t_storeN (i := 0) rfl rfl rfl sz_49 rfl rfl rfl) ?_
         refine GL.pure rfl (p_assign rfl) ?_
         refine GL.nil (?_ : GC _ _ _ _)
         refine GC.seq' ?_
         refine GC.region ?_
         refine GL.pure rfl (p_move rfl) ?_
         refine GL.pure rfl (p_move rfl) ?_
         refine GL.step rfl (t_call rfl fn_22 rfl (is := [1]) (js := []) rfl rfl (by exact zblock_ct _ _)) (GL.ret ?_)
         rintro _ _ _ ⟨rfl, rfl, rfl⟩
         refine GL.pure rfl (p_move rfl) ?_
         refine GL.pure rfl (p_extract rfl rfl) ?_
         refine GL.pure rfl (p_extract rfl rfl) ?_
         refine GL.pure rfl (p_extract rfl rfl) ?_
         refine GL.pure rfl (p_assign rfl) ?_
         refine GL.pure rfl (p_assign rfl) ?_
         refine GL.pure rfl (p_assign rfl) ?_
         refine GL.nil (?_ : GC _ _ _ _)
         refine GC.seq' ?_
         refine GC.regionQ wide_ (by kernel_rfl) ?_
         refine GQ.step rfl (q_pure (p_move rfl)) ?_
         refine GQ.step rfl (q_pure (p_neq rfl rfl)) ?_
         refine GQ.step rfl (q_pure (p_move rfl)) ?_
         refine GQ.stepG (s := 37) rfl rfl rfl (q_pure (p_move rfl)) ?_
         refine GQ.stepG (s := 37) rfl rfl rfl (q_pure (p_neq rfl rfl)) ?_
         refine GQ.step rfl (q_pure (p_pick_false rfl rfl)) ?_
         refine GQ.step rfl (q_pure (p_move rfl)) ?_
         refine GQ.stepG (s := 41) rfl rfl rfl (q_pure (p_move rfl)) ?_
         refine GQ.stepG (s := 41) rfl rfl rfl (q_callO fn_21 rfl (is := [0]) (js := []) rfl rfl (by exact zpatch_ct _)) ?_
         refine GQ.stepG (s := 41) rfl rfl rfl (q_pure (p_neq rfl rfl)) ?_
         refine GQ.step rfl (q_pure (p_pick_false rfl rfl)) ?_
         refine GQ.step rfl (q_pure (p_move rfl)) ?_
         refine GQ.stepG (s := 46) rfl rfl rfl (q_pure (p_fieldAddr fo_49_0 rfl)) ?_
         refine GQ.stepG (s := 46) rfl rfl rfl (q_mem (m_load (i := 1) rfl rfl ag_47 rfl)) ?_
         refine GQ.stepG (s := 46) rfl rfl rfl (q_pure (p_neq rfl rfl)) ?_
         refine GQ.step rfl (q_pure (p_pick_false rfl rfl)) ?_
         refine GQ.step rfl (q_pure (p_move rfl)) ?_
         refine GQ.stepG (s := 51) rfl rfl rfl (q_pure (p_fieldAddr fo_49_1 rfl)) ?_
         refine GQ.stepG (s := 51) rfl rfl rfl (q_mem (m_load (i := 1) rfl rfl ag_31 rfl)) ?_
         refine GQ.stepG (s := 51) rfl rfl rfl (q_pure (p_len Try.underlying31 rfl)) ?_
         refine GQ.stepG (s := 51) rfl rfl rfl (q_pure (p_move rfl)) ?_
         refine GQ.stepG (s := 51) rfl rfl rfl (q_pure (p_len Try.underlying31 rfl)) ?_
         refine GQ.stepG (s := 51) rfl rfl rfl (q_pure (p_add rfl rfl (w64 (by omega) (by omega)))) ?_
         refine GQ.stepG (s := 51) rfl rfl rfl (q_pure (p_move rfl)) ?_
         refine GQ.stepG (s := 51) rfl rfl rfl (q_pure (p_add rfl rfl (w64 (by omega) (by omega)))) ?_
         refine GQ.stepG (s := 51) rfl rfl rfl (q_pure (p_move rfl)) ?_
         refine GQ.stepG (s := 51) rfl rfl rfl (q_callO fn_13 rfl (is := [0]) (js := []) rfl rfl (by exact zbytes_ct _)) ?_
         refine GQ.stepG (s := 51) rfl rfl rfl (q_pure (p_len Try.underlying31 rfl)) ?_
         refine GQ.stepG (s := 51) rfl rfl rfl (q_pure (p_add rfl rfl (w64 (by omega) (by omega)))) ?_
         refine GQ.stepG (s := 51) rfl rfl rfl (q_pure (p_move rfl)) ?_
         refine GQ.stepG (s := 51) rfl rfl rfl (q_callO fn_14 rfl (is := [0]) (js := []) rfl rfl (by exact zpages_ct _ _)) ?_
         refine GQ.stepG (s := 51) rfl rfl rfl (q_pure (p_len Try.underlying33 rfl)) ?_
         refine GQ.stepG (s := 51) rfl rfl rfl (q_pure (p_add rfl rfl (w64 (by omega) (by omega)))) ?_
         refine GQ.stepG (s := 51) rfl rfl rfl (q_pure (p_neq rfl rfl)) ?_
         refine GQ.step rfl (q_pure (p_pick_false rfl rfl)) ?_
         refine GQ.step rfl (q_pure (p_move rfl)) ?_
         refine GQ.split (i := 70) rfl (fun h3 => ?_) (fun h3 => ?_)
         · try simp only [decide_eq_true_eq, decide_eq_false_iff_not, Bool.not_eq_true', Bool.not_eq_false', Bool.not_true, Bool.not_false, Bool.not_not, ne_eq, Decidable.not_not, Int.not_lt, Int.not_le, gt_iff_lt, ge_iff_le, bool_true_eq_, bool_false_eq_] at h3
           first
           | (exfalso; first | omega | (simp at h3; done))
           | (skip
              refine GQ.pass (s := 70) rfl rfl rfl ?_
              refine GQ.pass (s := 70) rfl rfl rfl ?_
              refine GQ.pass (s := 70) rfl rfl rfl ?_
              refine GQ.step rfl (q_pure (p_pick_true rfl rfl)) ?_
              refine GQ.step rfl (q_pure (p_move rfl)) ?_
              refine GQ.pass (s := 75) rfl rfl rfl ?_
              refine GQ.pass (s := 75) rfl rfl rfl ?_
              refine GQ.pass (s := 75) rfl rfl rfl ?_
              refine GQ.pass (s := 75) rfl rfl rfl ?_
              refine GQ.step rfl (q_pure (p_pick_true rfl rfl)) ?_
              refine GQ.nil (?_ : GC _ _ _ _)
              refine GC.cond_true rfl ?_
              refine GC.seq' ?_
              refine GC.region ?_
              refine GL.pure rfl (p_assign rfl) ?_
              refine GL.nil (?_ : GC _ _ _ _)
              refine GC.ret ?_
              refine fun a w h => Fin.back (rs := [.tmp 4]) (vs := [_]) (is := []) (js := []) rfl ⟨rfl, trivial⟩ rfl rfl ?_ h
              clear h
              exact ⟨rfl, rfl, rfl⟩)
         · try simp only [decide_eq_true_eq, decide_eq_false_iff_not, Bool.not_eq_true', Bool.not_eq_false', Bool.not_true, Bool.not_false, Bool.not_not, ne_eq, Decidable.not_not, Int.not_lt, Int.not_le, gt_iff_lt, ge_iff_le, bool_true_eq_, bool_false_eq_] at h3
           first
           | (exfalso; first | omega | (simp at h3; done))
           | (skip
              refine GQ.stepG (s := 70) rfl rfl rfl (q_pure (p_move rfl)) ?_
              refine GQ.stepG (s := 70) rfl rfl rfl (q_callO fn_23 rfl (is := [0]) (js := []) rfl rfl (by exact zsum_ct _)) ?_
              refine GQ.stepG (s := 70) rfl rfl rfl (q_pure (p_neq rfl rfl)) ?_
              refine GQ.step rfl (q_pure (p_pick_false rfl rfl)) ?_
              refine GQ.step rfl (q_pure (p_move rfl)) ?_
              refine GQ.stepG (s := 75) rfl rfl rfl (q_pure (p_move rfl)) ?_
              refine GQ.stepG (s := 75) rfl rfl rfl (q_callO fn_24 rfl (is := [0]) (js := []) rfl rfl (by exact zshape_ct _)) ?_
              refine GQ.stepG (s := 75) rfl rfl rfl (q_pure (p_build ze_23 of_23 rfl rfl)) ?_
              refine GQ.stepG (s := 75) rfl rfl rfl (q_pure (p_shapeNeq rfl rfl)) ?_
              refine GQ.step rfl (q_pure (p_pick_false rfl rfl)) ?_
              refine GQ.nil (?_ : GC _ _ _ _)
              refine GC.cond_false rfl ?_
              refine GC.skip (?_ : GC _ _ _ _)
              refine GC.region ?_
              refine GL.pure rfl (p_add rfl rfl (w64 (by omega) (by omega))) ?_
              refine GL.pure rfl (p_move rfl) ?_
              refine GL.nil ?_
              exact fun a w h => ⟨(_ + 1), (by omega), (by omega), h.cut (is := [2, 0, 1]) (js := []) ⟨rfl, rfl, rfl, rfl, rfl, trivial⟩ rfl rfl⟩))
  · try simp only [decide_eq_true_eq, decide_eq_false_iff_not, Bool.not_eq_true', Bool.not_eq_false', Bool.not_true, Bool.not_false, Bool.not_not, ne_eq, Decidable.not_not, Int.not_lt, Int.not_le, gt_iff_lt, ge_iff_le, bool_true_eq_, bool_false_eq_] at h1
    first
    | (exfalso; first | omega | (simp at h1; done))
    | (skip
       refine GC.exit (?_ : GC _ _ _ _)
       refine GC.seq' ?_
       refine GC.region ?_
       refine GL.step rfl (t_call rfl fn_12 rfl (is := []) (js := []) rfl rfl (by exact awake_ct)) (GL.ret ?_)
       rintro _ _ _ ⟨rfl, rfl, rfl⟩
       refine GL.pure rfl (p_assign rfl) ?_
       refine GL.nil (?_ : GC _ _ _ _)
       refine GC.ret ?_
       refine fun a w h => Fin.back (rs := [.tmp 4]) (vs := [_]) (is := []) (js := []) rfl ⟨rfl, trivial⟩ rfl rfl ?_ h
       clear h
       exact ⟨rfl, rfl, rfl⟩)
end Go.Proofs.Ytihhpkbbhfcdcaa
