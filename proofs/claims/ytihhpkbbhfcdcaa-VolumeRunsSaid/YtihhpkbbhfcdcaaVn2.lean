/- THE VOLUME: a volume that nobody made: contracts. -/
import Derived.Test.YtihhpkbbhfcdcaaVn1
set_option linter.unusedVariables false
set_option linter.unusedSimpArgs false
set_option maxRecDepth 100000
namespace Go.Proofs.Ytihhpkbbhfcdcaa
open Go Go.Sx Go.Proofs
/-- What a volume that nobody made is: nothing, or zero. -/
abbrev zG (p : Nat) : List Own := [.cells p [.int .i64 0, .int .i64 0, .slice none 0 0, .slice none 0 0, .int .i64 0] 58]
theorem nmade_ct : Ct Try.prog 27 [.pointer none] [] [] (fun u G Q => u = .bool false ∧ G = [] ∧ Q = []) := by
  refine Ct.intro Try.func27 rfl rfl rfl (fun c hc => ?_)
  refine GC.seq' ?_
  refine GC.region ?_
  refine GL.pure rfl (p_assign rfl) ?_
  refine GL.nil (?_ : GC _ _ _ _)
  refine GC.seq' ?_
  refine GC.region ?_
  refine GL.pure rfl (p_move rfl) ?_
  refine GL.pure rfl (p_pnil_neq Try.underlying24 rfl rfl) ?_
  refine GL.pure rfl (p_move rfl) ?_
  refine GL.pass (s := 5) rfl rfl rfl ?_
  refine GL.pass (s := 5) rfl rfl rfl ?_
  refine GL.pass (s := 5) rfl rfl rfl ?_
  refine GL.pass (s := 5) rfl rfl rfl ?_
  refine GL.pass (s := 5) rfl rfl rfl ?_
  refine GL.pure rfl (p_pick_false rfl rfl) ?_
  refine GL.pure rfl (p_assign rfl) ?_
  refine GL.nil (?_ : GC _ _ _ _)
  refine GC.ret ?_
  refine fun a w h => Fin.back (rs := [.tmp 2]) (vs := [_]) (is := []) (js := []) rfl ⟨rfl, trivial⟩ rfl rfl ?_ h
  clear h
  exact ⟨rfl, rfl, rfl⟩
theorem zmade_ct (p : Nat) : Ct Try.prog 27 [.pointer (some ⟨p, 0, none⟩)] (zG p) [] (fun u G Q => u = .bool false ∧ G = zG p ∧ Q = []) := by
  refine Ct.intro Try.func27 rfl rfl rfl (fun c hc => ?_)
  refine GC.seq' ?_
  refine GC.region ?_
  refine GL.pure rfl (p_assign rfl) ?_
  refine GL.nil (?_ : GC _ _ _ _)
  refine GC.seq' ?_
  refine GC.region ?_
  refine GL.pure rfl (p_move rfl) ?_
  refine GL.pure rfl (p_pnil_neq Try.underlying24 rfl rfl) ?_
  refine GL.pure rfl (p_move rfl) ?_
  refine GL.pureG (s := 5) rfl rfl rfl (p_move rfl) ?_
  refine GL.pureG (s := 5) rfl rfl rfl (p_nilCheck rfl) ?_
  refine GL.pureG (s := 5) rfl rfl rfl (p_fieldAddr fo_58_1 rfl) ?_
  refine GL.stepG rfl (s := 5) rfl rfl (t_mem rfl (m_load (i := 0) rfl rfl ag_31 rfl)) ?_
  refine GL.pureG (s := 5) rfl rfl rfl (p_slnil_neq Try.underlying31 rfl rfl) ?_
  refine GL.pure rfl (p_pick_true rfl rfl) ?_
  refine GL.pure rfl (p_assign rfl) ?_
  refine GL.nil (?_ : GC _ _ _ _)
  refine GC.ret ?_
  refine fun a w h => Fin.back (rs := [.tmp 2]) (vs := [_]) (is := [0]) (js := []) rfl ⟨rfl, trivial⟩ rfl rfl ?_ h
  clear h
  exact ⟨rfl, rfl, rfl⟩
theorem ndo_ct (kind a_ n : Int) (A : Option Addr) (dl cp : Nat) (B : Option Addr) (ol cq : Nat) (num : Int) : Ct Try.prog 19 [.pointer none, opV kind a_ n A dl cp B ol cq, .int .i64 num] [] [] (fun u G Q => u = .tuple #[.agg #[.int .u8 0, .slice none 0 0], .int .i64 4] ∧ G = [] ∧ Q = []) := by
  refine Ct.intro Try.func19 rfl rfl rfl (fun c hc => ?_)
  refine GC.seq' ?_
  refine GC.region ?_
  refine GL.step rfl (t_box rfl rfl rfl) (GL.ex fun b_t4 => ?_)
  refine GL.step rfl (t_alloc rfl ze_49) (GL.ex fun b_t6 => ?_)
  refine GL.pure rfl (p_assign rfl) ?_
  refine GL.nil (?_ : GC _ _ _ _)
  refine GC.seq' ?_
  refine GC.seq' ?_
  refine GC.region ?_
  refine GL.pure rfl (p_move rfl) ?_
  refine GL.step rfl (t_call rfl fn_27 rfl (is := []) (js := []) rfl rfl (by exact nmade_ct)) (GL.ret ?_)
  rintro _ _ _ ⟨rfl, rfl, rfl⟩
  refine GL.pure rfl (p_not rfl) ?_
  refine GL.nil (?_ : GC _ _ _ _)
  refine GC.cond_true rfl ?_
  refine GC.seq' ?_
  refine GC.region ?_
  refine GL.pure rfl (p_build ze_49 of_49 rfl rfl) ?_
  refine GL.step rfl (t_storeN (i := 0) rfl rfl rfl sz_49 rfl rfl rfl) ?_
  refine GL.pure rfl (p_assign rfl) ?_
  refine GL.nil (?_ : GC _ _ _ _)
  refine GC.ret ?_
  refine fun a w h => Fin.back (rs := [.cell 6 49, .tmp 7]) (vs := [_, _]) (is := []) (js := []) rfl ⟨⟨0, _, _, _, _, rfl, rfl, .inr ⟨[_, _], rfl, ag_49, sz_49, ⟨rfl, rfl, trivial⟩⟩⟩, rfl, trivial⟩ rfl rfl ?_ h
  clear h
  exact ⟨rfl, rfl, rfl⟩
theorem zdo_ct (kind a_ n : Int) (A : Option Addr) (dl cp : Nat) (B : Option Addr) (ol cq : Nat) (num : Int) (p : Nat) : Ct Try.prog 19 [.pointer (some ⟨p, 0, none⟩), opV kind a_ n A dl cp B ol cq, .int .i64 num] (zG p) [] (fun u G Q => u = .tuple #[.agg #[.int .u8 0, .slice none 0 0], .int .i64 4] ∧ G = zG p ∧ Q = []) := by
  refine Ct.intro Try.func19 rfl rfl rfl (fun c hc => ?_)
  refine GC.seq' ?_
  refine GC.region ?_
  refine GL.step rfl (t_box rfl rfl rfl) (GL.ex fun b_t4 => ?_)
  refine GL.step rfl (t_alloc rfl ze_49) (GL.ex fun b_t6 => ?_)
  refine GL.pure rfl (p_assign rfl) ?_
  refine GL.nil (?_ : GC _ _ _ _)
  refine GC.seq' ?_
  refine GC.seq' ?_
  refine GC.region ?_
  refine GL.pure rfl (p_move rfl) ?_
  refine GL.step rfl (t_call rfl fn_27 rfl (is := [2]) (js := []) rfl rfl (by exact zmade_ct _)) (GL.ret ?_)
  rintro _ _ _ ⟨rfl, rfl, rfl⟩
  refine GL.pure rfl (p_not rfl) ?_
  refine GL.nil (?_ : GC _ _ _ _)
  refine GC.cond_true rfl ?_
  refine GC.seq' ?_
  refine GC.region ?_
  refine GL.pure rfl (p_build ze_49 of_49 rfl rfl) ?_
  refine GL.step rfl (t_storeN (i := 1) rfl rfl rfl sz_49 rfl rfl rfl) ?_
  refine GL.pure rfl (p_assign rfl) ?_
  refine GL.nil (?_ : GC _ _ _ _)
  refine GC.ret ?_
  refine fun a w h => Fin.back (rs := [.cell 6 49, .tmp 7]) (vs := [_, _]) (is := [0]) (js := []) rfl ⟨⟨1, _, _, _, _, rfl, rfl, .inr ⟨[_, _], rfl, ag_49, sz_49, ⟨rfl, rfl, trivial⟩⟩⟩, rfl, trivial⟩ rfl rfl ?_ h
  clear h
  exact ⟨rfl, rfl, rfl⟩
theorem nblock_ct (i : Int) : Ct Try.prog 22 [.pointer none, .int .i64 i] [] [] (fun u G Q => u = .tuple #[.slice none 0 0, .int .i64 0, .int .i64 4] ∧ G = [] ∧ Q = []) := by
  refine Ct.intro Try.func22 rfl rfl rfl (fun c hc => ?_)
  refine GC.seq' ?_
  refine GC.region ?_
  refine GL.pure rfl (p_assign rfl) ?_
  refine GL.pure rfl (p_assign rfl) ?_
  refine GL.pure rfl (p_assign rfl) ?_
  refine GL.nil (?_ : GC _ _ _ _)
  refine GC.seq' ?_
  refine GC.seq' ?_
  refine GC.region ?_
  refine GL.pure rfl (p_move rfl) ?_
  refine GL.step rfl (t_call rfl fn_27 rfl (is := []) (js := []) rfl rfl (by exact nmade_ct)) (GL.ret ?_)
  rintro _ _ _ ⟨rfl, rfl, rfl⟩
  refine GL.pure rfl (p_not rfl) ?_
  refine GL.nil (?_ : GC _ _ _ _)
  refine GC.cond_true rfl ?_
  refine GC.seq' ?_
  refine GC.region ?_
  refine GL.pure rfl (p_assign rfl) ?_
  refine GL.pure rfl (p_assign rfl) ?_
  refine GL.pure rfl (p_assign rfl) ?_
  refine GL.nil (?_ : GC _ _ _ _)
  refine GC.ret ?_
  refine fun a w h => Fin.back (rs := [.tmp 4, .tmp 5, .tmp 6]) (vs := [_, _, _]) (is := []) (js := []) rfl ⟨rfl, rfl, rfl, trivial⟩ rfl rfl ?_ h
  clear h
  exact ⟨rfl, rfl, rfl⟩
theorem zblock_ct (i : Int) (p : Nat) : Ct Try.prog 22 [.pointer (some ⟨p, 0, none⟩), .int .i64 i] (zG p) [] (fun u G Q => u = .tuple #[.slice none 0 0, .int .i64 0, .int .i64 4] ∧ G = zG p ∧ Q = []) := by
  refine Ct.intro Try.func22 rfl rfl rfl (fun c hc => ?_)
  refine GC.seq' ?_
  refine GC.region ?_
  refine GL.pure rfl (p_assign rfl) ?_
  refine GL.pure rfl (p_assign rfl) ?_
  refine GL.pure rfl (p_assign rfl) ?_
  refine GL.nil (?_ : GC _ _ _ _)
  refine GC.seq' ?_
  refine GC.seq' ?_
  refine GC.region ?_
  refine GL.pure rfl (p_move rfl) ?_
  refine GL.step rfl (t_call rfl fn_27 rfl (is := [0]) (js := []) rfl rfl (by exact zmade_ct _)) (GL.ret ?_)
  rintro _ _ _ ⟨rfl, rfl, rfl⟩
  refine GL.pure rfl (p_not rfl) ?_
  refine GL.nil (?_ : GC _ _ _ _)
  refine GC.cond_true rfl ?_
  refine GC.seq' ?_
  refine GC.region ?_
  refine GL.pure rfl (p_assign rfl) ?_
  refine GL.pure rfl (p_assign rfl) ?_
  refine GL.pure rfl (p_assign rfl) ?_
  refine GL.nil (?_ : GC _ _ _ _)
  refine GC.ret ?_
  refine fun a w h => Fin.back (rs := [.tmp 4, .tmp 5, .tmp 6]) (vs := [_, _, _]) (is := [0]) (js := []) rfl ⟨rfl, rfl, rfl, trivial⟩ rfl rfl ?_ h
  clear h
  exact ⟨rfl, rfl, rfl⟩
theorem npatch_ct : Ct Try.prog 21 [.pointer none, .slice none 0 0] [] [] (fun u G Q => u = .int .i64 4 ∧ G = [] ∧ Q = []) := by
  refine Ct.intro Try.func21 rfl rfl rfl (fun c hc => ?_)
  refine GC.seq' ?_
  refine GC.region ?_
  refine GL.pure rfl (p_assign rfl) ?_
  refine GL.nil (?_ : GC _ _ _ _)
  refine GC.seq' ?_
  refine GC.seq' ?_
  refine GC.region ?_
  refine GL.pure rfl (p_move rfl) ?_
  refine GL.step rfl (t_call rfl fn_27 rfl (is := []) (js := []) rfl rfl (by exact nmade_ct)) (GL.ret ?_)
  rintro _ _ _ ⟨rfl, rfl, rfl⟩
  refine GL.pure rfl (p_not rfl) ?_
  refine GL.nil (?_ : GC _ _ _ _)
  refine GC.cond_true rfl ?_
  refine GC.seq' ?_
  refine GC.region ?_
  refine GL.pure rfl (p_assign rfl) ?_
  refine GL.nil (?_ : GC _ _ _ _)
  refine GC.ret ?_
  refine fun a w h => Fin.back (rs := [.tmp 4]) (vs := [_]) (is := []) (js := []) rfl ⟨rfl, trivial⟩ rfl rfl ?_ h
  clear h
  exact ⟨rfl, rfl, rfl⟩
theorem zpatch_ct (p : Nat) : Ct Try.prog 21 [.pointer (some ⟨p, 0, none⟩), .slice none 0 0] (zG p) [] (fun u G Q => u = .int .i64 4 ∧ G = zG p ∧ Q = []) := by
  refine Ct.intro Try.func21 rfl rfl rfl (fun c hc => ?_)
  refine GC.seq' ?_
  refine GC.region ?_
  refine GL.pure rfl (p_assign rfl) ?_
  refine GL.nil (?_ : GC _ _ _ _)
  refine GC.seq' ?_
  refine GC.seq' ?_
  refine GC.region ?_
  refine GL.pure rfl (p_move rfl) ?_
  refine GL.step rfl (t_call rfl fn_27 rfl (is := [0]) (js := []) rfl rfl (by exact zmade_ct _)) (GL.ret ?_)
  rintro _ _ _ ⟨rfl, rfl, rfl⟩
  refine GL.pure rfl (p_not rfl) ?_
  refine GL.nil (?_ : GC _ _ _ _)
  refine GC.cond_true rfl ?_
  refine GC.seq' ?_
  refine GC.region ?_
  refine GL.pure rfl (p_assign rfl) ?_
  refine GL.nil (?_ : GC _ _ _ _)
  refine GC.ret ?_
  refine fun a w h => Fin.back (rs := [.tmp 4]) (vs := [_]) (is := [0]) (js := []) rfl ⟨rfl, trivial⟩ rfl rfl ?_ h
  clear h
  exact ⟨rfl, rfl, rfl⟩
theorem nbytes_ct : Ct Try.prog 13 [.pointer none] [] [] (fun u G Q => u = .slice none 0 0 ∧ G = [] ∧ Q = []) := by
  refine Ct.intro Try.func13 rfl rfl rfl (fun c hc => ?_)
  refine GC.seq' ?_
  refine GC.region ?_
  refine GL.pure rfl (p_assign rfl) ?_
  refine GL.nil (?_ : GC _ _ _ _)
  refine GC.seq' ?_
  refine GC.seq' ?_
  refine GC.region ?_
  refine GL.pure rfl (p_move rfl) ?_
  refine GL.step rfl (t_call rfl fn_27 rfl (is := []) (js := []) rfl rfl (by exact nmade_ct)) (GL.ret ?_)
  rintro _ _ _ ⟨rfl, rfl, rfl⟩
  refine GL.pure rfl (p_not rfl) ?_
  refine GL.nil (?_ : GC _ _ _ _)
  refine GC.cond_true rfl ?_
  refine GC.seq' ?_
  refine GC.region ?_
  refine GL.pure rfl (p_assign rfl) ?_
  refine GL.nil (?_ : GC _ _ _ _)
  refine GC.ret ?_
  refine fun a w h => Fin.back (rs := [.tmp 2]) (vs := [_]) (is := []) (js := []) rfl ⟨rfl, trivial⟩ rfl rfl ?_ h
  clear h
  exact ⟨rfl, rfl, rfl⟩
theorem zbytes_ct (p : Nat) : Ct Try.prog 13 [.pointer (some ⟨p, 0, none⟩)] (zG p) [] (fun u G Q => u = .slice none 0 0 ∧ G = zG p ∧ Q = []) := by
  refine Ct.intro Try.func13 rfl rfl rfl (fun c hc => ?_)
  refine GC.seq' ?_
  refine GC.region ?_
  refine GL.pure rfl (p_assign rfl) ?_
  refine GL.nil (?_ : GC _ _ _ _)
  refine GC.seq' ?_
  refine GC.seq' ?_
  refine GC.region ?_
  refine GL.pure rfl (p_move rfl) ?_
  refine GL.step rfl (t_call rfl fn_27 rfl (is := [0]) (js := []) rfl rfl (by exact zmade_ct _)) (GL.ret ?_)
  rintro _ _ _ ⟨rfl, rfl, rfl⟩
  refine GL.pure rfl (p_not rfl) ?_
  refine GL.nil (?_ : GC _ _ _ _)
  refine GC.cond_true rfl ?_
  refine GC.seq' ?_
  refine GC.region ?_
  refine GL.pure rfl (p_assign rfl) ?_
  refine GL.nil (?_ : GC _ _ _ _)
  refine GC.ret ?_
  refine fun a w h => Fin.back (rs := [.tmp 2]) (vs := [_]) (is := [0]) (js := []) rfl ⟨rfl, trivial⟩ rfl rfl ?_ h
  clear h
  exact ⟨rfl, rfl, rfl⟩
theorem npages_ct (since : Int) : Ct Try.prog 14 [.pointer none, .int .i64 since] [] [] (fun u G Q => u = .slice none 0 0 ∧ G = [] ∧ Q = []) := by
  refine Ct.intro Try.func14 rfl rfl rfl (fun c hc => ?_)
  refine GC.seq' ?_
  refine GC.region ?_
  refine GL.pure rfl (p_assign rfl) ?_
  refine GL.nil (?_ : GC _ _ _ _)
  refine GC.seq' ?_
  refine GC.seq' ?_
  refine GC.region ?_
  refine GL.pure rfl (p_move rfl) ?_
  refine GL.step rfl (t_call rfl fn_27 rfl (is := []) (js := []) rfl rfl (by exact nmade_ct)) (GL.ret ?_)
  rintro _ _ _ ⟨rfl, rfl, rfl⟩
  refine GL.pure rfl (p_not rfl) ?_
  refine GL.nil (?_ : GC _ _ _ _)
  refine GC.cond_true rfl ?_
  refine GC.seq' ?_
  refine GC.region ?_
  refine GL.pure rfl (p_assign rfl) ?_
  refine GL.nil (?_ : GC _ _ _ _)
  refine GC.ret ?_
  refine fun a w h => Fin.back (rs := [.tmp 4]) (vs := [_]) (is := []) (js := []) rfl ⟨rfl, trivial⟩ rfl rfl ?_ h
  clear h
  exact ⟨rfl, rfl, rfl⟩
theorem zpages_ct (since : Int) (p : Nat) : Ct Try.prog 14 [.pointer (some ⟨p, 0, none⟩), .int .i64 since] (zG p) [] (fun u G Q => u = .slice none 0 0 ∧ G = zG p ∧ Q = []) := by
  refine Ct.intro Try.func14 rfl rfl rfl (fun c hc => ?_)
  refine GC.seq' ?_
  refine GC.region ?_
  refine GL.pure rfl (p_assign rfl) ?_
  refine GL.nil (?_ : GC _ _ _ _)
  refine GC.seq' ?_
  refine GC.seq' ?_
  refine GC.region ?_
  refine GL.pure rfl (p_move rfl) ?_
  refine GL.step rfl (t_call rfl fn_27 rfl (is := [0]) (js := []) rfl rfl (by exact zmade_ct _)) (GL.ret ?_)
  rintro _ _ _ ⟨rfl, rfl, rfl⟩
  refine GL.pure rfl (p_not rfl) ?_
  refine GL.nil (?_ : GC _ _ _ _)
  refine GC.cond_true rfl ?_
  refine GC.seq' ?_
  refine GC.region ?_
  refine GL.pure rfl (p_assign rfl) ?_
  refine GL.nil (?_ : GC _ _ _ _)
  refine GC.ret ?_
  refine fun a w h => Fin.back (rs := [.tmp 4]) (vs := [_]) (is := [0]) (js := []) rfl ⟨rfl, trivial⟩ rfl rfl ?_ h
  clear h
  exact ⟨rfl, rfl, rfl⟩
theorem nsum_ct : Ct Try.prog 23 [.pointer none] [] [] (fun u G Q => u = .int .u32 0 ∧ G = [] ∧ Q = []) := by
  refine Ct.intro Try.func23 rfl rfl rfl (fun c hc => ?_)
  refine GC.seq' ?_
  refine GC.region ?_
  refine GL.pure rfl (p_assign rfl) ?_
  refine GL.nil (?_ : GC _ _ _ _)
  refine GC.seq' ?_
  refine GC.seq' ?_
  refine GC.region ?_
  refine GL.pure rfl (p_move rfl) ?_
  refine GL.step rfl (t_call rfl fn_27 rfl (is := []) (js := []) rfl rfl (by exact nmade_ct)) (GL.ret ?_)
  rintro _ _ _ ⟨rfl, rfl, rfl⟩
  refine GL.pure rfl (p_not rfl) ?_
  refine GL.nil (?_ : GC _ _ _ _)
  refine GC.cond_true rfl ?_
  refine GC.seq' ?_
  refine GC.region ?_
  refine GL.pure rfl (p_assign rfl) ?_
  refine GL.nil (?_ : GC _ _ _ _)
  refine GC.ret ?_
  refine fun a w h => Fin.back (rs := [.tmp 2]) (vs := [_]) (is := []) (js := []) rfl ⟨rfl, trivial⟩ rfl rfl ?_ h
  clear h
  exact ⟨rfl, rfl, rfl⟩
theorem zsum_ct (p : Nat) : Ct Try.prog 23 [.pointer (some ⟨p, 0, none⟩)] (zG p) [] (fun u G Q => u = .int .u32 0 ∧ G = zG p ∧ Q = []) := by
  refine Ct.intro Try.func23 rfl rfl rfl (fun c hc => ?_)
  refine GC.seq' ?_
  refine GC.region ?_
  refine GL.pure rfl (p_assign rfl) ?_
  refine GL.nil (?_ : GC _ _ _ _)
  refine GC.seq' ?_
  refine GC.seq' ?_
  refine GC.region ?_
  refine GL.pure rfl (p_move rfl) ?_
  refine GL.step rfl (t_call rfl fn_27 rfl (is := [0]) (js := []) rfl rfl (by exact zmade_ct _)) (GL.ret ?_)
  rintro _ _ _ ⟨rfl, rfl, rfl⟩
  refine GL.pure rfl (p_not rfl) ?_
  refine GL.nil (?_ : GC _ _ _ _)
  refine GC.cond_true rfl ?_
  refine GC.seq' ?_
  refine GC.region ?_
  refine GL.pure rfl (p_assign rfl) ?_
  refine GL.nil (?_ : GC _ _ _ _)
  refine GC.ret ?_
  refine fun a w h => Fin.back (rs := [.tmp 2]) (vs := [_]) (is := [0]) (js := []) rfl ⟨rfl, trivial⟩ rfl rfl ?_ h
  clear h
  exact ⟨rfl, rfl, rfl⟩
theorem nshape_ct : Ct Try.prog 24 [.pointer none] [] [] (fun u G Q => u = .agg #[.int .i64 0, .int .i64 0] ∧ G = [] ∧ Q = []) := by
  refine Ct.intro Try.func24 rfl rfl rfl (fun c hc => ?_)
  refine GC.seq' ?_
  refine GC.region ?_
  refine GL.step rfl (t_alloc rfl ze_23) (GL.ex fun b_t2 => ?_)
  refine GL.nil (?_ : GC _ _ _ _)
  refine GC.seq' ?_
  refine GC.seq' ?_
  refine GC.region ?_
  refine GL.pure rfl (p_move rfl) ?_
  refine GL.step rfl (t_call rfl fn_27 rfl (is := []) (js := []) rfl rfl (by exact nmade_ct)) (GL.ret ?_)
  rintro _ _ _ ⟨rfl, rfl, rfl⟩
  refine GL.pure rfl (p_not rfl) ?_
  refine GL.nil (?_ : GC _ _ _ _)
  refine GC.cond_true rfl ?_
  refine GC.seq' ?_
  refine GC.region ?_
  refine GL.pure rfl (p_build ze_23 of_23 rfl rfl) ?_
  refine GL.step rfl (t_storeN (i := 0) rfl rfl rfl sz_23 rfl rfl rfl) ?_
  refine GL.nil (?_ : GC _ _ _ _)
  refine GC.ret ?_
  refine fun a w h => Fin.back (rs := [.cell 2 23]) (vs := [_]) (is := []) (js := []) rfl ⟨⟨0, _, _, _, _, rfl, rfl, .inr ⟨[_, _], rfl, ag_23, sz_23, ⟨rfl, rfl, trivial⟩⟩⟩, trivial⟩ rfl rfl ?_ h
  clear h
  exact ⟨rfl, rfl, rfl⟩
theorem zshape_ct (p : Nat) : Ct Try.prog 24 [.pointer (some ⟨p, 0, none⟩)] (zG p) [] (fun u G Q => u = .agg #[.int .i64 0, .int .i64 0] ∧ G = zG p ∧ Q = []) := by
  refine Ct.intro Try.func24 rfl rfl rfl (fun c hc => ?_)
  refine GC.seq' ?_
  refine GC.region ?_
  refine GL.step rfl (t_alloc rfl ze_23) (GL.ex fun b_t2 => ?_)
  refine GL.nil (?_ : GC _ _ _ _)
  refine GC.seq' ?_
  refine GC.seq' ?_
  refine GC.region ?_
  refine GL.pure rfl (p_move rfl) ?_
  refine GL.step rfl (t_call rfl fn_27 rfl (is := [1]) (js := []) rfl rfl (by exact zmade_ct _)) (GL.ret ?_)
  rintro _ _ _ ⟨rfl, rfl, rfl⟩
  refine GL.pure rfl (p_not rfl) ?_
  refine GL.nil (?_ : GC _ _ _ _)
  refine GC.cond_true rfl ?_
  refine GC.seq' ?_
  refine GC.region ?_
  refine GL.pure rfl (p_build ze_23 of_23 rfl rfl) ?_
  refine GL.step rfl (t_storeN (i := 1) rfl rfl rfl sz_23 rfl rfl rfl) ?_
  refine GL.nil (?_ : GC _ _ _ _)
  refine GC.ret ?_
  refine fun a w h => Fin.back (rs := [.cell 2 23]) (vs := [_]) (is := [0]) (js := []) rfl ⟨⟨1, _, _, _, _, rfl, rfl, .inr ⟨[_, _], rfl, ag_23, sz_23, ⟨rfl, rfl, trivial⟩⟩⟩, trivial⟩ rfl rfl ?_ h
  clear h
  exact ⟨rfl, rfl, rfl⟩
end Go.Proofs.Ytihhpkbbhfcdcaa
