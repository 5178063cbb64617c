/- THE VOLUME: a step of both; the reference's changed blocks; rows of pages held against each other. -/
import Derived.Test.YtihhpkbbhfcdcaaVp5
set_option linter.unusedVariables false
set_option linter.unusedSimpArgs false
set_option maxRecDepth 100000
namespace Go.Proofs.Ytihhpkbbhfcdcaa
open Go Go.Sx Go.Proofs
def stepF (v : Vol) (x : Step) : Vol := if x.pages.length > 0 then (patchF v x.pages).2 else (doF v x.o x.num).2
theorem stepF_ok {v : Vol} (h : VolOk v) (x : Step) : VolOk (stepF v x) := by
  unfold stepF; split
  · exact patchF_ok h _
  · exact doF_ok h _ _
theorem sameRes_self (r : Res) : sameRes r r = true := by simp [sameRes]
theorem same_self (r : Res) (A B : Option Addr) (cp cq : Nat) : Ct Try.prog 34 [.agg #[.int .u8 r.code, .slice A r.data.length cp], .agg #[.int .u8 r.code, .slice B r.data.length cq]] [] [Pers.row Kd.u8 A r.data, Pers.row Kd.u8 B r.data]
    (fun v G Q => v = .bool true ∧ G = [] ∧ Q = []) := by
  have := same_ct r r A B cp cq
  rw [sameRes_self] at this; exact this
structure StepOk (x : Step) : Prop where
  data : x.o.data.length ≤ 140737488355328
  old : x.o.old.length ≤ 140737488355328
  pages : x.pages.length ≤ 140737488355328
  each : ∀ p ∈ x.pages, p.data.length ≤ 140737488355328
theorem StepOk.of {x : Step} (h : okStep x) : StepOk x := by
  simp only [okStep, okOpD, okPage] at h
  obtain ⟨⟨_, _, _, ⟨h1, _⟩, ⟨h2, _⟩⟩, _, h3, h4⟩ := h
  exact ⟨by omega, by omega, by omega, fun p hp => by have := (h4 p hp).2.2.1; omega⟩
theorem step_ct (vp vb vv p pB pV c1 c2 : Nat) (sp spv cs : List Value) (v : Vol) (x : Step) (A : Option Addr) (cp : Nat) (B : Option Addr) (cq : Nat) (C : Option Addr) (cr : Nat) (hv : VolOk v) (hx : StepOk x) (hcp : x.o.data.length ≤ cp) :
    Ct Try.prog 16 [.pointer (some ⟨vp, 0, none⟩), .pointer (some ⟨p, 0, none⟩), .agg #[.int .u8 x.o.kind, .int .i64 x.o.at_, .int .i64 x.o.n, .slice A x.o.data.length cp, .slice B x.o.old.length cq, .int .i64 x.num, .slice C x.pages.length cr]] (volG vp vb vv v ++ rvG p pB pV c1 c2 sp spv cs v)
      [Pers.reps kBytes (chV v) cs, Pers.row Kd.u8 A x.o.data, Pers.row Kd.u8 B x.o.old, Pers.row kPage C x.pages]
      (fun u G Q => ∃ cs', u = .bool true ∧ G = volG vp vb vv (stepF v x) ++ rvG p pB pV c1 c2 sp spv cs' (stepF v x) ∧ Q = [Pers.reps kBytes (chV (stepF v x)) cs']) := by
  by_cases hp : x.pages.length > 0
  · have e : stepF v x = (patchF v x.pages).2 := by unfold stepF; rw [if_pos hp]
    rw [e]
    refine Ct.intro Try.func16 rfl rfl rfl (fun c hc => ?_)
    refine GC.seq' ?_
    refine GC.region ?_
    refine GL.step rfl (t_box rfl rfl rfl) (GL.ex fun b_t5 => ?_)
    refine GL.pure rfl (p_assign rfl) ?_
    refine GL.nil (?_ : GC _ _ _ _)
    refine GC.seq' ?_
    refine GC.seq' ?_
    refine GC.region ?_
    refine GL.pure rfl (p_fieldAddr fo_44_2 rfl) ?_
    refine GL.step rfl (t_mem rfl (m_load (i := 0) rfl rfl ag_33 rfl)) ?_
    refine GL.pure rfl (p_len Try.underlying33 rfl) ?_
    refine GL.pure rfl (p_gtr rfl rfl) ?_
    refine GL.nil (?_ : GC _ _ _ _)
    refine GC.cond rfl (fun h1 => ?_) (fun h1 => ?_)
    · try simp only [decide_eq_true_eq, decide_eq_false_iff_not, Bool.not_eq_true', Bool.not_eq_false', Bool.not_true, Bool.not_false, Bool.not_not, ne_eq, Decidable.not_not, Int.not_lt, Int.not_le, gt_iff_lt, ge_iff_le, bool_true_eq_, bool_false_eq_] at h1
      first
      | (exfalso; omega)
      | (skip
         refine GC.seq' ?_
         refine GC.regionM (m := 10) (M := fun a w => ∃ cs22 : List Value, St c 50 [(6, .bool (decide ((patchF v x.pages).1 = (patchF v x.pages).1)))] [.cells vp [.int .i64 (patchF v x.pages).2.bl, .int .i64 (patchF v x.pages).2.sz, .slice (some ⟨vb, 0, none⟩) ((patchF v x.pages).2.bl * (patchF v x.pages).2.sz).toNat ((patchF v x.pages).2.bl * (patchF v x.pages).2.sz).toNat, .slice (some ⟨vv, 0, none⟩) (patchF v x.pages).2.bl.toNat (patchF v x.pages).2.bl.toNat, .int .i64 (patchF v x.pages).2.last] 58, .cells vb ((patchF v x.pages).2.b.map u8v) 5, .cells vv ((patchF v x.pages).2.vs.map (Value.int .i64)) 3, .cells p [.int .i64 (patchF v x.pages).2.bl, .int .i64 (patchF v x.pages).2.sz, .slice (some ⟨pB, 0, none⟩) (patchF v x.pages).2.bl.toNat c1, .slice (some ⟨pV, 0, none⟩) (patchF v x.pages).2.bl.toNat c2, .int .i64 (patchF v x.pages).2.last] 79, .cells pB (cs22 ++ sp) 31, .cells pV ((patchF v x.pages).2.vs.map (Value.int .i64) ++ spv) 3] [Pers.reps kBytes (chV (patchF v x.pages).2) cs22] a w) (is := [0]) (js := [0, 1, 2, 3]) wide_ rfl rfl rfl ?_ ?_
         · refine GA.take 0 rfl (by kernel_rfl) (by kernel_rfl) (by kernel_rfl) rfl (fun a w h => h.mem (is := [0]) (js := [0, 1, 2, 3]) rfl rfl) (i_pure (p_move rfl)) ?_
           refine GA.take 1 rfl (by kernel_rfl) (by kernel_rfl) (by kernel_rfl) rfl (fun a w h => h.mem (is := [0]) (js := [0, 1, 2, 3]) rfl rfl) (i_pure (p_fieldAddr fo_44_2 rfl)) ?_
           refine GA.take 2 rfl (by kernel_rfl) (by kernel_rfl) (by kernel_rfl) rfl (fun a w h => h.mem (is := [0]) (js := [0, 1, 2, 3]) rfl rfl) (i_mem (m_load (i := 0) rfl rfl ag_33 rfl)) ?_
           refine GA.take 4 rfl (by kernel_rfl) (by kernel_rfl) (by kernel_rfl) rfl (fun a w h => h.mem (is := [0]) (js := [0, 1, 2, 3]) rfl rfl) (i_pure (p_move rfl)) ?_
           refine GA.take 5 rfl (by kernel_rfl) (by kernel_rfl) (by kernel_rfl) rfl (fun a w h => h.mem (is := [0]) (js := [0, 1, 2, 3]) rfl rfl) (i_pure (p_fieldAddr fo_44_2 rfl)) ?_
           refine GA.take 6 rfl (by kernel_rfl) (by kernel_rfl) (by kernel_rfl) rfl (fun a w h => h.mem (is := [0]) (js := [0, 1, 2, 3]) rfl rfl) (i_mem (m_load (i := 0) rfl rfl ag_33 rfl)) ?_
           refine GA.all (rs := [3]) (by kernel_rfl) (by simp) ?_
           refine GAs.cons (i := 3) rfl rfl (t_call rfl fn_21 rfl (is := [1, 1, 1]) (js := [3]) rfl rfl (by exact patch_ct _ _ _ v _ _ _ hv hx.pages)) (by rintro a w ⟨_, _, _, ⟨rfl, rfl, rfl⟩, h⟩; exact h.mem (is := [3]) (js := [0, 1, 2, 3]) rfl rfl) (GA.ret ?_) ?_
           · rintro _ _ _ ⟨rfl, rfl, rfl⟩
             refine GA.all (rs := [7]) (by kernel_rfl) (by simp) ?_
             refine GAs.cons (i := 7) rfl rfl (t_call rfl fn_32 rfl (is := [4, 4, 4]) (js := [0, 3]) rfl rfl (by exact rpatch_ct _ _ _ _ _ _ _ _ v _ _ _ hv hx.pages hx.each)) (by rintro a w ⟨_, _, _, ⟨cs22, rfl, rfl, rfl⟩, h⟩; exact h.mem (is := [6]) (js := [1, 2, 3, 4]) rfl rfl) (GA.ret ?_) ?_
             · rintro _ _ _ ⟨cs22, rfl, rfl, rfl⟩
               refine GA.take 8 rfl (by kernel_rfl) (by kernel_rfl) (by kernel_rfl) rfl (fun a w h => h.mem (is := [6]) (js := [1, 2, 3, 4]) rfl rfl) (i_pure (p_eql rfl rfl)) ?_
               refine GA.take 9 rfl (by kernel_rfl) (by kernel_rfl) (by kernel_rfl) rfl (fun a w h => h.mem (is := [6]) (js := [1, 2, 3, 4]) rfl rfl) (i_pure (p_assign rfl)) ?_
               exact GA.done (by kernel_rfl) (fun a w h => ⟨cs22, h.cut (is := [3, 3, 3, 0, 0, 0]) (js := [0]) ⟨rfl, trivial⟩ rfl rfl⟩)
             exact GAs.nil
           exact GAs.nil
         · refine (?_ : GC _ _ _ _)
           refine GC.ex fun cs22 => ?_
           refine GC.ret ?_
           refine fun a w h => Fin.back (rs := [.tmp 6]) (vs := [_]) (is := [0, 0, 0, 0, 0, 0]) (js := [0]) rfl ⟨rfl, trivial⟩ rfl rfl ?_ h
           clear h
           exact ⟨_, by rw [decide_eq_true rfl]; rfl, rfl, rfl⟩)
    · try simp only [decide_eq_true_eq, decide_eq_false_iff_not, Bool.not_eq_true', Bool.not_eq_false', Bool.not_true, Bool.not_false, Bool.not_not, ne_eq, Decidable.not_not, Int.not_lt, Int.not_le, gt_iff_lt, ge_iff_le, bool_true_eq_, bool_false_eq_] at h1
      first
      | (exfalso; omega)
      | (skip
         refine GC.skip (?_ : GC _ _ _ _)
         refine GC.seq' ?_
         refine GC.region ?_
         refine GL.pure rfl (p_move rfl) ?_
         refine GL.pure rfl (p_fieldAddr fo_44_0 rfl) ?_
         refine GL.step rfl (t_mem rfl (m_loadN (i := 0) rfl rfl ag_42 (vs := [_, _, _, _, _]) sz_42 ⟨rfl, rfl, rfl, rfl, rfl, trivial⟩)) ?_
         refine GL.pure rfl (p_fieldAddr fo_44_1 rfl) ?_
         refine GL.step rfl (t_mem rfl (m_load (i := 0) rfl rfl ag_3 rfl)) ?_
         refine GL.step rfl (t_call rfl fn_19 rfl (is := [1, 1, 1]) (js := [1, 2]) rfl rfl (by exact do_ct _ _ _ v x.o _ _ _ _ _ hv)) (GL.ret ?_)
         rintro _ _ _ ⟨A30, cp30, l30, k30, rfl, rfl, rfl⟩
         refine GL.pure rfl (p_move rfl) ?_
         refine GL.pure rfl (p_extract rfl rfl) ?_
         refine GL.pure rfl (p_extract rfl rfl) ?_
         refine GL.step rfl (t_alloc rfl ze_49) (GL.ex fun b_t7 => ?_)
         refine GL.step rfl (t_storeN (i := 0) rfl rfl rfl sz_49 rfl rfl rfl) ?_
         refine GL.pure rfl (p_assign rfl) ?_
         refine GL.nil (?_ : GC _ _ _ _)
         refine GC.seq' ?_
         refine GC.region ?_
         refine GL.pure rfl (p_move rfl) ?_
         refine GL.pure rfl (p_fieldAddr fo_44_0 rfl) ?_
         refine GL.step rfl (t_mem rfl (m_loadN (i := 4) rfl rfl ag_42 (vs := [_, _, _, _, _]) sz_42 ⟨rfl, rfl, rfl, rfl, rfl, trivial⟩)) ?_
         refine GL.pure rfl (p_fieldAddr fo_44_1 rfl) ?_
         refine GL.step rfl (t_mem rfl (m_load (i := 4) rfl rfl ag_3 rfl)) ?_
         refine GL.step rfl (t_call rfl fn_33 rfl (is := [5, 5, 5]) (js := [1, 2, 3]) rfl rfl (by exact rdo_ct _ _ _ _ _ _ _ _ v x.o _ _ _ _ _ hv hcp hx.data hx.old)) (GL.ret ?_)
         rintro _ _ _ ⟨A39, cp39, cs39, l39, k39, rfl, rfl, rfl⟩
         refine GL.pure rfl (p_move rfl) ?_
         refine GL.pure rfl (p_extract rfl rfl) ?_
         refine GL.pure rfl (p_extract rfl rfl) ?_
         refine GL.step rfl (t_alloc rfl ze_49) (GL.ex fun b_t9 => ?_)
         refine GL.step rfl (t_storeN (i := 0) rfl rfl rfl sz_49 rfl rfl rfl) ?_
         refine GL.pure rfl (p_assign rfl) ?_
         refine GL.nil (?_ : GC _ _ _ _)
         refine GC.seq' ?_
         refine GC.region ?_
         refine GL.step rfl (t_mem rfl (m_loadN (i := 4) rfl rfl ag_49 (vs := [_, _]) sz_49 ⟨rfl, rfl, trivial⟩)) ?_
         refine GL.step rfl (t_mem rfl (m_loadN (i := 0) rfl rfl ag_49 (vs := [_, _]) sz_49 ⟨rfl, rfl, trivial⟩)) ?_
         refine GL.step rfl (t_call rfl fn_34 rfl (is := []) (js := [2, 0]) rfl rfl (by exact same_self _ _ _ _ _)) (GL.ret ?_)
         rintro _ _ _ ⟨rfl, rfl, rfl⟩
         refine GL.pure rfl (p_move rfl) ?_
         refine GL.pureG (s := 45) rfl rfl rfl (p_move rfl) ?_
         refine GL.pureG (s := 45) rfl rfl rfl (p_move rfl) ?_
         refine GL.pureG (s := 45) rfl rfl rfl (p_eql rfl rfl) ?_
         refine GL.pure rfl (p_pick_true rfl rfl) ?_
         refine GL.pure rfl (p_assign rfl) ?_
         refine GL.nil (?_ : GC _ _ _ _)
         refine GC.ret ?_
         refine fun a w h => Fin.back (rs := [.tmp 6]) (vs := [_]) (is := [5, 5, 5, 1, 1, 1]) (js := [1]) rfl ⟨rfl, trivial⟩ rfl rfl ?_ h
         clear h
         skip)
  · have e : stepF v x = (doF v x.o x.num).2 := by unfold stepF; rw [if_neg hp]
    rw [e]
    refine Ct.intro Try.func16 rfl rfl rfl (fun c hc => ?_)
    refine GC.seq' ?_
    refine GC.region ?_
    refine GL.step rfl (t_box rfl rfl rfl) (GL.ex fun b_t5 => ?_)
    refine GL.pure rfl (p_assign rfl) ?_
    refine GL.nil (?_ : GC _ _ _ _)
    refine GC.seq' ?_
    refine GC.seq' ?_
    refine GC.region ?_
    refine GL.pure rfl (p_fieldAddr fo_44_2 rfl) ?_
    refine GL.step rfl (t_mem rfl (m_load (i := 0) rfl rfl ag_33 rfl)) ?_
    refine GL.pure rfl (p_len Try.underlying33 rfl) ?_
    refine GL.pure rfl (p_gtr rfl rfl) ?_
    refine GL.nil (?_ : GC _ _ _ _)
    refine GC.cond rfl (fun h1 => ?_) (fun h1 => ?_)
    · try simp only [decide_eq_true_eq, decide_eq_false_iff_not, Bool.not_eq_true', Bool.not_eq_false', Bool.not_true, Bool.not_false, Bool.not_not, ne_eq, Decidable.not_not, Int.not_lt, Int.not_le, gt_iff_lt, ge_iff_le, bool_true_eq_, bool_false_eq_] at h1
      first
      | (exfalso; omega)
      | (skip
         refine GC.seq' ?_
         refine GC.regionM (m := 10) (M := fun a w => ∃ cs22 : List Value, St c 50 [(6, .bool (decide ((patchF v x.pages).1 = (patchF v x.pages).1)))] [.cells vp [.int .i64 (patchF v x.pages).2.bl, .int .i64 (patchF v x.pages).2.sz, .slice (some ⟨vb, 0, none⟩) ((patchF v x.pages).2.bl * (patchF v x.pages).2.sz).toNat ((patchF v x.pages).2.bl * (patchF v x.pages).2.sz).toNat, .slice (some ⟨vv, 0, none⟩) (patchF v x.pages).2.bl.toNat (patchF v x.pages).2.bl.toNat, .int .i64 (patchF v x.pages).2.last] 58, .cells vb ((patchF v x.pages).2.b.map u8v) 5, .cells vv ((patchF v x.pages).2.vs.map (Value.int .i64)) 3, .cells p [.int .i64 (patchF v x.pages).2.bl, .int .i64 (patchF v x.pages).2.sz, .slice (some ⟨pB, 0, none⟩) (patchF v x.pages).2.bl.toNat c1, .slice (some ⟨pV, 0, none⟩) (patchF v x.pages).2.bl.toNat c2, .int .i64 (patchF v x.pages).2.last] 79, .cells pB (cs22 ++ sp) 31, .cells pV ((patchF v x.pages).2.vs.map (Value.int .i64) ++ spv) 3] [Pers.reps kBytes (chV (patchF v x.pages).2) cs22] a w) (is := [0]) (js := [0, 1, 2, 3]) wide_ rfl rfl rfl ?_ ?_
         · refine GA.take 0 rfl (by kernel_rfl) (by kernel_rfl) (by kernel_rfl) rfl (fun a w h => h.mem (is := [0]) (js := [0, 1, 2, 3]) rfl rfl) (i_pure (p_move rfl)) ?_
           refine GA.take 1 rfl (by kernel_rfl) (by kernel_rfl) (by kernel_rfl) rfl (fun a w h => h.mem (is := [0]) (js := [0, 1, 2, 3]) rfl rfl) (i_pure (p_fieldAddr fo_44_2 rfl)) ?_
           refine GA.take 2 rfl (by kernel_rfl) (by kernel_rfl) (by kernel_rfl) rfl (fun a w h => h.mem (is := [0]) (js := [0, 1, 2, 3]) rfl rfl) (i_mem (m_load (i := 0) rfl rfl ag_33 rfl)) ?_
           refine GA.take 4 rfl (by kernel_rfl) (by kernel_rfl) (by kernel_rfl) rfl (fun a w h => h.mem (is := [0]) (js := [0, 1, 2, 3]) rfl rfl) (i_pure (p_move rfl)) ?_
           refine GA.take 5 rfl (by kernel_rfl) (by kernel_rfl) (by kernel_rfl) rfl (fun a w h => h.mem (is := [0]) (js := [0, 1, 2, 3]) rfl rfl) (i_pure (p_fieldAddr fo_44_2 rfl)) ?_
           refine GA.take 6 rfl (by kernel_rfl) (by kernel_rfl) (by kernel_rfl) rfl (fun a w h => h.mem (is := [0]) (js := [0, 1, 2, 3]) rfl rfl) (i_mem (m_load (i := 0) rfl rfl ag_33 rfl)) ?_
           refine GA.all (rs := [3]) (by kernel_rfl) (by simp) ?_
           refine GAs.cons (i := 3) rfl rfl (t_call rfl fn_21 rfl (is := [1, 1, 1]) (js := [3]) rfl rfl (by exact patch_ct _ _ _ v _ _ _ hv hx.pages)) (by rintro a w ⟨_, _, _, ⟨rfl, rfl, rfl⟩, h⟩; exact h.mem (is := [3]) (js := [0, 1, 2, 3]) rfl rfl) (GA.ret ?_) ?_
           · rintro _ _ _ ⟨rfl, rfl, rfl⟩
             refine GA.all (rs := [7]) (by kernel_rfl) (by simp) ?_
             refine GAs.cons (i := 7) rfl rfl (t_call rfl fn_32 rfl (is := [4, 4, 4]) (js := [0, 3]) rfl rfl (by exact rpatch_ct _ _ _ _ _ _ _ _ v _ _ _ hv hx.pages hx.each)) (by rintro a w ⟨_, _, _, ⟨cs22, rfl, rfl, rfl⟩, h⟩; exact h.mem (is := [6]) (js := [1, 2, 3, 4]) rfl rfl) (GA.ret ?_) ?_
             · rintro _ _ _ ⟨cs22, rfl, rfl, rfl⟩
               refine GA.take 8 rfl (by kernel_rfl) (by kernel_rfl) (by kernel_rfl) rfl (fun a w h => h.mem (is := [6]) (js := [1, 2, 3, 4]) rfl rfl) (i_pure (p_eql rfl rfl)) ?_
               refine GA.take 9 rfl (by kernel_rfl) (by kernel_rfl) (by kernel_rfl) rfl (fun a w h => h.mem (is := [6]) (js := [1, 2, 3, 4]) rfl rfl) (i_pure (p_assign rfl)) ?_
               exact GA.done (by kernel_rfl) (fun a w h => ⟨cs22, h.cut (is := [3, 3, 3, 0, 0, 0]) (js := [0]) ⟨rfl, trivial⟩ rfl rfl⟩)
             exact GAs.nil
           exact GAs.nil
         · refine (?_ : GC _ _ _ _)
           refine GC.ex fun cs22 => ?_
           refine GC.ret ?_
           refine fun a w h => Fin.back (rs := [.tmp 6]) (vs := [_]) (is := [0, 0, 0, 0, 0, 0]) (js := [0]) rfl ⟨rfl, trivial⟩ rfl rfl ?_ h
           clear h
           skip)
    · try simp only [decide_eq_true_eq, decide_eq_false_iff_not, Bool.not_eq_true', Bool.not_eq_false', Bool.not_true, Bool.not_false, Bool.not_not, ne_eq, Decidable.not_not, Int.not_lt, Int.not_le, gt_iff_lt, ge_iff_le, bool_true_eq_, bool_false_eq_] at h1
      first
      | (exfalso; omega)
      | (skip
         refine GC.skip (?_ : GC _ _ _ _)
         refine GC.seq' ?_
         refine GC.region ?_
         refine GL.pure rfl (p_move rfl) ?_
         refine GL.pure rfl (p_fieldAddr fo_44_0 rfl) ?_
         refine GL.step rfl (t_mem rfl (m_loadN (i := 0) rfl rfl ag_42 (vs := [_, _, _, _, _]) sz_42 ⟨rfl, rfl, rfl, rfl, rfl, trivial⟩)) ?_
         refine GL.pure rfl (p_fieldAddr fo_44_1 rfl) ?_
         refine GL.step rfl (t_mem rfl (m_load (i := 0) rfl rfl ag_3 rfl)) ?_
         refine GL.step rfl (t_call rfl fn_19 rfl (is := [1, 1, 1]) (js := [1, 2]) rfl rfl (by exact do_ct _ _ _ v x.o _ _ _ _ _ hv)) (GL.ret ?_)
         rintro _ _ _ ⟨A30, cp30, l30, k30, rfl, rfl, rfl⟩
         refine GL.pure rfl (p_move rfl) ?_
         refine GL.pure rfl (p_extract rfl rfl) ?_
         refine GL.pure rfl (p_extract rfl rfl) ?_
         refine GL.step rfl (t_alloc rfl ze_49) (GL.ex fun b_t7 => ?_)
         refine GL.step rfl (t_storeN (i := 0) rfl rfl rfl sz_49 rfl rfl rfl) ?_
         refine GL.pure rfl (p_assign rfl) ?_
         refine GL.nil (?_ : GC _ _ _ _)
         refine GC.seq' ?_
         refine GC.region ?_
         refine GL.pure rfl (p_move rfl) ?_
         refine GL.pure rfl (p_fieldAddr fo_44_0 rfl) ?_
         refine GL.step rfl (t_mem rfl (m_loadN (i := 4) rfl rfl ag_42 (vs := [_, _, _, _, _]) sz_42 ⟨rfl, rfl, rfl, rfl, rfl, trivial⟩)) ?_
         refine GL.pure rfl (p_fieldAddr fo_44_1 rfl) ?_
         refine GL.step rfl (t_mem rfl (m_load (i := 4) rfl rfl ag_3 rfl)) ?_
         refine GL.step rfl (t_call rfl fn_33 rfl (is := [5, 5, 5]) (js := [1, 2, 3]) rfl rfl (by exact rdo_ct _ _ _ _ _ _ _ _ v x.o _ _ _ _ _ hv hcp hx.data hx.old)) (GL.ret ?_)
         rintro _ _ _ ⟨A39, cp39, cs39, l39, k39, rfl, rfl, rfl⟩
         refine GL.pure rfl (p_move rfl) ?_
         refine GL.pure rfl (p_extract rfl rfl) ?_
         refine GL.pure rfl (p_extract rfl rfl) ?_
         refine GL.step rfl (t_alloc rfl ze_49) (GL.ex fun b_t9 => ?_)
         refine GL.step rfl (t_storeN (i := 0) rfl rfl rfl sz_49 rfl rfl rfl) ?_
         refine GL.pure rfl (p_assign rfl) ?_
         refine GL.nil (?_ : GC _ _ _ _)
         refine GC.seq' ?_
         refine GC.region ?_
         refine GL.step rfl (t_mem rfl (m_loadN (i := 4) rfl rfl ag_49 (vs := [_, _]) sz_49 ⟨rfl, rfl, trivial⟩)) ?_
         refine GL.step rfl (t_mem rfl (m_loadN (i := 0) rfl rfl ag_49 (vs := [_, _]) sz_49 ⟨rfl, rfl, trivial⟩)) ?_
         refine GL.step rfl (t_call rfl fn_34 rfl (is := []) (js := [2, 0]) rfl rfl (by exact same_self _ _ _ _ _)) (GL.ret ?_)
         rintro _ _ _ ⟨rfl, rfl, rfl⟩
         refine GL.pure rfl (p_move rfl) ?_
         refine GL.pureG (s := 45) rfl rfl rfl (p_move rfl) ?_
         refine GL.pureG (s := 45) rfl rfl rfl (p_move rfl) ?_
         refine GL.pureG (s := 45) rfl rfl rfl (p_eql rfl rfl) ?_
         refine GL.pure rfl (p_pick_true rfl rfl) ?_
         refine GL.pure rfl (p_assign rfl) ?_
         refine GL.nil (?_ : GC _ _ _ _)
         refine GC.ret ?_
         refine fun a w h => Fin.back (rs := [.tmp 6]) (vs := [_]) (is := [5, 5, 5, 1, 1, 1]) (js := [1]) rfl ⟨rfl, trivial⟩ rfl rfl ?_ h
         clear h
         exact ⟨_, by rw [decide_eq_true rfl]; rfl, rfl, rfl⟩)

theorem pgself_ct (l : List Page) (A B : Option Addr) (cp cq : Nat) (hl : l.length ≤ 140737488355328) : Ct Try.prog 17 [.slice A l.length cp, .slice B l.length cq] [] [Pers.row kPage A l, Pers.row kPage B l] (fun v G Q => v = .bool true ∧ G = [] ∧ Q = []) := by
  refine Ct.intro Try.func17 rfl rfl rfl (fun c hc => ?_)
  refine GC.seq' ?_
  refine GC.region ?_
  refine GL.pure rfl (p_assign rfl) ?_
  refine GL.nil (?_ : GC _ _ _ _)
  refine GC.seq' ?_
  refine GC.seq' ?_
  refine GC.region ?_
  refine GL.pure rfl (p_move rfl) ?_
  refine GL.pure rfl (p_len Try.underlying33 rfl) ?_
  refine GL.pure rfl (p_move rfl) ?_
  refine GL.pure rfl (p_len Try.underlying33 rfl) ?_
  refine GL.pure rfl (p_neq rfl rfl) ?_
  refine GL.nil (?_ : GC _ _ _ _)
  refine GC.cond rfl (fun h1 => ?_) (fun h1 => ?_)
  · try simp only [decide_eq_true_eq, decide_eq_false_iff_not, Bool.not_eq_true', Bool.not_eq_false', Bool.not_true, Bool.not_false, Bool.not_not, ne_eq, Decidable.not_not, Int.not_lt, Int.not_le, gt_iff_lt, ge_iff_le, bool_true_eq_, bool_false_eq_] at h1
    first
    | (exfalso; first | omega | (simp at h1; done))
    | (skip
       refine GC.seq' ?_
       refine GC.region ?_
       refine GL.pure rfl (p_assign rfl) ?_
       refine GL.nil (?_ : GC _ _ _ _)
       refine GC.ret ?_
       refine fun a w h => Fin.back (rs := [.tmp 4]) (vs := [_]) (is := []) (js := []) rfl ⟨rfl, trivial⟩ rfl rfl ?_ h
       clear h
       exact ⟨rfl, rfl, rfl⟩)
  · try simp only [decide_eq_true_eq, decide_eq_false_iff_not, Bool.not_eq_true', Bool.not_eq_false', Bool.not_true, Bool.not_false, Bool.not_not, ne_eq, Decidable.not_not, Int.not_lt, Int.not_le, gt_iff_lt, ge_iff_le, bool_true_eq_, bool_false_eq_] at h1
    first
    | (exfalso; first | omega | (simp at h1; done))
    | (skip
       refine GC.skip (?_ : GC _ _ _ _)
       refine GC.seq' ?_
       refine GC.seq' ?_
       refine GC.region ?_
       refine GL.pure rfl (p_assign rfl) ?_
       refine GL.nil (?_ : GC _ _ _ _)
       refine GC.block ?_
       refine GC.imp (fun a w h => (⟨by simp, h.cut (is := []) (js := [0, 1]) ⟨rfl, rfl, rfl, trivial⟩ rfl rfl⟩ : (fun (k : Nat) (a : Act) (w : World) => k ≤ l.length ∧ St c 56 [(0, .slice A l.length cp), (1, .slice B l.length cq), (5, .int .i64 (k : Int))] [] [Pers.row kPage A l, Pers.row kPage B l] a w) 0 a w)) (GC.loop (fun (k : Nat) (a : Act) (w : World) => k ≤ l.length ∧ St c 56 [(0, .slice A l.length cp), (1, .slice B l.length cq), (5, .int .i64 (k : Int))] [] [Pers.row kPage A l, Pers.row kPage B l] a w) (fun k => l.length - k) 0 ?_)
       intro k
       refine GC.and fun hk => ?_
       refine GC.seq' ?_
       refine GC.seq' ?_
       refine GC.region ?_
       refine GL.pure rfl (p_move rfl) ?_
       refine GL.pure rfl (p_move rfl) ?_
       refine GL.pure rfl (p_len Try.underlying33 rfl) ?_
       refine GL.pure rfl (p_lss rfl rfl) ?_
       refine GL.nil (?_ : GC _ _ _ _)
       refine GC.cond rfl (fun h2 => ?_) (fun h2 => ?_)
       · try simp only [decide_eq_true_eq, decide_eq_false_iff_not, Bool.not_eq_true', Bool.not_eq_false', Bool.not_true, Bool.not_false, Bool.not_not, ne_eq, Decidable.not_not, Int.not_lt, Int.not_le, gt_iff_lt, ge_iff_le, bool_true_eq_, bool_false_eq_] at h2
         first
         | (exfalso; first | omega | (simp at h2; done))
         | (skip
            refine GC.skip (?_ : GC _ _ _ _)
            refine GC.seq' ?_
            refine GC.block ?_
            refine GC.seq' ?_
            refine GC.lay (x := .tmp 0) (y := .tmp 5) (j := 0) rfl rfl rfl (by omega) (gt_ok (by omega) (by omega)) (fun p_x19 r_x19 hA_x19 ok_x19 => ?_)
            rcases r_x19 with ⟨_, ⟨_, ⟨Ax19_0, cpx19_0⟩⟩⟩
            refine GC.lay (x := .tmp 1) (y := .tmp 5) (j := 3) rfl rfl rfl (by omega) (gt_ok (by omega) (by omega)) (fun p_x24 r_x24 hA_x24 ok_x24 => ?_)
            rcases r_x24 with ⟨_, ⟨_, ⟨Ax24_0, cpx24_0⟩⟩⟩
            refine GC.lay (x := .tmp 0) (y := .tmp 5) (j := 4) rfl rfl rfl (by omega) (gt_ok (by omega) (by omega)) (fun p_x31 r_x31 hA_x31 ok_x31 => ?_)
            rcases r_x31 with ⟨_, ⟨_, ⟨Ax31_0, cpx31_0⟩⟩⟩
            refine GC.lay (x := .tmp 1) (y := .tmp 5) (j := 7) rfl rfl rfl (by omega) (gt_ok (by omega) (by omega)) (fun p_x36 r_x36 hA_x36 ok_x36 => ?_)
            rcases r_x36 with ⟨_, ⟨_, ⟨Ax36_0, cpx36_0⟩⟩⟩
            refine GC.lay (x := .tmp 0) (y := .tmp 5) (j := 8) rfl rfl rfl (by omega) (gt_ok (by omega) (by omega)) (fun p_x44 r_x44 hA_x44 ok_x44 => ?_)
            rcases r_x44 with ⟨_, ⟨_, ⟨Ax44_0, cpx44_0⟩⟩⟩
            refine GC.lay (x := .tmp 1) (y := .tmp 5) (j := 11) rfl rfl rfl (by omega) (gt_ok (by omega) (by omega)) (fun p_x50 r_x50 hA_x50 ok_x50 => ?_)
            rcases r_x50 with ⟨_, ⟨_, ⟨Ax50_0, cpx50_0⟩⟩⟩
            refine GC.regionQ wide_ (by kernel_rfl) ?_
            refine GQ.step rfl (q_pure (p_move rfl)) ?_
            refine GQ.step rfl (q_pure (p_move rfl)) ?_
            refine GQ.step rfl (q_pure (p_indexL hA_x19 rfl rfl Try.underlying33 sz_71 (by omega) (by omega))) ?_
            refine GQ.step rfl (q_pure (p_fieldAddr' fo_71_0 rfl)) ?_
            refine GQ.step rfl (q_mem (m_loadP (i := 10) rfl rfl ag_3 rfl)) ?_
            refine GQ.step rfl (q_pure (p_move rfl)) ?_
            refine GQ.step rfl (q_pure (p_move rfl)) ?_
            refine GQ.step rfl (q_pure (p_indexL hA_x24 rfl rfl Try.underlying33 sz_71 (by omega) (by omega))) ?_
            refine GQ.step rfl (q_pure (p_fieldAddr' fo_71_0 rfl)) ?_
            refine GQ.step rfl (q_mem (m_loadP (i := 8) rfl rfl ag_3 rfl)) ?_
            refine GQ.step rfl (q_pure (p_neq rfl rfl)) ?_
            refine GQ.step rfl (q_pure (p_move rfl)) ?_
            refine GQ.split (i := 28) rfl (fun h3 => ?_) (fun h3 => ?_)
            · try simp only [decide_eq_true_eq, decide_eq_false_iff_not, Bool.not_eq_true', Bool.not_eq_false', Bool.not_true, Bool.not_false, Bool.not_not, ne_eq, Decidable.not_not, Int.not_lt, Int.not_le, gt_iff_lt, ge_iff_le, bool_true_eq_, bool_false_eq_] at h3
              first
              | (exfalso; first | omega | (simp at h3; done))
              | (skip
                 refine GQ.pass (s := 28) rfl rfl rfl ?_
                 refine GQ.pass (s := 28) rfl rfl rfl ?_
                 refine GQ.pass (s := 28) rfl rfl rfl ?_
                 refine GQ.pass (s := 28) rfl rfl rfl ?_
                 refine GQ.pass (s := 28) rfl rfl rfl ?_
                 refine GQ.pass (s := 28) rfl rfl rfl ?_
                 refine GQ.pass (s := 28) rfl rfl rfl ?_
                 refine GQ.pass (s := 28) rfl rfl rfl ?_
                 refine GQ.pass (s := 28) rfl rfl rfl ?_
                 refine GQ.pass (s := 28) rfl rfl rfl ?_
                 refine GQ.pass (s := 28) rfl rfl rfl ?_
                 refine GQ.step rfl (q_pure (p_pick_true rfl rfl)) ?_
                 refine GQ.step rfl (q_pure (p_move rfl)) ?_
                 refine GQ.pass (s := 41) rfl rfl rfl ?_
                 refine GQ.pass (s := 41) rfl rfl rfl ?_
                 refine GQ.pass (s := 41) rfl rfl rfl ?_
                 refine GQ.pass (s := 41) rfl rfl rfl ?_
                 refine GQ.pass (s := 41) rfl rfl rfl ?_
                 refine GQ.pass (s := 41) rfl rfl rfl ?_
                 refine GQ.pass (s := 41) rfl rfl rfl ?_
                 refine GQ.pass (s := 41) rfl rfl rfl ?_
                 refine GQ.pass (s := 41) rfl rfl rfl ?_
                 refine GQ.pass (s := 41) rfl rfl rfl ?_
                 refine GQ.pass (s := 41) rfl rfl rfl ?_
                 refine GQ.pass (s := 41) rfl rfl rfl ?_
                 refine GQ.pass (s := 41) rfl rfl rfl ?_
                 refine GQ.step rfl (q_pure (p_pick_true rfl rfl)) ?_
                 refine GQ.nil (?_ : GC _ _ _ _)
                 refine GC.cond_true rfl ?_
                 refine GC.seq' ?_
                 refine GC.region ?_
                 refine GL.pure rfl (p_assign rfl) ?_
                 refine GL.nil (?_ : GC _ _ _ _)
                 refine GC.ret ?_
                 refine fun a w h => Fin.back (rs := [.tmp 4]) (vs := [_]) (is := []) (js := []) rfl ⟨rfl, trivial⟩ rfl rfl ?_ h
                 clear h
                 exact ⟨rfl, rfl, rfl⟩)
            · try simp only [decide_eq_true_eq, decide_eq_false_iff_not, Bool.not_eq_true', Bool.not_eq_false', Bool.not_true, Bool.not_false, Bool.not_not, ne_eq, Decidable.not_not, Int.not_lt, Int.not_le, gt_iff_lt, ge_iff_le, bool_true_eq_, bool_false_eq_] at h3
              first
              | (exfalso; first | omega | (simp at h3; done))
              | (skip
                 refine GQ.stepG (s := 28) rfl rfl rfl (q_pure (p_move rfl)) ?_
                 refine GQ.stepG (s := 28) rfl rfl rfl (q_pure (p_move rfl)) ?_
                 refine GQ.stepG (s := 28) rfl rfl rfl (q_pure (p_indexL hA_x31 rfl rfl Try.underlying33 sz_71 (by omega) (by omega))) ?_
                 refine GQ.stepG (s := 28) rfl rfl rfl (q_pure (p_fieldAddr' fo_71_1 rfl)) ?_
                 refine GQ.stepG (s := 28) rfl rfl rfl (q_mem (m_loadP (i := 6) rfl rfl ag_3 rfl)) ?_
                 refine GQ.stepG (s := 28) rfl rfl rfl (q_pure (p_move rfl)) ?_
                 refine GQ.stepG (s := 28) rfl rfl rfl (q_pure (p_move rfl)) ?_
                 refine GQ.stepG (s := 28) rfl rfl rfl (q_pure (p_indexL hA_x36 rfl rfl Try.underlying33 sz_71 (by omega) (by omega))) ?_
                 refine GQ.stepG (s := 28) rfl rfl rfl (q_pure (p_fieldAddr' fo_71_1 rfl)) ?_
                 refine GQ.stepG (s := 28) rfl rfl rfl (q_mem (m_loadP (i := 4) rfl rfl ag_3 rfl)) ?_
                 refine GQ.stepG (s := 28) rfl rfl rfl (q_pure (p_neq rfl rfl)) ?_
                 refine GQ.step rfl (q_pure (p_pick_false rfl rfl)) ?_
                 refine GQ.step rfl (q_pure (p_move rfl)) ?_
                 refine GQ.split (i := 41) rfl (fun h4 => ?_) (fun h4 => ?_)
                 · try simp only [decide_eq_true_eq, decide_eq_false_iff_not, Bool.not_eq_true', Bool.not_eq_false', Bool.not_true, Bool.not_false, Bool.not_not, ne_eq, Decidable.not_not, Int.not_lt, Int.not_le, gt_iff_lt, ge_iff_le, bool_true_eq_, bool_false_eq_] at h4
                   first
                   | (exfalso; first | omega | (simp at h4; done))
                   | (skip
                      refine GQ.pass (s := 41) rfl rfl rfl ?_
                      refine GQ.pass (s := 41) rfl rfl rfl ?_
                      refine GQ.pass (s := 41) rfl rfl rfl ?_
                      refine GQ.pass (s := 41) rfl rfl rfl ?_
                      refine GQ.pass (s := 41) rfl rfl rfl ?_
                      refine GQ.pass (s := 41) rfl rfl rfl ?_
                      refine GQ.pass (s := 41) rfl rfl rfl ?_
                      refine GQ.pass (s := 41) rfl rfl rfl ?_
                      refine GQ.pass (s := 41) rfl rfl rfl ?_
                      refine GQ.pass (s := 41) rfl rfl rfl ?_
                      refine GQ.pass (s := 41) rfl rfl rfl ?_
                      refine GQ.pass (s := 41) rfl rfl rfl ?_
                      refine GQ.pass (s := 41) rfl rfl rfl ?_
                      refine GQ.step rfl (q_pure (p_pick_true rfl rfl)) ?_
                      refine GQ.nil (?_ : GC _ _ _ _)
                      refine GC.cond_true rfl ?_
                      refine GC.seq' ?_
                      refine GC.region ?_
                      refine GL.pure rfl (p_assign rfl) ?_
                      refine GL.nil (?_ : GC _ _ _ _)
                      refine GC.ret ?_
                      refine fun a w h => Fin.back (rs := [.tmp 4]) (vs := [_]) (is := []) (js := []) rfl ⟨rfl, trivial⟩ rfl rfl ?_ h
                      clear h
                      exact ⟨rfl, rfl, rfl⟩)
                 · try simp only [decide_eq_true_eq, decide_eq_false_iff_not, Bool.not_eq_true', Bool.not_eq_false', Bool.not_true, Bool.not_false, Bool.not_not, ne_eq, Decidable.not_not, Int.not_lt, Int.not_le, gt_iff_lt, ge_iff_le, bool_true_eq_, bool_false_eq_] at h4
                   first
                   | (exfalso; first | omega | (simp at h4; done))
                   | (skip
                      refine GQ.stepG (s := 41) rfl rfl rfl (q_pure (p_move rfl)) ?_
                      refine GQ.stepG (s := 41) rfl rfl rfl (q_pure (p_move rfl)) ?_
                      refine GQ.stepG (s := 41) rfl rfl rfl (q_pure (p_indexL hA_x44 rfl rfl Try.underlying33 sz_71 (by omega) (by omega))) ?_
                      refine GQ.stepG (s := 41) rfl rfl rfl (q_pure (p_fieldAddr' fo_71_2 rfl)) ?_
                      refine GQ.stepG (s := 41) rfl rfl rfl (q_mem (m_loadP (i := 2) rfl rfl ag_31 rfl)) ?_
                      refine GQ.stepG (s := 41) rfl rfl rfl (q_mem (m_str (i := 3) rfl rfl Try.underlying31 Try.underlying5 Try.underlying9)) ?_
                      refine GQ.stepG (s := 41) rfl rfl rfl (q_pure (p_move rfl)) ?_
                      refine GQ.stepG (s := 41) rfl rfl rfl (q_pure (p_move rfl)) ?_
                      refine GQ.stepG (s := 41) rfl rfl rfl (q_pure (p_indexL hA_x50 rfl rfl Try.underlying33 sz_71 (by omega) (by omega))) ?_
                      refine GQ.stepG (s := 41) rfl rfl rfl (q_pure (p_fieldAddr' fo_71_2 rfl)) ?_
                      refine GQ.stepG (s := 41) rfl rfl rfl (q_mem (m_loadP (i := 0) rfl rfl ag_31 rfl)) ?_
                      refine GQ.stepG (s := 41) rfl rfl rfl (q_mem (m_str (i := 1) rfl rfl Try.underlying31 Try.underlying5 Try.underlying9)) ?_
                      refine GQ.stepG (s := 41) rfl rfl rfl (q_pure (p_sneq rfl rfl)) ?_
                      refine GQ.step rfl (q_pure (p_pick_false rfl rfl)) ?_
                      refine GQ.nil (?_ : GC _ _ _ _)
                      refine GC.cond rfl (fun h5 => ?_) (fun h5 => ?_)
                      · try simp only [decide_eq_true_eq, decide_eq_false_iff_not, Bool.not_eq_true', Bool.not_eq_false', Bool.not_true, Bool.not_false, Bool.not_not, ne_eq, Decidable.not_not, Int.not_lt, Int.not_le, gt_iff_lt, ge_iff_le, bool_true_eq_, bool_false_eq_] at h5
                        first
                        | (exfalso; first | omega | (simp at h5; done))
                        | (skip
                           refine GC.seq' ?_
                           refine GC.region ?_
                           refine GL.pure rfl (p_assign rfl) ?_
                           refine GL.nil (?_ : GC _ _ _ _)
                           refine GC.ret ?_
                           refine fun a w h => Fin.back (rs := [.tmp 4]) (vs := [_]) (is := []) (js := []) rfl ⟨rfl, trivial⟩ rfl rfl ?_ h
                           clear h
                           exact ⟨rfl, rfl, rfl⟩)
                      · try simp only [decide_eq_true_eq, decide_eq_false_iff_not, Bool.not_eq_true', Bool.not_eq_false', Bool.not_true, Bool.not_false, Bool.not_not, ne_eq, Decidable.not_not, Int.not_lt, Int.not_le, gt_iff_lt, ge_iff_le, bool_true_eq_, bool_false_eq_] at h5
                        first
                        | (exfalso; first | omega | (simp at h5; done))
                        | (skip
                           refine GC.skip (?_ : GC _ _ _ _)
                           refine GC.region ?_
                           refine GL.pure rfl (p_move rfl) ?_
                           refine GL.pure rfl (p_add rfl rfl (w64 (by omega) (by omega))) ?_
                           refine GL.pure rfl (p_assign rfl) ?_
                           refine GL.nil ?_
                           exact fun a w h => ⟨(k + 1), (by omega), (by omega), h.cut (is := []) (js := [12, 13]) ⟨rfl, rfl, rfl, trivial⟩ rfl rfl⟩))))
       · try simp only [decide_eq_true_eq, decide_eq_false_iff_not, Bool.not_eq_true', Bool.not_eq_false', Bool.not_true, Bool.not_false, Bool.not_not, ne_eq, Decidable.not_not, Int.not_lt, Int.not_le, gt_iff_lt, ge_iff_le, bool_true_eq_, bool_false_eq_] at h2
         first
         | (exfalso; first | omega | (simp at h2; done))
         | (skip
            refine GC.exit (?_ : GC _ _ _ _)
            refine GC.seq' ?_
            refine GC.region ?_
            refine GL.pure rfl (p_assign rfl) ?_
            refine GL.nil (?_ : GC _ _ _ _)
            refine GC.ret ?_
            refine fun a w h => Fin.back (rs := [.tmp 4]) (vs := [_]) (is := []) (js := []) rfl ⟨rfl, trivial⟩ rfl rfl ?_ h
            clear h
            exact ⟨rfl, rfl, rfl⟩))
end Go.Proofs.Ytihhpkbbhfcdcaa
