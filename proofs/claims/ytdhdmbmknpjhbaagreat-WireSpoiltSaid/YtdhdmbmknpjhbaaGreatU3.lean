/- Texts of this claim, in one: what the law leans on (part 3). -/
import Derived.Test.YtdhdmbmknpjhbaaGreatU2
set_option linter.unusedVariables false
set_option linter.unusedSimpArgs false
set_option maxRecDepth 100000
namespace Go.Proofs.YtdhdmbmknpjhbaaGreat
open Go Go.Sx Go.Proofs
theorem ment_ct (e : Entry) (A : Option Addr) (cp : Nat) (B : Option Addr) (cq : Nat) (C : Option Addr) (cr : Nat) (hl : e.grp.members.length ≤ 140737488355328) : Ct Tryz.prog 112 [entV e A cp B cq C cr] [] (entQ e A B C) (fun u G Q => u = .int .i64 (entE e) ∧ G = [] ∧ Q = []) := by
 refine Ct.intro Tryz.func112 rfl rfl rfl (fun c hc => ?_)
 refine GC.sr_ ?_; refine GL.step rfl (t_box rfl rfl rfl) (GL.ex fun b_t1 => ?_); refine GL.as_ rfl rfl ?_; refine GL.nl_ ?_; refine GC.joinK1 (ks := [1, 2]) (is := [0]) (js := [0, 1, 2]) (fun (u_ : Unit) => True) (fun (u_ : Unit) => [(3, .bool (decide (entNums e)))]) (fun (u_ : Unit) => []) (fun (u_ : Unit) => []) rfl rfl rfl ?_ ?_
 ·refine GC.region ?_; refine GL.pure rfl (p_fieldAddr fo_64_1 rfl) ?_; refine GL.step rfl (t_mem rfl (m_load (i := 0) rfl rfl ag_3 rfl)) ?_; refine GL.step rfl (t_call rfl fn_144 rfl (is := []) (js := []) rfl rfl (by exact mnum_ct _)) (GL.ret ?_)
  rintro _ _ _ ⟨rfl, rfl, rfl⟩
  refine GL.mv_ rfl rfl ?_; refine GL.split (i := 7) rfl (fun h1 => ?_) (fun h1 => ?_)
  ·try simp only [tst_, formE_iff, grpE_iff] at h1
   refine GL.pureG (s := 7) rfl rfl rfl (p_fieldAddr fo_64_3 rfl) ?_; refine GL.stepG rfl (s := 7) rfl rfl (t_mem rfl (m_load (i := 0) rfl rfl ag_3 rfl)) ?_; refine GL.stepG rfl (s := 7) rfl rfl (t_call rfl fn_144 rfl (is := []) (js := []) rfl rfl (by exact mnum_ct _)) (GL.ret ?_)
   rintro _ _ _ ⟨rfl, rfl, rfl⟩
   refine GL.pure rfl (p_pick_true rfl rfl) ?_; refine GL.mv_ rfl rfl ?_; refine GL.split (i := 12) rfl (fun h2 => ?_) (fun h2 => ?_)
   ·try simp only [tst_, formE_iff, grpE_iff] at h2
    refine GL.pureG (s := 12) rfl rfl rfl (p_fieldAddr fo_64_4 rfl) ?_; refine GL.stepG rfl (s := 12) rfl rfl (t_mem rfl (m_load (i := 0) rfl rfl ag_3 rfl)) ?_; refine GL.stepG rfl (s := 12) rfl rfl (t_call rfl fn_144 rfl (is := []) (js := []) rfl rfl (by exact mnum_ct _)) (GL.ret ?_)
    rintro _ _ _ ⟨rfl, rfl, rfl⟩
    refine GL.pure rfl (p_pick_true rfl rfl) ?_; refine GL.mv_ rfl rfl ?_; refine GL.split (i := 17) rfl (fun h3 => ?_) (fun h3 => ?_)
    ·try simp only [tst_, formE_iff, grpE_iff] at h3
     refine GL.pureG (s := 17) rfl rfl rfl (p_fieldAddr fo_64_2 rfl) ?_; refine GL.stepG rfl (s := 17) rfl rfl (t_mem rfl (m_load (i := 0) rfl rfl ag_3 rfl)) ?_; refine GL.pureG (s := 17) rfl rfl rfl (p_geq rfl rfl) ?_; refine GL.pure rfl (p_pick_true rfl rfl) ?_
     refine GL.mv_ rfl rfl ?_; refine GL.split (i := 22) rfl (fun h4 => ?_) (fun h4 => ?_)
     ·try simp only [tst_, formE_iff, grpE_iff] at h4
      refine GL.pureG (s := 22) rfl rfl rfl (p_fieldAddr fo_64_2 rfl) ?_; refine GL.stepG rfl (s := 22) rfl rfl (t_mem rfl (m_load (i := 0) rfl rfl ag_3 rfl)) ?_; refine GL.pureG (s := 22) rfl rfl rfl (p_leq rfl rfl) ?_; refine GL.pure rfl (p_pick_true rfl rfl) ?_
      refine GL.as_ rfl rfl ?_; refine GL.split (i := 3) rfl (fun h5 => ?_) (fun h5 => ?_)
      ·try simp only [tst_, formE_iff, grpE_iff] at h5
       refine GL.nil ?_
       exact fun a w h => ⟨(()), trivial, by rw [decide_eq_true (show entNums e by simp only [entNums, in62]; simp_all; try omega)]; exact h.cut (is := [0]) (js := [0, 1, 2]) ⟨rfl, rfl, rfl, trivial⟩ rfl rfl⟩
      ·try simp only [tst_, formE_iff, grpE_iff] at h5
       refine GL.nil ?_
       exact fun a w h => ⟨(()), trivial, by rw [decide_eq_false (show ¬ (entNums e) by simp only [entNums, in62]; simp_all; try omega)]; exact h.cut (is := [0]) (js := [0, 1, 2]) ⟨rfl, rfl, rfl, trivial⟩ rfl rfl⟩
     ·try simp only [tst_, formE_iff, grpE_iff] at h4
      iterate 3 refine GL.pass (s := 22) rfl rfl rfl ?_
      refine GL.pure rfl (p_pick_false rfl rfl) ?_; refine GL.as_ rfl rfl ?_; refine GL.nil ?_
      exact fun a w h => ⟨(()), trivial, by rw [decide_eq_false (show ¬ (entNums e) by simp only [entNums, in62]; simp_all; try omega)]; exact h.cut (is := [0]) (js := [0, 1, 2]) ⟨rfl, rfl, rfl, trivial⟩ rfl rfl⟩
    ·try simp only [tst_, formE_iff, grpE_iff] at h3
     iterate 3 refine GL.pass (s := 17) rfl rfl rfl ?_
     refine GL.pure rfl (p_pick_false rfl rfl) ?_; refine GL.mv_ rfl rfl ?_
     iterate 3 refine GL.pass (s := 22) rfl rfl rfl ?_
     refine GL.pure rfl (p_pick_false rfl rfl) ?_; refine GL.as_ rfl rfl ?_; refine GL.nil ?_
     exact fun a w h => ⟨(()), trivial, by rw [decide_eq_false (show ¬ (entNums e) by simp only [entNums, in62]; simp_all; try omega)]; exact h.cut (is := [0]) (js := [0, 1, 2]) ⟨rfl, rfl, rfl, trivial⟩ rfl rfl⟩
   ·try simp only [tst_, formE_iff, grpE_iff] at h2
    iterate 3 refine GL.pass (s := 12) rfl rfl rfl ?_
    refine GL.pure rfl (p_pick_false rfl rfl) ?_; refine GL.mv_ rfl rfl ?_
    iterate 3 refine GL.pass (s := 17) rfl rfl rfl ?_
    refine GL.pure rfl (p_pick_false rfl rfl) ?_; refine GL.mv_ rfl rfl ?_
    iterate 3 refine GL.pass (s := 22) rfl rfl rfl ?_
    refine GL.pure rfl (p_pick_false rfl rfl) ?_; refine GL.as_ rfl rfl ?_; refine GL.nil ?_
    exact fun a w h => ⟨(()), trivial, by rw [decide_eq_false (show ¬ (entNums e) by simp only [entNums, in62]; simp_all; try omega)]; exact h.cut (is := [0]) (js := [0, 1, 2]) ⟨rfl, rfl, rfl, trivial⟩ rfl rfl⟩
  ·try simp only [tst_, formE_iff, grpE_iff] at h1
   iterate 3 refine GL.pass (s := 7) rfl rfl rfl ?_
   refine GL.pure rfl (p_pick_false rfl rfl) ?_; refine GL.mv_ rfl rfl ?_
   iterate 3 refine GL.pass (s := 12) rfl rfl rfl ?_
   refine GL.pure rfl (p_pick_false rfl rfl) ?_; refine GL.mv_ rfl rfl ?_
   iterate 3 refine GL.pass (s := 17) rfl rfl rfl ?_
   refine GL.pure rfl (p_pick_false rfl rfl) ?_; refine GL.mv_ rfl rfl ?_
   iterate 3 refine GL.pass (s := 22) rfl rfl rfl ?_
   refine GL.pure rfl (p_pick_false rfl rfl) ?_; refine GL.as_ rfl rfl ?_; refine GL.nil ?_
   exact fun a w h => ⟨(()), trivial, by rw [decide_eq_false (show ¬ (entNums e) by simp only [entNums, in62]; simp_all; try omega)]; exact h.cut (is := [0]) (js := [0, 1, 2]) ⟨rfl, rfl, rfl, trivial⟩ rfl rfl⟩
 ·intro u_ hj1
  try dsimp only [List.cons_append, List.nil_append] at hj1 ⊢
  refine GC.joinK1 (ks := [2]) (is := [0]) (js := [0, 1, 2]) (fun (u_ : Unit) => True) (fun (u_ : Unit) => [(3, .bool (decide (entNums e ∧ entRest e)))]) (fun (u_ : Unit) => []) (fun (u_ : Unit) => []) rfl rfl rfl ?_ ?_
  ·refine GC.sr_ ?_; refine GL.pure rfl (p_fieldAddr fo_64_0 rfl) ?_; refine GL.step rfl (t_mem rfl (m_load (i := 0) rfl rfl ag_62 rfl)) ?_; refine GL.nl_ ?_; refine GC.block ?_; refine GC.sr_ ?_; refine GL.pure rfl (p_eql rfl rfl) ?_
   refine GL.as_ rfl rfl ?_; refine GL.nl_ ?_; refine GC.cond rfl (fun h6 => ?_) (fun h6 => ?_)
   ·try simp only [tst_, formE_iff, grpE_iff] at h6
    refine GC.region ?_
    iterate 2 refine GL.mv_ rfl rfl ?_
    refine GL.split (i := 32) rfl (fun h7 => ?_) (fun h7 => ?_)
    ·try simp only [tst_, formE_iff, grpE_iff] at h7
     refine GL.pureG (s := 32) rfl rfl rfl (p_fieldAddr fo_64_5 rfl) ?_; refine GL.stepG rfl (s := 32) rfl rfl (t_mem rfl (m_loadN (i := 0) rfl rfl ag_27 (vs := [_, _, _, _, _]) sz_27 ⟨rfl, rfl, rfl, rfl, rfl, trivial⟩)) ?_
     refine GL.stepG rfl (s := 32) rfl rfl (t_call rfl fn_60 rfl (is := []) (js := []) rfl rfl (by exact form_ct e.op.kind e.op.at_ e.op.n _ e.op.data.length _ _ e.op.old.length _)) (GL.ret ?_)
     rintro _ _ _ ⟨rfl, rfl, rfl⟩
     refine GL.pureG (s := 32) rfl rfl rfl (p_eql rfl rfl) ?_; refine GL.pure rfl (p_pick_true rfl rfl) ?_; refine GL.mv_ rfl rfl ?_; refine GL.split (i := 38) rfl (fun h8 => ?_) (fun h8 => ?_)
     ·try simp only [tst_, formE_iff, grpE_iff] at h8
      refine GL.pureG (s := 38) rfl rfl rfl (p_fieldAddr fo_64_6 rfl) ?_; refine GL.pureG (s := 38) rfl rfl rfl (p_fieldAddr fo_33_0 rfl) ?_; refine GL.stepG rfl (s := 38) rfl rfl (t_mem rfl (m_load (i := 0) rfl rfl ag_3 rfl)) ?_
      refine GL.pureG (s := 38) rfl rfl rfl (p_eql rfl rfl) ?_; refine GL.pure rfl (p_pick_true rfl rfl) ?_; refine GL.mv_ rfl rfl ?_; refine GL.split (i := 44) rfl (fun h9 => ?_) (fun h9 => ?_)
      ·try simp only [tst_, formE_iff, grpE_iff] at h9
       refine GL.pureG (s := 44) rfl rfl rfl (p_fieldAddr fo_64_6 rfl) ?_; refine GL.pureG (s := 44) rfl rfl rfl (p_fieldAddr fo_33_1 rfl) ?_; refine GL.stepG rfl (s := 44) rfl rfl (t_mem rfl (m_load (i := 0) rfl rfl ag_31 rfl)) ?_
       refine GL.pureG (s := 44) rfl rfl rfl (p_len Tryz.underlying31 rfl) ?_; refine GL.pureG (s := 44) rfl rfl rfl (p_eql rfl rfl) ?_; refine GL.pure rfl (p_pick_true rfl rfl) ?_; refine GL.as_ rfl rfl ?_; refine GL.split (i := 3) rfl (fun h10 => ?_) (fun h10 => ?_)
       ·try simp only [tst_, formE_iff, grpE_iff] at h10
        refine GL.nil ?_
        exact fun a w h => ⟨(()), trivial, by rw [decide_eq_true (show entNums e ∧ entRest e by simp only [entRest, formD]; simp_all; try omega)]; exact h.cut (is := [0]) (js := [0, 1, 2]) ⟨rfl, rfl, trivial⟩ rfl rfl⟩
       ·try simp only [tst_, formE_iff, grpE_iff] at h10
        refine GL.nil ?_
        exact fun a w h => ⟨(()), trivial, by rw [decide_eq_false (show ¬ (entNums e ∧ entRest e) by simp only [entRest, formD]; simp_all; try omega)]; exact h.cut (is := [0]) (js := [0, 1, 2]) ⟨rfl, rfl, trivial⟩ rfl rfl⟩
      ·try simp only [tst_, formE_iff, grpE_iff] at h9
       iterate 5 refine GL.pass (s := 44) rfl rfl rfl ?_
       refine GL.pure rfl (p_pick_false rfl rfl) ?_; refine GL.as_ rfl rfl ?_; refine GL.nil ?_
       exact fun a w h => ⟨(()), trivial, by rw [decide_eq_false (show ¬ (entNums e ∧ entRest e) by simp only [entRest, formD]; simp_all; try omega)]; exact h.cut (is := [0]) (js := [0, 1, 2]) ⟨rfl, rfl, trivial⟩ rfl rfl⟩
     ·try simp only [tst_, formE_iff, grpE_iff] at h8
      iterate 4 refine GL.pass (s := 38) rfl rfl rfl ?_
      refine GL.pure rfl (p_pick_false rfl rfl) ?_; refine GL.mv_ rfl rfl ?_
      iterate 5 refine GL.pass (s := 44) rfl rfl rfl ?_
      refine GL.pure rfl (p_pick_false rfl rfl) ?_; refine GL.as_ rfl rfl ?_; refine GL.nil ?_
      exact fun a w h => ⟨(()), trivial, by rw [decide_eq_false (show ¬ (entNums e ∧ entRest e) by simp only [entRest, formD]; simp_all; try omega)]; exact h.cut (is := [0]) (js := [0, 1, 2]) ⟨rfl, rfl, trivial⟩ rfl rfl⟩
    ·try simp only [tst_, formE_iff, grpE_iff] at h7
     iterate 4 refine GL.pass (s := 32) rfl rfl rfl ?_
     refine GL.pure rfl (p_pick_false rfl rfl) ?_; refine GL.mv_ rfl rfl ?_
     iterate 4 refine GL.pass (s := 38) rfl rfl rfl ?_
     refine GL.pure rfl (p_pick_false rfl rfl) ?_; refine GL.mv_ rfl rfl ?_
     iterate 5 refine GL.pass (s := 44) rfl rfl rfl ?_
     refine GL.pure rfl (p_pick_false rfl rfl) ?_; refine GL.as_ rfl rfl ?_; refine GL.nil ?_
     exact fun a w h => ⟨(()), trivial, by rw [decide_eq_false (show ¬ (entNums e ∧ entRest e) by simp only [entRest, formD]; simp_all; try omega)]; exact h.cut (is := [0]) (js := [0, 1, 2]) ⟨rfl, rfl, trivial⟩ rfl rfl⟩
   ·try simp only [tst_, formE_iff, grpE_iff] at h6
    refine GC.sr_ ?_; refine GL.pure rfl (p_eql rfl rfl) ?_; refine GL.as_ rfl rfl ?_; refine GL.nl_ ?_; refine GC.cond rfl (fun h11 => ?_) (fun h11 => ?_)
    ·try simp only [tst_, formE_iff, grpE_iff] at h11
     refine GC.region ?_
     iterate 2 refine GL.mv_ rfl rfl ?_
     refine GL.split (i := 54) rfl (fun h12 => ?_) (fun h12 => ?_)
     ·try simp only [tst_, formE_iff, grpE_iff] at h12
      refine GL.pureG (s := 54) rfl rfl rfl (p_fieldAddr fo_64_5 rfl) ?_; refine GL.stepG rfl (s := 54) rfl rfl (t_mem rfl (m_loadN (i := 0) rfl rfl ag_27 (vs := [_, _, _, _, _]) sz_27 ⟨rfl, rfl, rfl, rfl, rfl, trivial⟩)) ?_
      refine GL.pureG (s := 54) rfl rfl rfl (p_build ze_27 of_27 rfl rfl) ?_; refine GL.stepG rfl (s := 54) rfl rfl (t_call rfl fn_37 rfl (is := []) (js := [0, 1]) rfl rfl (by exact bzero_ct e.op _ _ _ _)) (GL.ret ?_)
      rintro _ _ _ ⟨rfl, rfl, rfl⟩
      refine GL.pure rfl (p_pick_true rfl rfl) ?_; refine GL.mv_ rfl rfl ?_; refine GL.split (i := 60) rfl (fun h13 => ?_) (fun h13 => ?_)
      ·try simp only [tst_, formE_iff, grpE_iff] at h13
       refine GL.pureG (s := 60) rfl rfl rfl (p_fieldAddr fo_64_6 rfl) ?_; refine GL.stepG rfl (s := 60) rfl rfl (t_mem rfl (m_loadN (i := 0) rfl rfl ag_33 (vs := [_, _]) sz_33 ⟨rfl, rfl, trivial⟩)) ?_; refine GL.stepG rfl (s := 60) rfl rfl (t_call rfl fn_62 rfl (is := []) (js := [2]) rfl rfl (by exact mgroup_ct e.grp.epoch _ e.grp.members _ (by first | assumption | omega))) (GL.ret ?_)
       rintro _ _ _ ⟨rfl, rfl, rfl⟩
       refine GL.pureG (s := 60) rfl rfl rfl (p_eql rfl rfl) ?_; refine GL.pure rfl (p_pick_true rfl rfl) ?_; refine GL.mv_ rfl rfl ?_; refine GL.split (i := 66) rfl (fun h14 => ?_) (fun h14 => ?_)
       ·try simp only [tst_, formE_iff, grpE_iff] at h14
        refine GL.pureG (s := 66) rfl rfl rfl (p_fieldAddr fo_64_2 rfl) ?_; refine GL.stepG rfl (s := 66) rfl rfl (t_mem rfl (m_load (i := 0) rfl rfl ag_3 rfl)) ?_; refine GL.pureG (s := 66) rfl rfl rfl (p_lss rfl rfl) ?_
        refine GL.pure rfl (p_pick_true rfl rfl) ?_; refine GL.as_ rfl rfl ?_; refine GL.split (i := 3) rfl (fun h15 => ?_) (fun h15 => ?_)
        ·try simp only [tst_, formE_iff, grpE_iff] at h15
         refine GL.nil ?_
         exact fun a w h => ⟨(()), trivial, by rw [decide_eq_true (show entNums e ∧ entRest e by simp only [entRest, formD]; simp_all; try omega)]; exact h.cut (is := [0]) (js := [0, 1, 2]) ⟨rfl, rfl, trivial⟩ rfl rfl⟩
        ·try simp only [tst_, formE_iff, grpE_iff] at h15
         refine GL.nil ?_
         exact fun a w h => ⟨(()), trivial, by rw [decide_eq_false (show ¬ (entNums e ∧ entRest e) by simp only [entRest, formD]; simp_all; try omega)]; exact h.cut (is := [0]) (js := [0, 1, 2]) ⟨rfl, rfl, trivial⟩ rfl rfl⟩
       ·try simp only [tst_, formE_iff, grpE_iff] at h14
        iterate 3 refine GL.pass (s := 66) rfl rfl rfl ?_
        refine GL.pure rfl (p_pick_false rfl rfl) ?_; refine GL.as_ rfl rfl ?_; refine GL.nil ?_
        exact fun a w h => ⟨(()), trivial, by rw [decide_eq_false (show ¬ (entNums e ∧ entRest e) by simp only [entRest, formD]; simp_all; try omega)]; exact h.cut (is := [0]) (js := [0, 1, 2]) ⟨rfl, rfl, trivial⟩ rfl rfl⟩
      ·try simp only [tst_, formE_iff, grpE_iff] at h13
       iterate 4 refine GL.pass (s := 60) rfl rfl rfl ?_
       refine GL.pure rfl (p_pick_false rfl rfl) ?_; refine GL.mv_ rfl rfl ?_
       iterate 3 refine GL.pass (s := 66) rfl rfl rfl ?_
       refine GL.pure rfl (p_pick_false rfl rfl) ?_; refine GL.as_ rfl rfl ?_; refine GL.nil ?_
       exact fun a w h => ⟨(()), trivial, by rw [decide_eq_false (show ¬ (entNums e ∧ entRest e) by simp only [entRest, formD]; simp_all; try omega)]; exact h.cut (is := [0]) (js := [0, 1, 2]) ⟨rfl, rfl, trivial⟩ rfl rfl⟩
     ·try simp only [tst_, formE_iff, grpE_iff] at h12
      iterate 4 refine GL.pass (s := 54) rfl rfl rfl ?_
      refine GL.pure rfl (p_pick_false rfl rfl) ?_; refine GL.mv_ rfl rfl ?_
      iterate 4 refine GL.pass (s := 60) rfl rfl rfl ?_
      refine GL.pure rfl (p_pick_false rfl rfl) ?_; refine GL.mv_ rfl rfl ?_
      iterate 3 refine GL.pass (s := 66) rfl rfl rfl ?_
      refine GL.pure rfl (p_pick_false rfl rfl) ?_; refine GL.as_ rfl rfl ?_; refine GL.nil ?_
      exact fun a w h => ⟨(()), trivial, by rw [decide_eq_false (show ¬ (entNums e ∧ entRest e) by simp only [entRest, formD]; simp_all; try omega)]; exact h.cut (is := [0]) (js := [0, 1, 2]) ⟨rfl, rfl, trivial⟩ rfl rfl⟩
    ·try simp only [tst_, formE_iff, grpE_iff] at h11
     refine GC.region ?_; refine GL.as_ rfl rfl ?_; refine GL.nil ?_
     exact fun a w h => ⟨(()), trivial, by rw [decide_eq_false (show ¬ (entNums e ∧ entRest e) by simp only [entRest, formD]; simp_all; try omega)]; exact h.cut (is := [0]) (js := [0, 1, 2]) ⟨rfl, rfl, trivial⟩ rfl rfl⟩
  ·intro u_ hj2
   try dsimp only [List.cons_append, List.nil_append] at hj2 ⊢
   refine GC.seq' ?_; refine GC.sr_ ?_; refine GL.mv_ rfl rfl ?_; refine GL.pure rfl (p_not rfl) ?_; refine GL.nl_ ?_; refine GC.cond rfl (fun h16 => ?_) (fun h16 => ?_)
   ·try simp only [tst_, formE_iff, grpE_iff] at h16
    refine GC.sr_ ?_; refine GL.as_ rfl rfl ?_; refine GL.nl_ ?_; refine GC.ret ?_
    refine fun a w h => Fin.back (rs := [.tmp 2]) (vs := [_]) (is := []) (js := []) rfl ⟨rfl, trivial⟩ rfl rfl ?_ h
    clear h
    first | exact ⟨by rw [entE_yes (by assumption)]; rfl, rfl, rfl⟩ | exact ⟨by rw [entE_no (by assumption)]; rfl, rfl, rfl⟩
   ·try simp only [tst_, formE_iff, grpE_iff] at h16
    refine GC.skip (?_ : GC _ _ _ _)
    refine GC.sr_ ?_; refine GL.as_ rfl rfl ?_; refine GL.nl_ ?_; refine GC.ret ?_
    refine fun a w h => Fin.back (rs := [.tmp 2]) (vs := [_]) (is := []) (js := []) rfl ⟨rfl, trivial⟩ rfl rfl ?_ h
    clear h
    first | exact ⟨by rw [entE_yes (by assumption)]; rfl, rfl, rfl⟩ | exact ⟨by rw [entE_no (by assumption)]; rfl, rfl, rfl⟩
end Go.Proofs.YtdhdmbmknpjhbaaGreat
namespace Go.Proofs.YtdhdmbmknpjhbaaGreat
open Go Go.Sx Go.Proofs
theorem isNum_in {n : Int} (h : isNum n = true) : 1 ≤ n ∧ n ≤ 4611686018427387904 := by simp [isNum] at h; exact h
theorem lrow_ct (A : Option Addr) (l : List Entry) (cp : Nat) (hl : l.length ≤ 140737488355328) (hm : ∀ e ∈ l, EntLen e) : Ct Tryz.prog 110 [.slice A l.length cp] [] [Pers.row kEntry A l] (fun u G Q => u = .bool (decide (rowOkE l)) ∧ G = [] ∧ Q = []) := by
 refine Ct.intro Tryz.func110 rfl rfl rfl (fun c hc => ?_)
 refine GC.sr_ ?_; refine GL.as_ rfl rfl ?_; refine GL.nl_ ?_; refine GC.seq' ?_; refine GC.sr_ ?_; refine GL.mv_ rfl rfl ?_; refine GL.pure rfl (p_len Tryz.underlying40 rfl) ?_; refine GL.mv_ rfl rfl ?_; refine GL.nl_ ?_
 refine GC.block ?_; refine GC.loopK1 (ks := [0, 5, 6]) (is := []) (js := [0]) (fun (k : Nat) => k ≤ l.length ∧ ∀ j : Nat, j < k → entOk (gt l (j : Int)) ∧ (0 < j → (gt l (j : Int)).num - 1 = (gt l ((j : Int) - 1)).num)) (fun (k : Nat) => [(7, .int .i64 (k : Int))]) (fun (k : Nat) => []) (fun (k : Nat) => []) (fun (k : Nat) => l.length - k) (0) rfl rfl rfl (fun a w h => ⟨⟨by omega, fun j hj => by omega⟩, h.cutK (is := []) (js := [0]) (ks := [0, 5, 6]) ⟨rfl, trivial⟩ rfl rfl rfl⟩) ?_
 intro k hk
 try dsimp only [List.cons_append, List.nil_append] at hk ⊢
 obtain ⟨hk, hall⟩ := hk
 refine GC.sr_ ?_; refine GL.pure rfl (p_lss rfl rfl) ?_; refine GL.nl_ ?_; refine GC.seq' ?_; refine GC.cond rfl (fun h1 => ?_) (fun h1 => ?_)
 ·try simp only [tst_, entE_iff] at h1
  first
  | (exfalso; omega)
  |(skip
    refine GC.skip (?_ : GC _ _ _ _)
    refine GC.seq' ?_; refine GC.block ?_; refine GC.sr_ ?_; refine GL.mv_ rfl rfl ?_; refine GL.step rfl (t_index (i := 0) rfl rfl rfl rfl Tryz.underlying40 sz_64 (by first | omega | (have := isNum_in (show entOk (gt l ((k + 1 : Nat) : Int)) from by assumption).1; dsimp only; omega)) (gt_ok (by first | omega | (have := isNum_in (show entOk (gt l ((k + 1 : Nat) : Int)) from by assumption).1; dsimp only; omega)) (by first | omega | (have := isNum_in (show entOk (gt l ((k + 1 : Nat) : Int)) from by assumption).1; dsimp only; omega)))) (GL.ex fun p_x10 => GL.ex fun r_x10 => GL.and fun ok_x10 => ?_)
    rcases r_x10 with ⟨_, ⟨_, ⟨_, ⟨_, ⟨_, ⟨⟨_, ⟨_, ⟨_, ⟨⟨Ax10_0, cpx10_0⟩, ⟨Ax10_1, cpx10_1⟩⟩⟩⟩⟩, ⟨_, ⟨Ax10_2, cpx10_2⟩⟩⟩⟩⟩⟩⟩⟩
    refine GL.step rfl (t_mem rfl (m_loadPN (i := 0) rfl rfl ag_64 (vs := [_, _, _, _, _, _, _, _, _, _, _, _]) sz_64 ⟨rfl, rfl, rfl, rfl, rfl, rfl, rfl, rfl, rfl, rfl, rfl, rfl, trivial⟩)) ?_; refine GL.step rfl (t_alloc rfl ze_64) (GL.ex fun b_t4 => ?_)
    refine GL.as_ rfl rfl ?_; refine GL.step rfl (t_storeN (i := 0) rfl rfl rfl sz_64 rfl rfl rfl) ?_; refine GL.nl_ ?_; refine GC.seq' ?_
    have hme := (hm _ (gt_elem (l := l) (k := k) (by omega))).m
    have hml : (gt l (k : Int)).grp.members.length ≤ 140737488355328 := by omega
    rcases k with _ | k
    ·skip
     refine GC.regionQ wide_ (by kernel_rfl) ?_; refine GQ.step rfl (q_mem (m_loadN (i := 0) rfl rfl ag_64 (vs := [_, _, _, _, _, _, _, _, _, _, _, _]) sz_64 ⟨rfl, rfl, rfl, rfl, rfl, rfl, rfl, rfl, rfl, rfl, rfl, rfl, trivial⟩)) ?_
     refine GQ.step rfl (q_call fn_112 rfl (js := [1, 2, 3]) rfl (by exact ment_ct (gt l (_ : Int)) _ _ _ _ _ _ (by first | assumption | omega))) ?_; refine GQ.step rfl (q_pure (p_neq rfl rfl)) ?_; refine GQ.step rfl (q_pure (p_move rfl)) ?_
     refine GQ.split (i := 15) rfl (fun h2 => ?_) (fun h2 => ?_)
     ·try simp only [tst_, entE_iff] at h2
      first
      | (exfalso; omega)
      |(skip
        iterate 3 refine GQ.pass (s := 15) rfl rfl rfl ?_
        iterate 10 refine GQ.passU (s := 18) rfl rfl rfl ?_
        refine GQ.pass (s := 15) rfl rfl rfl ?_; refine GQ.step rfl (q_pure (p_pick_true rfl rfl)) ?_
        refine GQ.nil (?_ : GC _ _ _ _)
        refine GC.cond_true rfl ?_; refine GC.sr_ ?_; refine GL.as_ rfl rfl ?_; refine GL.nl_ ?_; refine GC.ret ?_
        refine fun a w h => Fin.back (rs := [.tmp 2]) (vs := [_]) (is := []) (js := []) rfl ⟨rfl, trivial⟩ rfl rfl ?_ h
        clear h
        exact ⟨congrArg Value.bool (decide_eq_false fun H => by first | exact absurd (H 0 (by omega)).1 (by assumption) | exact absurd (H (k + 1) (by omega)).1 (by assumption) | exact absurd ((H (k + 1) (by omega)).2 (by omega)) (by assumption)).symm, rfl, rfl⟩)
     ·try simp only [tst_, entE_iff] at h2
      first
      | (exfalso; omega)
      |(skip
        refine GQ.stepG (s := 15) rfl rfl rfl (q_pure (p_move rfl)) ?_; refine GQ.stepG (s := 15) rfl rfl rfl (q_pure (p_gtr rfl rfl)) ?_; refine GQ.stepG (s := 15) rfl rfl rfl (q_pure (p_move rfl)) ?_; refine GQ.split (i := 18) rfl (fun h3 => ?_) (fun h3 => ?_)
        ·try simp only [tst_, entE_iff] at h3
         first
         | (exfalso; omega)
         |(skip
           refine GQ.stepG (s := 18) rfl rfl rfl (q_pure (p_fieldAddr fo_64_1 rfl)) ?_; refine GQ.stepG (s := 18) rfl rfl rfl (q_mem (m_load (i := 0) rfl rfl ag_3 rfl)) ?_; refine GQ.stepG (s := 18) rfl rfl rfl (q_pure (p_sub rfl rfl (w64 (by first | omega | (have := isNum_in (show entOk (gt l ((k + 1 : Nat) : Int)) from by assumption).1; dsimp only; omega)) (by first | omega | (have := isNum_in (show entOk (gt l ((k + 1 : Nat) : Int)) from by assumption).1; dsimp only; omega))))) ?_
           iterate 2 refine GQ.stepG (s := 18) rfl rfl rfl (q_pure (p_move rfl)) ?_
           refine GQ.stepG (s := 18) rfl rfl rfl (q_pure (p_sub rfl rfl (w64 (by first | omega | (have := isNum_in (show entOk (gt l ((k + 1 : Nat) : Int)) from by assumption).1; dsimp only; omega)) (by first | omega | (have := isNum_in (show entOk (gt l ((k + 1 : Nat) : Int)) from by assumption).1; dsimp only; omega))))) ?_
           exact (by omega : False).elim)
        ·try simp only [tst_, entE_iff] at h3
         first
         | (exfalso; omega)
         |(skip
           iterate 10 refine GQ.pass (s := 18) rfl rfl rfl ?_
           refine GQ.stepG (s := 15) rfl rfl rfl (q_pure (p_pick_false rfl rfl)) ?_; refine GQ.step rfl (q_pure (p_pick_false rfl rfl)) ?_
           refine GQ.nil (?_ : GC _ _ _ _)
           refine GC.cond_false rfl ?_
           refine GC.skip (?_ : GC _ _ _ _)
           refine GC.region ?_; refine GL.pure rfl (p_add rfl rfl (w64 (by first | omega | (have := isNum_in (show entOk (gt l ((k + 1 : Nat) : Int)) from by assumption).1; dsimp only; omega)) (by first | omega | (have := isNum_in (show entOk (gt l ((k + 1 : Nat) : Int)) from by assumption).1; dsimp only; omega)))) ?_
           refine GL.mv_ rfl rfl ?_; refine GL.nil ?_
           exact fun a w h => ⟨(_ + 1), (by omega), ⟨by omega, fun j hj => (Nat.lt_succ_iff_lt_or_eq.1 hj).elim (hall j) (fun e => by subst e; exact ⟨by assumption, fun _ => by first | omega | assumption⟩)⟩, h.cut (is := []) (js := [4]) ⟨rfl, rfl, rfl, rfl, trivial⟩ rfl rfl⟩))
    ·skip
     refine GC.lay (x := .const (.slice A l.length cp)) (y := .const (.int .i64 (((k + 1 : Nat) : Int) - 1))) (j := 4) rfl rfl rfl (by first | omega | (have := isNum_in (show entOk (gt l ((k + 1 : Nat) : Int)) from by assumption).1; dsimp only; omega)) (gt_ok (by first | omega | (have := isNum_in (show entOk (gt l ((k + 1 : Nat) : Int)) from by assumption).1; dsimp only; omega)) (by first | omega | (have := isNum_in (show entOk (gt l ((k + 1 : Nat) : Int)) from by assumption).1; dsimp only; omega))) (fun p_xp r_xp hA_xp ok_xp => ?_)
     rcases r_xp with ⟨_, ⟨_, ⟨_, ⟨_, ⟨_, ⟨⟨_, ⟨_, ⟨_, ⟨⟨Axp_0, cpxp_0⟩, ⟨Axp_1, cpxp_1⟩⟩⟩⟩⟩, ⟨_, ⟨Axp_2, cpxp_2⟩⟩⟩⟩⟩⟩⟩⟩
     refine GC.regionQ wide_ (by kernel_rfl) ?_; refine GQ.step rfl (q_mem (m_loadN (i := 0) rfl rfl ag_64 (vs := [_, _, _, _, _, _, _, _, _, _, _, _]) sz_64 ⟨rfl, rfl, rfl, rfl, rfl, rfl, rfl, rfl, rfl, rfl, rfl, rfl, trivial⟩)) ?_
     refine GQ.step rfl (q_call fn_112 rfl (js := [5, 6, 7]) rfl (by exact ment_ct (gt l (_ : Int)) _ _ _ _ _ _ (by first | assumption | omega))) ?_; refine GQ.step rfl (q_pure (p_neq rfl rfl)) ?_; refine GQ.step rfl (q_pure (p_move rfl)) ?_
     refine GQ.split (i := 15) rfl (fun h4 => ?_) (fun h4 => ?_)
     ·try simp only [tst_, entE_iff] at h4
      first
      | (exfalso; omega)
      |(skip
        iterate 3 refine GQ.pass (s := 15) rfl rfl rfl ?_
        iterate 10 refine GQ.passU (s := 18) rfl rfl rfl ?_
        refine GQ.pass (s := 15) rfl rfl rfl ?_; refine GQ.step rfl (q_pure (p_pick_true rfl rfl)) ?_
        refine GQ.nil (?_ : GC _ _ _ _)
        refine GC.cond_true rfl ?_; refine GC.sr_ ?_; refine GL.as_ rfl rfl ?_; refine GL.nl_ ?_; refine GC.ret ?_
        refine fun a w h => Fin.back (rs := [.tmp 2]) (vs := [_]) (is := []) (js := []) rfl ⟨rfl, trivial⟩ rfl rfl ?_ h
        clear h
        exact ⟨congrArg Value.bool (decide_eq_false fun H => by first | exact absurd (H 0 (by omega)).1 (by assumption) | exact absurd (H (k + 1) (by omega)).1 (by assumption) | exact absurd ((H (k + 1) (by omega)).2 (by omega)) (by assumption)).symm, rfl, rfl⟩)
     ·try simp only [tst_, entE_iff] at h4
      first
      | (exfalso; omega)
      |(skip
        refine GQ.stepG (s := 15) rfl rfl rfl (q_pure (p_move rfl)) ?_; refine GQ.stepG (s := 15) rfl rfl rfl (q_pure (p_gtr rfl rfl)) ?_; refine GQ.stepG (s := 15) rfl rfl rfl (q_pure (p_move rfl)) ?_; refine GQ.split (i := 18) rfl (fun h5 => ?_) (fun h5 => ?_)
        ·try simp only [tst_, entE_iff] at h5
         first
         | (exfalso; omega)
         |(skip
           refine GQ.stepG (s := 18) rfl rfl rfl (q_pure (p_fieldAddr fo_64_1 rfl)) ?_; refine GQ.stepG (s := 18) rfl rfl rfl (q_mem (m_load (i := 0) rfl rfl ag_3 rfl)) ?_; refine GQ.stepG (s := 18) rfl rfl rfl (q_pure (p_sub rfl rfl (w64 (by first | omega | (have := isNum_in (show entOk (gt l ((k + 1 : Nat) : Int)) from by assumption).1; dsimp only; omega)) (by first | omega | (have := isNum_in (show entOk (gt l ((k + 1 : Nat) : Int)) from by assumption).1; dsimp only; omega))))) ?_
           iterate 2 refine GQ.stepG (s := 18) rfl rfl rfl (q_pure (p_move rfl)) ?_
           refine GQ.stepG (s := 18) rfl rfl rfl (q_pure (p_sub rfl rfl (w64 (by first | omega | (have := isNum_in (show entOk (gt l ((k + 1 : Nat) : Int)) from by assumption).1; dsimp only; omega)) (by first | omega | (have := isNum_in (show entOk (gt l ((k + 1 : Nat) : Int)) from by assumption).1; dsimp only; omega))))) ?_
           refine GQ.stepG (s := 18) rfl rfl rfl (q_pure (p_indexL hA_xp rfl rfl Tryz.underlying40 sz_64 (by first | omega | (have := isNum_in (show entOk (gt l ((k + 1 : Nat) : Int)) from by assumption).1; dsimp only; omega)) (by first | omega | (have := isNum_in (show entOk (gt l ((k + 1 : Nat) : Int)) from by assumption).1; dsimp only; omega)))) ?_
           refine GQ.stepG (s := 18) rfl rfl rfl (q_pure (p_fieldAddr' fo_64_1 rfl)) ?_; refine GQ.stepG (s := 18) rfl rfl rfl (q_mem (m_loadP (i := 0) rfl rfl ag_3 rfl)) ?_; refine GQ.stepG (s := 18) rfl rfl rfl (q_pure (p_neq rfl rfl)) ?_
           refine GQ.stepG (s := 15) rfl rfl rfl (q_pure (p_pick_true rfl rfl)) ?_; refine GQ.step rfl (q_pure (p_pick_false rfl rfl)) ?_
           refine GQ.nil (?_ : GC _ _ _ _)
           refine GC.cond rfl (fun h6 => ?_) (fun h6 => ?_)
           ·try simp only [tst_, entE_iff] at h6
            first
            | (exfalso; omega)
            |(skip
              refine GC.sr_ ?_; refine GL.as_ rfl rfl ?_; refine GL.nl_ ?_; refine GC.ret ?_
              refine fun a w h => Fin.back (rs := [.tmp 2]) (vs := [_]) (is := []) (js := []) rfl ⟨rfl, trivial⟩ rfl rfl ?_ h
              clear h
              exact ⟨congrArg Value.bool (decide_eq_false fun H => by first | exact absurd (H 0 (by omega)).1 (by assumption) | exact absurd (H (k + 1) (by omega)).1 (by assumption) | exact absurd ((H (k + 1) (by omega)).2 (by omega)) (by assumption)).symm, rfl, rfl⟩)
           ·try simp only [tst_, entE_iff] at h6
            first
            | (exfalso; omega)
            |(skip
              refine GC.skip (?_ : GC _ _ _ _)
              refine GC.region ?_; refine GL.pure rfl (p_add rfl rfl (w64 (by first | omega | (have := isNum_in (show entOk (gt l ((k + 1 : Nat) : Int)) from by assumption).1; dsimp only; omega)) (by first | omega | (have := isNum_in (show entOk (gt l ((k + 1 : Nat) : Int)) from by assumption).1; dsimp only; omega)))) ?_
              refine GL.mv_ rfl rfl ?_; refine GL.nil ?_
              exact fun a w h => ⟨(_ + 1), (by omega), ⟨by omega, fun j hj => (Nat.lt_succ_iff_lt_or_eq.1 hj).elim (hall j) (fun e => by subst e; exact ⟨by assumption, fun _ => by first | omega | assumption⟩)⟩, h.cut (is := []) (js := [8]) ⟨rfl, rfl, rfl, rfl, trivial⟩ rfl rfl⟩))
        ·try simp only [tst_, entE_iff] at h5
         first
         | (exfalso; omega)
         |(skip
           iterate 10 refine GQ.pass (s := 18) rfl rfl rfl ?_
           refine GQ.stepG (s := 15) rfl rfl rfl (q_pure (p_pick_false rfl rfl)) ?_; refine GQ.step rfl (q_pure (p_pick_false rfl rfl)) ?_
           refine GQ.nil (?_ : GC _ _ _ _)
           refine GC.cond_false rfl ?_
           refine GC.skip (?_ : GC _ _ _ _)
           refine GC.region ?_; refine GL.pure rfl (p_add rfl rfl (w64 (by first | omega | (have := isNum_in (show entOk (gt l ((k + 1 : Nat) : Int)) from by assumption).1; dsimp only; omega)) (by first | omega | (have := isNum_in (show entOk (gt l ((k + 1 : Nat) : Int)) from by assumption).1; dsimp only; omega)))) ?_
           refine GL.mv_ rfl rfl ?_; refine GL.nil ?_
           exact fun a w h => ⟨(_ + 1), (by omega), ⟨by omega, fun j hj => (Nat.lt_succ_iff_lt_or_eq.1 hj).elim (hall j) (fun e => by subst e; exact ⟨by assumption, fun _ => by first | omega | assumption⟩)⟩, h.cut (is := []) (js := [8]) ⟨rfl, rfl, rfl, rfl, trivial⟩ rfl rfl⟩)))
 ·try simp only [tst_, entE_iff] at h1
  first
  | (exfalso; omega)
  |(skip
    refine GC.exit (?_ : GC _ _ _ _)
    refine GC.sr_ ?_; refine GL.as_ rfl rfl ?_; refine GL.nl_ ?_; refine GC.ret ?_
    refine fun a w h => Fin.back (rs := [.tmp 2]) (vs := [_]) (is := []) (js := []) rfl ⟨rfl, trivial⟩ rfl rfl ?_ h
    clear h
    exact ⟨congrArg Value.bool (decide_eq_true fun j hj => hall j (by omega)).symm, rfl, rfl⟩)
theorem wrow_ct (A : Option Addr) (l : List Entry) (cp : Nat) (hl : l.length ≤ 140737488355328) (hm : ∀ e ∈ l, EntLen e) : Ct Tryz.prog 64 [.slice A l.length cp] [] [Pers.row kEntry A l] (fun u G Q => u = .bool (decide (rowOkE l)) ∧ G = [] ∧ Q = []) := by
 refine Ct.intro Tryz.func64 rfl rfl rfl (fun c hc => ?_)
 refine GC.sr_ ?_; refine GL.as_ rfl rfl ?_; refine GL.nl_ ?_; refine GC.seq' ?_; refine GC.sr_ ?_; refine GL.mv_ rfl rfl ?_; refine GL.pure rfl (p_len Tryz.underlying40 rfl) ?_; refine GL.mv_ rfl rfl ?_; refine GL.nl_ ?_
 refine GC.block ?_; refine GC.loopK1 (ks := [0, 5, 6]) (is := []) (js := [0]) (fun (k : Nat) => k ≤ l.length ∧ ∀ j : Nat, j < k → entOk (gt l (j : Int)) ∧ (0 < j → (gt l (j : Int)).num - 1 = (gt l ((j : Int) - 1)).num)) (fun (k : Nat) => [(7, .int .i64 (k : Int))]) (fun (k : Nat) => []) (fun (k : Nat) => []) (fun (k : Nat) => l.length - k) (0) rfl rfl rfl (fun a w h => ⟨⟨by omega, fun j hj => by omega⟩, h.cutK (is := []) (js := [0]) (ks := [0, 5, 6]) ⟨rfl, trivial⟩ rfl rfl rfl⟩) ?_
 intro k hk
 try dsimp only [List.cons_append, List.nil_append] at hk ⊢
 obtain ⟨hk, hall⟩ := hk
 refine GC.sr_ ?_; refine GL.pure rfl (p_lss rfl rfl) ?_; refine GL.nl_ ?_; refine GC.seq' ?_; refine GC.cond rfl (fun h1 => ?_) (fun h1 => ?_)
 ·try simp only [tst_, entE_iff] at h1
  first
  | (exfalso; omega)
  |(skip
    refine GC.skip (?_ : GC _ _ _ _)
    refine GC.seq' ?_; refine GC.block ?_; refine GC.sr_ ?_; refine GL.mv_ rfl rfl ?_; refine GL.step rfl (t_index (i := 0) rfl rfl rfl rfl Tryz.underlying40 sz_64 (by first | omega | (have := isNum_in (show entOk (gt l ((k + 1 : Nat) : Int)) from by assumption).1; dsimp only; omega)) (gt_ok (by first | omega | (have := isNum_in (show entOk (gt l ((k + 1 : Nat) : Int)) from by assumption).1; dsimp only; omega)) (by first | omega | (have := isNum_in (show entOk (gt l ((k + 1 : Nat) : Int)) from by assumption).1; dsimp only; omega)))) (GL.ex fun p_x10 => GL.ex fun r_x10 => GL.and fun ok_x10 => ?_)
    rcases r_x10 with ⟨_, ⟨_, ⟨_, ⟨_, ⟨_, ⟨⟨_, ⟨_, ⟨_, ⟨⟨Ax10_0, cpx10_0⟩, ⟨Ax10_1, cpx10_1⟩⟩⟩⟩⟩, ⟨_, ⟨Ax10_2, cpx10_2⟩⟩⟩⟩⟩⟩⟩⟩
    refine GL.step rfl (t_mem rfl (m_loadPN (i := 0) rfl rfl ag_64 (vs := [_, _, _, _, _, _, _, _, _, _, _, _]) sz_64 ⟨rfl, rfl, rfl, rfl, rfl, rfl, rfl, rfl, rfl, rfl, rfl, rfl, trivial⟩)) ?_; refine GL.step rfl (t_alloc rfl ze_64) (GL.ex fun b_t4 => ?_)
    refine GL.as_ rfl rfl ?_; refine GL.step rfl (t_storeN (i := 0) rfl rfl rfl sz_64 rfl rfl rfl) ?_; refine GL.nl_ ?_; refine GC.seq' ?_
    have hme := (hm _ (gt_elem (l := l) (k := k) (by omega))).m
    have hml : (gt l (k : Int)).grp.members.length ≤ 140737488355328 := by omega
    rcases k with _ | k
    ·skip
     refine GC.regionQ wide_ (by kernel_rfl) ?_; refine GQ.step rfl (q_mem (m_loadN (i := 0) rfl rfl ag_64 (vs := [_, _, _, _, _, _, _, _, _, _, _, _]) sz_64 ⟨rfl, rfl, rfl, rfl, rfl, rfl, rfl, rfl, rfl, rfl, rfl, rfl, trivial⟩)) ?_
     refine GQ.step rfl (q_call fn_112 rfl (js := [1, 2, 3]) rfl (by exact ment_ct (gt l (_ : Int)) _ _ _ _ _ _ (by first | assumption | omega))) ?_; refine GQ.step rfl (q_pure (p_neq rfl rfl)) ?_; refine GQ.step rfl (q_pure (p_move rfl)) ?_
     refine GQ.split (i := 15) rfl (fun h2 => ?_) (fun h2 => ?_)
     ·try simp only [tst_, entE_iff] at h2
      first
      | (exfalso; omega)
      |(skip
        iterate 3 refine GQ.pass (s := 15) rfl rfl rfl ?_
        iterate 10 refine GQ.passU (s := 18) rfl rfl rfl ?_
        refine GQ.pass (s := 15) rfl rfl rfl ?_; refine GQ.step rfl (q_pure (p_pick_true rfl rfl)) ?_
        refine GQ.nil (?_ : GC _ _ _ _)
        refine GC.cond_true rfl ?_; refine GC.sr_ ?_; refine GL.as_ rfl rfl ?_; refine GL.nl_ ?_; refine GC.ret ?_
        refine fun a w h => Fin.back (rs := [.tmp 2]) (vs := [_]) (is := []) (js := []) rfl ⟨rfl, trivial⟩ rfl rfl ?_ h
        clear h
        exact ⟨congrArg Value.bool (decide_eq_false fun H => by first | exact absurd (H 0 (by omega)).1 (by assumption) | exact absurd (H (k + 1) (by omega)).1 (by assumption) | exact absurd ((H (k + 1) (by omega)).2 (by omega)) (by assumption)).symm, rfl, rfl⟩)
     ·try simp only [tst_, entE_iff] at h2
      first
      | (exfalso; omega)
      |(skip
        refine GQ.stepG (s := 15) rfl rfl rfl (q_pure (p_move rfl)) ?_; refine GQ.stepG (s := 15) rfl rfl rfl (q_pure (p_gtr rfl rfl)) ?_; refine GQ.stepG (s := 15) rfl rfl rfl (q_pure (p_move rfl)) ?_; refine GQ.split (i := 18) rfl (fun h3 => ?_) (fun h3 => ?_)
        ·try simp only [tst_, entE_iff] at h3
         first
         | (exfalso; omega)
         |(skip
           refine GQ.stepG (s := 18) rfl rfl rfl (q_pure (p_fieldAddr fo_64_1 rfl)) ?_; refine GQ.stepG (s := 18) rfl rfl rfl (q_mem (m_load (i := 0) rfl rfl ag_3 rfl)) ?_; refine GQ.stepG (s := 18) rfl rfl rfl (q_pure (p_sub rfl rfl (w64 (by first | omega | (have := isNum_in (show entOk (gt l ((k + 1 : Nat) : Int)) from by assumption).1; dsimp only; omega)) (by first | omega | (have := isNum_in (show entOk (gt l ((k + 1 : Nat) : Int)) from by assumption).1; dsimp only; omega))))) ?_
           iterate 2 refine GQ.stepG (s := 18) rfl rfl rfl (q_pure (p_move rfl)) ?_
           refine GQ.stepG (s := 18) rfl rfl rfl (q_pure (p_sub rfl rfl (w64 (by first | omega | (have := isNum_in (show entOk (gt l ((k + 1 : Nat) : Int)) from by assumption).1; dsimp only; omega)) (by first | omega | (have := isNum_in (show entOk (gt l ((k + 1 : Nat) : Int)) from by assumption).1; dsimp only; omega))))) ?_
           exact (by omega : False).elim)
        ·try simp only [tst_, entE_iff] at h3
         first
         | (exfalso; omega)
         |(skip
           iterate 10 refine GQ.pass (s := 18) rfl rfl rfl ?_
           refine GQ.stepG (s := 15) rfl rfl rfl (q_pure (p_pick_false rfl rfl)) ?_; refine GQ.step rfl (q_pure (p_pick_false rfl rfl)) ?_
           refine GQ.nil (?_ : GC _ _ _ _)
           refine GC.cond_false rfl ?_
           refine GC.skip (?_ : GC _ _ _ _)
           refine GC.region ?_; refine GL.pure rfl (p_add rfl rfl (w64 (by first | omega | (have := isNum_in (show entOk (gt l ((k + 1 : Nat) : Int)) from by assumption).1; dsimp only; omega)) (by first | omega | (have := isNum_in (show entOk (gt l ((k + 1 : Nat) : Int)) from by assumption).1; dsimp only; omega)))) ?_
           refine GL.mv_ rfl rfl ?_; refine GL.nil ?_
           exact fun a w h => ⟨(_ + 1), (by omega), ⟨by omega, fun j hj => (Nat.lt_succ_iff_lt_or_eq.1 hj).elim (hall j) (fun e => by subst e; exact ⟨by assumption, fun _ => by first | omega | assumption⟩)⟩, h.cut (is := []) (js := [4]) ⟨rfl, rfl, rfl, rfl, trivial⟩ rfl rfl⟩))
    ·skip
     refine GC.lay (x := .const (.slice A l.length cp)) (y := .const (.int .i64 (((k + 1 : Nat) : Int) - 1))) (j := 4) rfl rfl rfl (by first | omega | (have := isNum_in (show entOk (gt l ((k + 1 : Nat) : Int)) from by assumption).1; dsimp only; omega)) (gt_ok (by first | omega | (have := isNum_in (show entOk (gt l ((k + 1 : Nat) : Int)) from by assumption).1; dsimp only; omega)) (by first | omega | (have := isNum_in (show entOk (gt l ((k + 1 : Nat) : Int)) from by assumption).1; dsimp only; omega))) (fun p_xp r_xp hA_xp ok_xp => ?_)
     rcases r_xp with ⟨_, ⟨_, ⟨_, ⟨_, ⟨_, ⟨⟨_, ⟨_, ⟨_, ⟨⟨Axp_0, cpxp_0⟩, ⟨Axp_1, cpxp_1⟩⟩⟩⟩⟩, ⟨_, ⟨Axp_2, cpxp_2⟩⟩⟩⟩⟩⟩⟩⟩
     refine GC.regionQ wide_ (by kernel_rfl) ?_; refine GQ.step rfl (q_mem (m_loadN (i := 0) rfl rfl ag_64 (vs := [_, _, _, _, _, _, _, _, _, _, _, _]) sz_64 ⟨rfl, rfl, rfl, rfl, rfl, rfl, rfl, rfl, rfl, rfl, rfl, rfl, trivial⟩)) ?_
     refine GQ.step rfl (q_call fn_112 rfl (js := [5, 6, 7]) rfl (by exact ment_ct (gt l (_ : Int)) _ _ _ _ _ _ (by first | assumption | omega))) ?_; refine GQ.step rfl (q_pure (p_neq rfl rfl)) ?_; refine GQ.step rfl (q_pure (p_move rfl)) ?_
     refine GQ.split (i := 15) rfl (fun h4 => ?_) (fun h4 => ?_)
     ·try simp only [tst_, entE_iff] at h4
      first
      | (exfalso; omega)
      |(skip
        iterate 3 refine GQ.pass (s := 15) rfl rfl rfl ?_
        iterate 10 refine GQ.passU (s := 18) rfl rfl rfl ?_
        refine GQ.pass (s := 15) rfl rfl rfl ?_; refine GQ.step rfl (q_pure (p_pick_true rfl rfl)) ?_
        refine GQ.nil (?_ : GC _ _ _ _)
        refine GC.cond_true rfl ?_; refine GC.sr_ ?_; refine GL.as_ rfl rfl ?_; refine GL.nl_ ?_; refine GC.ret ?_
        refine fun a w h => Fin.back (rs := [.tmp 2]) (vs := [_]) (is := []) (js := []) rfl ⟨rfl, trivial⟩ rfl rfl ?_ h
        clear h
        exact ⟨congrArg Value.bool (decide_eq_false fun H => by first | exact absurd (H 0 (by omega)).1 (by assumption) | exact absurd (H (k + 1) (by omega)).1 (by assumption) | exact absurd ((H (k + 1) (by omega)).2 (by omega)) (by assumption)).symm, rfl, rfl⟩)
     ·try simp only [tst_, entE_iff] at h4
      first
      | (exfalso; omega)
      |(skip
        refine GQ.stepG (s := 15) rfl rfl rfl (q_pure (p_move rfl)) ?_; refine GQ.stepG (s := 15) rfl rfl rfl (q_pure (p_gtr rfl rfl)) ?_; refine GQ.stepG (s := 15) rfl rfl rfl (q_pure (p_move rfl)) ?_; refine GQ.split (i := 18) rfl (fun h5 => ?_) (fun h5 => ?_)
        ·try simp only [tst_, entE_iff] at h5
         first
         | (exfalso; omega)
         |(skip
           refine GQ.stepG (s := 18) rfl rfl rfl (q_pure (p_fieldAddr fo_64_1 rfl)) ?_; refine GQ.stepG (s := 18) rfl rfl rfl (q_mem (m_load (i := 0) rfl rfl ag_3 rfl)) ?_; refine GQ.stepG (s := 18) rfl rfl rfl (q_pure (p_sub rfl rfl (w64 (by first | omega | (have := isNum_in (show entOk (gt l ((k + 1 : Nat) : Int)) from by assumption).1; dsimp only; omega)) (by first | omega | (have := isNum_in (show entOk (gt l ((k + 1 : Nat) : Int)) from by assumption).1; dsimp only; omega))))) ?_
           iterate 2 refine GQ.stepG (s := 18) rfl rfl rfl (q_pure (p_move rfl)) ?_
           refine GQ.stepG (s := 18) rfl rfl rfl (q_pure (p_sub rfl rfl (w64 (by first | omega | (have := isNum_in (show entOk (gt l ((k + 1 : Nat) : Int)) from by assumption).1; dsimp only; omega)) (by first | omega | (have := isNum_in (show entOk (gt l ((k + 1 : Nat) : Int)) from by assumption).1; dsimp only; omega))))) ?_
           refine GQ.stepG (s := 18) rfl rfl rfl (q_pure (p_indexL hA_xp rfl rfl Tryz.underlying40 sz_64 (by first | omega | (have := isNum_in (show entOk (gt l ((k + 1 : Nat) : Int)) from by assumption).1; dsimp only; omega)) (by first | omega | (have := isNum_in (show entOk (gt l ((k + 1 : Nat) : Int)) from by assumption).1; dsimp only; omega)))) ?_
           refine GQ.stepG (s := 18) rfl rfl rfl (q_pure (p_fieldAddr' fo_64_1 rfl)) ?_; refine GQ.stepG (s := 18) rfl rfl rfl (q_mem (m_loadP (i := 0) rfl rfl ag_3 rfl)) ?_; refine GQ.stepG (s := 18) rfl rfl rfl (q_pure (p_neq rfl rfl)) ?_
           refine GQ.stepG (s := 15) rfl rfl rfl (q_pure (p_pick_true rfl rfl)) ?_; refine GQ.step rfl (q_pure (p_pick_false rfl rfl)) ?_
           refine GQ.nil (?_ : GC _ _ _ _)
           refine GC.cond rfl (fun h6 => ?_) (fun h6 => ?_)
           ·try simp only [tst_, entE_iff] at h6
            first
            | (exfalso; omega)
            |(skip
              refine GC.sr_ ?_; refine GL.as_ rfl rfl ?_; refine GL.nl_ ?_; refine GC.ret ?_
              refine fun a w h => Fin.back (rs := [.tmp 2]) (vs := [_]) (is := []) (js := []) rfl ⟨rfl, trivial⟩ rfl rfl ?_ h
              clear h
              exact ⟨congrArg Value.bool (decide_eq_false fun H => by first | exact absurd (H 0 (by omega)).1 (by assumption) | exact absurd (H (k + 1) (by omega)).1 (by assumption) | exact absurd ((H (k + 1) (by omega)).2 (by omega)) (by assumption)).symm, rfl, rfl⟩)
           ·try simp only [tst_, entE_iff] at h6
            first
            | (exfalso; omega)
            |(skip
              refine GC.skip (?_ : GC _ _ _ _)
              refine GC.region ?_; refine GL.pure rfl (p_add rfl rfl (w64 (by first | omega | (have := isNum_in (show entOk (gt l ((k + 1 : Nat) : Int)) from by assumption).1; dsimp only; omega)) (by first | omega | (have := isNum_in (show entOk (gt l ((k + 1 : Nat) : Int)) from by assumption).1; dsimp only; omega)))) ?_
              refine GL.mv_ rfl rfl ?_; refine GL.nil ?_
              exact fun a w h => ⟨(_ + 1), (by omega), ⟨by omega, fun j hj => (Nat.lt_succ_iff_lt_or_eq.1 hj).elim (hall j) (fun e => by subst e; exact ⟨by assumption, fun _ => by first | omega | assumption⟩)⟩, h.cut (is := []) (js := [8]) ⟨rfl, rfl, rfl, rfl, trivial⟩ rfl rfl⟩))
        ·try simp only [tst_, entE_iff] at h5
         first
         | (exfalso; omega)
         |(skip
           iterate 10 refine GQ.pass (s := 18) rfl rfl rfl ?_
           refine GQ.stepG (s := 15) rfl rfl rfl (q_pure (p_pick_false rfl rfl)) ?_; refine GQ.step rfl (q_pure (p_pick_false rfl rfl)) ?_
           refine GQ.nil (?_ : GC _ _ _ _)
           refine GC.cond_false rfl ?_
           refine GC.skip (?_ : GC _ _ _ _)
           refine GC.region ?_; refine GL.pure rfl (p_add rfl rfl (w64 (by first | omega | (have := isNum_in (show entOk (gt l ((k + 1 : Nat) : Int)) from by assumption).1; dsimp only; omega)) (by first | omega | (have := isNum_in (show entOk (gt l ((k + 1 : Nat) : Int)) from by assumption).1; dsimp only; omega)))) ?_
           refine GL.mv_ rfl rfl ?_; refine GL.nil ?_
           exact fun a w h => ⟨(_ + 1), (by omega), ⟨by omega, fun j hj => (Nat.lt_succ_iff_lt_or_eq.1 hj).elim (hall j) (fun e => by subst e; exact ⟨by assumption, fun _ => by first | omega | assumption⟩)⟩, h.cut (is := []) (js := [8]) ⟨rfl, rfl, rfl, rfl, trivial⟩ rfl rfl⟩)))
 ·try simp only [tst_, entE_iff] at h1
  first
  | (exfalso; omega)
  |(skip
    refine GC.exit (?_ : GC _ _ _ _)
    refine GC.sr_ ?_; refine GL.as_ rfl rfl ?_; refine GL.nl_ ?_; refine GC.ret ?_
    refine fun a w h => Fin.back (rs := [.tmp 2]) (vs := [_]) (is := []) (js := []) rfl ⟨rfl, trivial⟩ rfl rfl ?_ h
    clear h
    exact ⟨congrArg Value.bool (decide_eq_true fun j hj => hall j (by omega)).symm, rfl, rfl⟩)
theorem joins_nil (n : Int) (cp : Nat) (A : Option Addr) : Ct Tryz.prog 111 [.int .i64 n, .slice A 0 cp] [] [] (fun u G Q => u = .bool true ∧ G = [] ∧ Q = []) := by
 refine Ct.intro Tryz.func111 rfl rfl rfl (fun c hc => ?_)
 refine GC.sr_ ?_; refine GL.as_ rfl rfl ?_; refine GL.nl_ ?_; refine GC.sr_ ?_; refine GL.mv_ rfl rfl ?_; refine GL.pure rfl (p_len Tryz.underlying40 rfl) ?_; refine GL.pure rfl (p_eql rfl rfl) ?_; refine GL.mv_ rfl rfl ?_
 refine GL.split (i := 8) rfl (fun h1 => ?_) (fun h1 => ?_)
 ·try simp only [tst_] at h1
  iterate 7 refine GL.pass (s := 8) rfl rfl rfl ?_
  refine GL.pure rfl (p_pick_true rfl rfl) ?_; refine GL.as_ rfl rfl ?_; refine GL.nl_ ?_; refine GC.ret ?_
  refine fun a w h => Fin.back (rs := [.tmp 4]) (vs := [_]) (is := []) (js := []) rfl ⟨rfl, trivial⟩ rfl rfl ?_ h
  clear h
  exact ⟨rfl, rfl, rfl⟩
 ·try simp only [tst_] at h1
  exfalso; omega
theorem vload_ct (bl sz : Int) (A : Option Addr) (l : List Page) (cp : Nat) (hl : l.length ≤ 140737488355328) : Ct Tryz.prog 145 [shpV bl sz, .slice A l.length cp] [] [Pers.row kPage A l] (fun v G Q => (∃ x e, v = .tuple #[.pointer x, .int .i64 e] ∧ (e = 0 ↔ (shapeOk bl sz ∧ laidF bl sz (-1) l = true))) ∧ G = [] ∧ Q = []) := by
  by_cases h : shapeOk bl sz
  · cases hb : laidF bl sz (-1) l
    · exact Ct.drop (load_no bl sz A l cp h hl hb) fun v G Q h => ⟨_, _, h.1, by simp⟩
    · exact Ct.drop (load_ok bl sz A l cp h hl hb) fun v G Q ⟨p, pb, pv, h1, _⟩ => ⟨_, _, h1, by simp [h]⟩
  · exact Ct.drop (load_bad bl sz A l cp h) fun v G Q h1 => ⟨_, _, h1.1, by simp [h]⟩
theorem tload_ct (A : Option Addr) (l : List Row) (cp : Nat) (hl : l.length ≤ 140737488355328) : Ct Tryz.prog 146 [.slice A l.length cp] [] [Pers.row kRow A l] (fun v G Q => (∃ x e, v = .tuple #[.pointer x, .int .i64 e] ∧ (e = 0 ↔ rightF l = true)) ∧ G = [] ∧ Q = []) := by
  cases hb : rightF l
  · exact Ct.drop (tload_bad A l cp hl hb) fun v G Q h => ⟨_, _, h.1, by simp⟩
  · exact Ct.drop (tload_ok A l cp hl hb) fun v G Q h => by
      obtain ⟨_, _, _, _, h1, _⟩ := h
      exact ⟨_, _, h1, by simp⟩
theorem mown_ct (e : Int) (A : Option Addr) (l : List Int) (cp : Nat) (hl : l.length ≤ 17592186044416) : Ct Tryz.prog 149 [grpV e A l.length cp] [] [Pers.row kI A l] (fun u G Q => ∃ A' cp', u = grpV e A' l.length cp' ∧ G = [] ∧ Q = []) := by
 refine Ct.intro Tryz.func149 rfl rfl rfl (fun c hc => ?_)
 refine GC.sr_ ?_; refine GL.step rfl (t_box rfl rfl rfl) (GL.ex fun b_t1 => ?_); refine GL.step rfl (t_alloc rfl ze_33) (GL.ex fun b_t2 => ?_); refine GL.nl_ ?_; refine GC.sr_ ?_; refine GL.pure rfl (p_fieldAddr fo_33_1 rfl) ?_
 refine GL.step rfl (t_mem rfl (m_load (i := 1) rfl rfl ag_31 rfl)) ?_; refine GL.step rfl (t_call rfl fn_167 rfl (is := []) (js := [0]) rfl rfl (by exact clone_i _ _ _ (by first | assumption | omega))) (GL.ret ?_)
 rintro _ _ _ ⟨A5, cp5, l5, k5, rfl, rfl, rfl⟩
 refine GL.pure rfl (p_fieldAddr fo_33_1 rfl) ?_; refine GL.step rfl (t_store (i := 2) rfl rfl rfl rfl sz_31 rfl rfl rfl) ?_; refine GL.nl_ ?_; refine GC.sr_ ?_; refine GL.step rfl (t_mem rfl (m_loadN (i := 2) rfl rfl ag_33 (vs := [_, _]) sz_33 ⟨rfl, rfl, trivial⟩)) ?_
 refine GL.step rfl (t_storeN (i := 1) rfl rfl rfl sz_33 rfl rfl rfl) ?_; refine GL.nl_ ?_; refine GC.ret ?_
 refine fun a w h => Fin.back (rs := [.cell 2 33]) (vs := [_]) (is := []) (js := []) rfl ⟨⟨1, _, _, _, _, rfl, rfl, .inr ⟨[_, _], rfl, ag_33, sz_33, ⟨rfl, rfl, trivial⟩⟩⟩, trivial⟩ rfl rfl ?_ h
 clear h
 exact ⟨_, _, rfl, rfl, rfl⟩
abbrev sttL (s : Stt) (A : Option Addr) (cp : Nat) (B : Option Addr) (cq : Nat) (C : Option Addr) (cr : Nat) : List Value := [.int .i64 s.num, .int .i64 s.shp.bl, .int .i64 s.shp.sz, .slice A s.pages.length cp, .slice B s.rows.length cq, .int .i64 s.grp.epoch, .slice C s.grp.members.length cr]
theorem heldc_ct (b : Nat) (s : Stt) (A : Option Addr) (cp : Nat) (B : Option Addr) (cq : Nat) (C : Option Addr) (cr : Nat) (pg : Page) (D : Option Addr) (cd : Nat) : Ct Tryz.prog 148 [pageV pg D cd, .pointer (some ⟨b, 0, none⟩)] [.cells b (sttL s A cp B cq C cr) 39] []
    (fun u G Q => u = .bool (decide (s.num < pg.ver)) ∧ G = [.cells b (sttL s A cp B cq C cr) 39] ∧ Q = []) := by
 refine Ct.intro Tryz.func148 rfl rfl rfl (fun c hc => ?_)
 refine GC.sr_ ?_; refine GL.step rfl (t_box rfl rfl rfl) (GL.ex fun b_t2 => ?_); refine GL.as_ rfl rfl ?_; refine GL.nl_ ?_; refine GC.sr_ ?_; refine GL.pure rfl (p_fieldAddr fo_59_1 rfl) ?_; refine GL.step rfl (t_mem rfl (m_load (i := 0) rfl rfl ag_3 rfl)) ?_
 refine GL.pure rfl (p_fieldAddr fo_39_0 rfl) ?_; refine GL.step rfl (t_mem rfl (m_load (i := 1) rfl rfl ag_3 rfl)) ?_; refine GL.pure rfl (p_gtr rfl rfl) ?_; refine GL.as_ rfl rfl ?_; refine GL.nl_ ?_; refine GC.ret ?_
 refine fun a w h => Fin.back (rs := [.tmp 3]) (vs := [_]) (is := [1]) (js := []) rfl ⟨rfl, trivial⟩ rfl rfl ?_ h
 clear h
 exact ⟨rfl, rfl, rfl⟩
theorem hidx_ct (b : Nat) (s : Stt) (A : Option Addr) (cp : Nat) (B : Option Addr) (cq : Nat) (C : Option Addr) (cr : Nat) (D : Option Addr) (l : List Page) (cd : Nat) (hl : l.length ≤ 140737488355328) : Ct Tryz.prog 166 [.slice D l.length cd, .func (.func 148) #[] #[.pointer (some ⟨b, 0, none⟩)]] [.cells b (sttL s A cp B cq C cr) 39] [Pers.row kPage D l]
    (fun u G Q => ∃ i : Int, (0 ≤ i ↔ ¬ ∀ p ∈ l, p.ver ≤ s.num) ∧ u = .int .i64 i ∧ G = [.cells b (sttL s A cp B cq C cr) 39] ∧ Q = []) := by
 refine Ct.intro Tryz.func166 rfl rfl rfl (fun c hc => ?_)
 refine GC.sr_ ?_; refine GL.as_ rfl rfl ?_; refine GL.nl_ ?_; refine GC.seq' ?_; refine GC.sr_ ?_; refine GL.mv_ rfl rfl ?_; refine GL.pure rfl (p_len Tryz.underlying36 rfl) ?_; refine GL.mv_ rfl rfl ?_; refine GL.nl_ ?_
 refine GC.block ?_; refine GC.loopK1 (ks := [0, 1, 7]) (is := [0]) (js := [0]) (fun (k : Nat) => k ≤ l.length ∧ ∀ j : Nat, j < k → (gt l (j : Int)).ver ≤ s.num) (fun (k : Nat) => [(8, .int .i64 (k : Int))]) (fun (k : Nat) => []) (fun (k : Nat) => []) (fun (k : Nat) => l.length - k) (0) rfl rfl rfl (fun a w h => ⟨⟨by omega, fun j hj => by omega⟩, h.cutK (is := [0]) (js := [0]) (ks := [0, 1, 7]) ⟨rfl, trivial⟩ rfl rfl rfl⟩) ?_
 intro k hk
 try dsimp only [List.cons_append, List.nil_append] at hk ⊢
 obtain ⟨hk, hall⟩ := hk
 refine GC.sr_ ?_; refine GL.pure rfl (p_lss rfl rfl) ?_; refine GL.nl_ ?_; refine GC.seq' ?_; refine GC.cond rfl (fun h1 => ?_) (fun h1 => ?_)
 ·try simp only [tst_] at h1
  refine GC.skip (?_ : GC _ _ _ _)
  refine GC.seq' ?_; refine GC.block ?_; refine GC.sr_ ?_; refine GL.mv_ rfl rfl ?_; refine GL.as_ rfl rfl ?_; refine GL.nl_ ?_; refine GC.sr_ ?_
  iterate 3 refine GL.mv_ rfl rfl ?_
  refine GL.step rfl (t_index (i := 0) rfl rfl rfl rfl Tryz.underlying36 sz_59 (by omega) (gt_ok (by omega) (by omega))) (GL.ex fun p_x14 => GL.ex fun r_x14 => GL.and fun ok_x14 => ?_)
  rcases r_x14 with ⟨_, ⟨_, ⟨Ax14_0, cpx14_0⟩⟩⟩
  refine GL.step rfl (t_mem rfl (m_loadPN (i := 0) rfl rfl ag_59 (vs := [_, _, _]) sz_59 ⟨rfl, rfl, rfl, trivial⟩)) ?_; refine GL.step rfl (t_callv rfl fn_148 rfl rfl (is := [0]) (js := []) rfl rfl (by exact heldc_ct _ s _ _ _ _ _ _ (gt l (k : Int)) _ _)) (GL.ret ?_)
  rintro _ _ _ ⟨rfl, rfl, rfl⟩
  refine GL.nl_ ?_; refine GC.cond rfl (fun h2 => ?_) (fun h2 => ?_)
  ·try simp only [tst_] at h2
   refine GC.sr_ ?_; refine GL.mv_ rfl rfl ?_; refine GL.as_ rfl rfl ?_; refine GL.nl_ ?_; refine GC.ret ?_
   refine fun a w h => Fin.back (rs := [.tmp 4]) (vs := [_]) (is := [0]) (js := []) rfl ⟨rfl, trivial⟩ rfl rfl ?_ h
   clear h
   exact ⟨_, ⟨fun _ H => by have := H _ (gt_elem (l := l) (k := k) (by omega)); omega, fun _ => by omega⟩, rfl, rfl, rfl⟩
  ·try simp only [tst_] at h2
   refine GC.skip (?_ : GC _ _ _ _)
   refine GC.region ?_; refine GL.pure rfl (p_add rfl rfl (w64 (by omega) (by omega))) ?_; refine GL.mv_ rfl rfl ?_; refine GL.nil ?_
   exact fun a w h => ⟨(k + 1), (by omega), ⟨by omega, fun j hj => (Nat.lt_succ_iff_lt_or_eq.1 hj).elim (hall j) (fun e => by subst e; omega)⟩, h.cut (is := [0]) (js := [2]) ⟨rfl, rfl, rfl, rfl, trivial⟩ rfl rfl⟩
 ·try simp only [tst_] at h1
  refine GC.exit (?_ : GC _ _ _ _)
  refine GC.sr_ ?_; refine GL.as_ rfl rfl ?_; refine GL.nl_ ?_; refine GC.ret ?_
  refine fun a w h => Fin.back (rs := [.tmp 4]) (vs := [_]) (is := [0]) (js := []) rfl ⟨rfl, trivial⟩ rfl rfl ?_ h
  clear h
  exact ⟨_, ⟨fun g => by omega, fun g => absurd (fun p hp => by obtain ⟨j, hj, rfl⟩ := mem_gt hp; exact hall j (by omega)) g⟩, rfl, rfl, rfl⟩
theorem hcon_ct (b : Nat) (s : Stt) (A : Option Addr) (cp : Nat) (B : Option Addr) (cq : Nat) (C : Option Addr) (cr : Nat) (D : Option Addr) (l : List Page) (cd : Nat) (hl : l.length ≤ 140737488355328) : Ct Tryz.prog 147 [.slice D l.length cd, .func (.func 148) #[] #[.pointer (some ⟨b, 0, none⟩)]] [.cells b (sttL s A cp B cq C cr) 39] [Pers.row kPage D l]
    (fun u G Q => u = .bool (decide (¬ ∀ p ∈ l, p.ver ≤ s.num)) ∧ G = [.cells b (sttL s A cp B cq C cr) 39] ∧ Q = []) := by
 refine Ct.intro Tryz.func147 rfl rfl rfl (fun c hc => ?_)
 refine GC.sr_ ?_; refine GL.as_ rfl rfl ?_; refine GL.nl_ ?_; refine GC.sr_ ?_
 iterate 2 refine GL.mv_ rfl rfl ?_
 refine GL.step rfl (t_call rfl fn_166 rfl (is := [0]) (js := [0]) rfl rfl (by exact hidx_ct _ s _ _ _ _ _ _ _ _ _ hl)) (GL.ret ?_)
 rintro _ _ _ ⟨i7, hi7, rfl, rfl, rfl⟩
 refine GL.pure rfl (p_geq rfl rfl) ?_; refine GL.as_ rfl rfl ?_; refine GL.nl_ ?_; refine GC.ret ?_
 refine fun a w h => Fin.back (rs := [.tmp 4]) (vs := [_]) (is := [0]) (js := []) rfl ⟨rfl, trivial⟩ rfl rfl ?_ h
 clear h
 exact ⟨congrArg Value.bool (decide_eq_decide.2 hi7), rfl, rfl⟩
theorem held_ct (s : Stt) (A : Option Addr) (cp : Nat) (B : Option Addr) (cq : Nat) (C : Option Addr) (cr : Nat) (hs : SttLen s) : Ct Tryz.prog 121 [sttV s A cp B cq C cr] [] (sttQ s A B C) (fun u G Q => ∃ x, u = .tuple #[.pointer x, .bool (decide (heldOk s))] ∧ G = [] ∧ Q = []) := by
 obtain ⟨hp_, hr_, hm_, _, _⟩ := hs
 refine Ct.intro Tryz.func121 rfl rfl rfl (fun c hc => ?_)
 refine GC.sr_ ?_; refine GL.step rfl (t_box rfl rfl rfl) (GL.ex fun b_t1 => ?_)
 iterate 2 refine GL.as_ rfl rfl ?_
 refine GL.nl_ ?_; refine GC.seq' ?_; refine GC.sr_ ?_; refine GL.pure rfl (p_fieldAddr fo_39_0 rfl) ?_; refine GL.step rfl (t_mem rfl (m_load (i := 0) rfl rfl ag_3 rfl)) ?_; refine GL.pure rfl (p_lss rfl rfl) ?_; refine GL.mv_ rfl rfl ?_
 refine GL.split (i := 11) rfl (fun h1 => ?_) (fun h1 => ?_)
 ·try simp only [tst_, grpE_iff] at h1
  iterate 3 refine GL.pass (s := 11) rfl rfl rfl ?_
  refine GL.pure rfl (p_pick_true rfl rfl) ?_; refine GL.mv_ rfl rfl ?_
  iterate 4 refine GL.pass (s := 16) rfl rfl rfl ?_
  refine GL.pure rfl (p_pick_true rfl rfl) ?_; refine GL.nl_ ?_; refine GC.cond_true rfl ?_; refine GC.sr_ ?_
  iterate 2 refine GL.as_ rfl rfl ?_
  refine GL.nl_ ?_; refine GC.ret ?_
  refine fun a w h => Fin.back (rs := [.tmp 2, .tmp 3]) (vs := [_, _]) (is := []) (js := []) rfl ⟨rfl, rfl, trivial⟩ rfl rfl ?_ h
  clear h
  first | exact ⟨_, congrArg (fun b => Value.tuple #[.pointer _, .bool b]) (decide_eq_false (fun H => by obtain ⟨⟨g1, g2⟩, g3, g4, g5, g6, g7⟩ := H; first | omega | contradiction | simp_all)).symm, rfl, rfl⟩ | exact ⟨_, congrArg (fun b => Value.tuple #[.pointer _, .bool b]) (decide_eq_true (⟨⟨by omega, by omega⟩, by assumption, (he27.1 (by assumption)).1, (he27.1 (by assumption)).2, he33.1 (by assumption), by simp_all⟩)).symm, rfl, rfl⟩
 ·try simp only [tst_, grpE_iff] at h1
  refine GL.pureG (s := 11) rfl rfl rfl (p_fieldAddr fo_39_0 rfl) ?_; refine GL.stepG rfl (s := 11) rfl rfl (t_mem rfl (m_load (i := 0) rfl rfl ag_3 rfl)) ?_; refine GL.pureG (s := 11) rfl rfl rfl (p_gtr rfl rfl) ?_; refine GL.pure rfl (p_pick_false rfl rfl) ?_
  refine GL.mv_ rfl rfl ?_; refine GL.split (i := 16) rfl (fun h2 => ?_) (fun h2 => ?_)
  ·try simp only [tst_, grpE_iff] at h2
   iterate 4 refine GL.pass (s := 16) rfl rfl rfl ?_
   refine GL.pure rfl (p_pick_true rfl rfl) ?_; refine GL.nl_ ?_; refine GC.cond_true rfl ?_; refine GC.sr_ ?_
   iterate 2 refine GL.as_ rfl rfl ?_
   refine GL.nl_ ?_; refine GC.ret ?_
   refine fun a w h => Fin.back (rs := [.tmp 2, .tmp 3]) (vs := [_, _]) (is := []) (js := []) rfl ⟨rfl, rfl, trivial⟩ rfl rfl ?_ h
   clear h
   first | exact ⟨_, congrArg (fun b => Value.tuple #[.pointer _, .bool b]) (decide_eq_false (fun H => by obtain ⟨⟨g1, g2⟩, g3, g4, g5, g6, g7⟩ := H; first | omega | contradiction | simp_all)).symm, rfl, rfl⟩ | exact ⟨_, congrArg (fun b => Value.tuple #[.pointer _, .bool b]) (decide_eq_true (⟨⟨by omega, by omega⟩, by assumption, (he27.1 (by assumption)).1, (he27.1 (by assumption)).2, he33.1 (by assumption), by simp_all⟩)).symm, rfl, rfl⟩
  ·try simp only [tst_, grpE_iff] at h2
   refine GL.pureG (s := 16) rfl rfl rfl (p_fieldAddr fo_39_4 rfl) ?_; refine GL.stepG rfl (s := 16) rfl rfl (t_mem rfl (m_loadN (i := 0) rfl rfl ag_33 (vs := [_, _]) sz_33 ⟨rfl, rfl, trivial⟩)) ?_; refine GL.stepG rfl (s := 16) rfl rfl (t_call rfl fn_62 rfl (is := []) (js := [2]) rfl rfl (by exact mgroup_ct s.grp.epoch _ s.grp.members _ (by omega))) (GL.ret ?_)
   rintro _ _ _ ⟨rfl, rfl, rfl⟩
   refine GL.pureG (s := 16) rfl rfl rfl (p_neq rfl rfl) ?_; refine GL.pure rfl (p_pick_false rfl rfl) ?_; refine GL.nl_ ?_; refine GC.cond rfl (fun h3 => ?_) (fun h3 => ?_)
   ·try simp only [tst_, grpE_iff] at h3
    refine GC.sr_ ?_
    iterate 2 refine GL.as_ rfl rfl ?_
    refine GL.nl_ ?_; refine GC.ret ?_
    refine fun a w h => Fin.back (rs := [.tmp 2, .tmp 3]) (vs := [_, _]) (is := []) (js := []) rfl ⟨rfl, rfl, trivial⟩ rfl rfl ?_ h
    clear h
    first | exact ⟨_, congrArg (fun b => Value.tuple #[.pointer _, .bool b]) (decide_eq_false (fun H => by obtain ⟨⟨g1, g2⟩, g3, g4, g5, g6, g7⟩ := H; first | omega | contradiction | simp_all)).symm, rfl, rfl⟩ | exact ⟨_, congrArg (fun b => Value.tuple #[.pointer _, .bool b]) (decide_eq_true (⟨⟨by omega, by omega⟩, by assumption, (he27.1 (by assumption)).1, (he27.1 (by assumption)).2, he33.1 (by assumption), by simp_all⟩)).symm, rfl, rfl⟩
   ·try simp only [tst_, grpE_iff] at h3
    refine GC.skip (?_ : GC _ _ _ _)
    refine GC.sr_ ?_; refine GL.pure rfl (p_fieldAddr fo_39_1 rfl) ?_; refine GL.step rfl (t_mem rfl (m_loadN (i := 0) rfl rfl ag_35 (vs := [_, _]) sz_35 ⟨rfl, rfl, trivial⟩)) ?_; refine GL.pure rfl (p_fieldAddr fo_39_2 rfl) ?_
    refine GL.step rfl (t_mem rfl (m_load (i := 0) rfl rfl ag_36 rfl)) ?_; refine GL.step rfl (t_call rfl fn_145 rfl (is := []) (js := [0]) rfl rfl (by exact vload_ct s.shp.bl s.shp.sz _ s.pages _ (by omega))) (GL.ret ?_)
    rintro _ _ _ ⟨⟨x27, e27, rfl, he27⟩, rfl, rfl⟩
    refine GL.mv_ rfl rfl ?_
    iterate 2 refine GL.pure rfl (p_extract rfl rfl) ?_
    iterate 2 refine GL.as_ rfl rfl ?_
    refine GL.nl_ ?_; refine GC.sr_ ?_; refine GL.pure rfl (p_fieldAddr fo_39_3 rfl) ?_; refine GL.step rfl (t_mem rfl (m_load (i := 0) rfl rfl ag_37 rfl)) ?_; refine GL.step rfl (t_call rfl fn_146 rfl (is := []) (js := [1]) rfl rfl (by exact tload_ct _ s.rows _ (by omega))) (GL.ret ?_)
    rintro _ _ _ ⟨⟨x33, e33, rfl, he33⟩, rfl, rfl⟩
    refine GL.mv_ rfl rfl ?_
    iterate 2 refine GL.pure rfl (p_extract rfl rfl) ?_
    iterate 2 refine GL.as_ rfl rfl ?_
    refine GL.nl_ ?_; refine GC.seq' ?_; refine GC.sr_ ?_; refine GL.mv_ rfl rfl ?_; refine GL.pure rfl (p_neq rfl rfl) ?_; refine GL.mv_ rfl rfl ?_; refine GL.split (i := 38) rfl (fun h4 => ?_) (fun h4 => ?_)
    ·try simp only [tst_, grpE_iff] at h4
     iterate 2 refine GL.pass (s := 38) rfl rfl rfl ?_
     refine GL.pure rfl (p_pick_true rfl rfl) ?_; refine GL.mv_ rfl rfl ?_
     iterate 4 refine GL.pass (s := 42) rfl rfl rfl ?_
     refine GL.pure rfl (p_pick_true rfl rfl) ?_; refine GL.nl_ ?_; refine GC.cond_true rfl ?_; refine GC.sr_ ?_
     iterate 2 refine GL.as_ rfl rfl ?_
     refine GL.nl_ ?_; refine GC.ret ?_
     refine fun a w h => Fin.back (rs := [.tmp 2, .tmp 3]) (vs := [_, _]) (is := []) (js := []) rfl ⟨rfl, rfl, trivial⟩ rfl rfl ?_ h
     clear h
     first | exact ⟨_, congrArg (fun b => Value.tuple #[.pointer _, .bool b]) (decide_eq_false (fun H => by obtain ⟨⟨g1, g2⟩, g3, g4, g5, g6, g7⟩ := H; first | omega | contradiction | simp_all)).symm, rfl, rfl⟩ | exact ⟨_, congrArg (fun b => Value.tuple #[.pointer _, .bool b]) (decide_eq_true (⟨⟨by omega, by omega⟩, by assumption, (he27.1 (by assumption)).1, (he27.1 (by assumption)).2, he33.1 (by assumption), by simp_all⟩)).symm, rfl, rfl⟩
    ·try simp only [tst_, grpE_iff] at h4
     refine GL.pureG (s := 38) rfl rfl rfl (p_move rfl) ?_; refine GL.pureG (s := 38) rfl rfl rfl (p_neq rfl rfl) ?_; refine GL.pure rfl (p_pick_false rfl rfl) ?_; refine GL.mv_ rfl rfl ?_; refine GL.split (i := 42) rfl (fun h5 => ?_) (fun h5 => ?_)
     ·try simp only [tst_, grpE_iff] at h5
      iterate 4 refine GL.pass (s := 42) rfl rfl rfl ?_
      refine GL.pure rfl (p_pick_true rfl rfl) ?_; refine GL.nl_ ?_; refine GC.cond_true rfl ?_; refine GC.sr_ ?_
      iterate 2 refine GL.as_ rfl rfl ?_
      refine GL.nl_ ?_; refine GC.ret ?_
      refine fun a w h => Fin.back (rs := [.tmp 2, .tmp 3]) (vs := [_, _]) (is := []) (js := []) rfl ⟨rfl, rfl, trivial⟩ rfl rfl ?_ h
      clear h
      first | exact ⟨_, congrArg (fun b => Value.tuple #[.pointer _, .bool b]) (decide_eq_false (fun H => by obtain ⟨⟨g1, g2⟩, g3, g4, g5, g6, g7⟩ := H; first | omega | contradiction | simp_all)).symm, rfl, rfl⟩ | exact ⟨_, congrArg (fun b => Value.tuple #[.pointer _, .bool b]) (decide_eq_true (⟨⟨by omega, by omega⟩, by assumption, (he27.1 (by assumption)).1, (he27.1 (by assumption)).2, he33.1 (by assumption), by simp_all⟩)).symm, rfl, rfl⟩
     ·try simp only [tst_, grpE_iff] at h5
      refine GL.pureG (s := 42) rfl rfl rfl (p_fieldAddr fo_39_2 rfl) ?_; refine GL.stepG rfl (s := 42) rfl rfl (t_mem rfl (m_load (i := 0) rfl rfl ag_36 rfl)) ?_; refine GL.pureG (s := 42) rfl rfl rfl (p_makeFunc rfl rfl) ?_
      refine GL.stepG rfl (s := 42) rfl rfl (t_call rfl fn_147 rfl (is := [0]) (js := [0]) rfl rfl (by exact hcon_ct _ s _ _ _ _ _ _ _ s.pages _ (by omega))) (GL.ret ?_)
      rintro _ _ _ ⟨rfl, rfl, rfl⟩
      refine GL.pure rfl (p_pick_false rfl rfl) ?_; refine GL.nl_ ?_; refine GC.cond rfl (fun h6 => ?_) (fun h6 => ?_)
      ·try simp only [tst_, grpE_iff] at h6
       refine GC.sr_ ?_
       iterate 2 refine GL.as_ rfl rfl ?_
       refine GL.nl_ ?_; refine GC.ret ?_
       refine fun a w h => Fin.back (rs := [.tmp 2, .tmp 3]) (vs := [_, _]) (is := []) (js := []) rfl ⟨rfl, rfl, trivial⟩ rfl rfl ?_ h
       clear h
       first | exact ⟨_, congrArg (fun b => Value.tuple #[.pointer _, .bool b]) (decide_eq_false (fun H => by obtain ⟨⟨g1, g2⟩, g3, g4, g5, g6, g7⟩ := H; first | omega | contradiction | simp_all)).symm, rfl, rfl⟩ | exact ⟨_, congrArg (fun b => Value.tuple #[.pointer _, .bool b]) (decide_eq_true (⟨⟨by omega, by omega⟩, by assumption, (he27.1 (by assumption)).1, (he27.1 (by assumption)).2, he33.1 (by assumption), by simp_all⟩)).symm, rfl, rfl⟩
      ·try simp only [tst_, grpE_iff] at h6
       refine GC.skip (?_ : GC _ _ _ _)
       refine GC.seq' ?_; refine GC.regionC (m := 11) (is := [0]) (js := [0, 1, 2]) wide_ rfl rfl rfl ?_; refine GA.take 0 rfl (by kernel_rfl) (by kernel_rfl) (by kernel_rfl) rfl (fun a w h => h.mem (is := [0]) (js := [0, 1, 2]) rfl rfl) (i_pure (p_fieldAddr fo_39_0 rfl)) ?_
       refine GA.take 1 rfl (by kernel_rfl) (by kernel_rfl) (by kernel_rfl) rfl (fun a w h => h.mem (is := [0]) (js := [0, 1, 2]) rfl rfl) (i_mem (m_load (i := 0) rfl rfl ag_3 rfl)) ?_; refine GA.take 2 rfl (by kernel_rfl) (by kernel_rfl) (by kernel_rfl) rfl (fun a w h => h.mem (is := [0]) (js := [0, 1, 2]) rfl rfl) (i_pure (p_move rfl)) ?_
       refine GA.take 3 rfl (by kernel_rfl) (by kernel_rfl) (by kernel_rfl) rfl (fun a w h => h.mem (is := [0]) (js := [0, 1, 2]) rfl rfl) (i_pure (p_move rfl)) ?_; refine GA.take 4 rfl (by kernel_rfl) (by kernel_rfl) (by kernel_rfl) rfl (fun a w h => h.mem (is := [0]) (js := [0, 1, 2]) rfl rfl) (i_pure (p_fieldAddr fo_39_4 rfl)) ?_
       refine GA.take 5 rfl (by kernel_rfl) (by kernel_rfl) (by kernel_rfl) rfl (fun a w h => h.mem (is := [0]) (js := [0, 1, 2]) rfl rfl) (i_mem (m_loadN (i := 0) rfl rfl ag_33 (vs := [_, _]) sz_33 ⟨rfl, rfl, trivial⟩)) ?_
       refine GA.all (rs := [6]) (by kernel_rfl) (by simp) ?_
       refine GAs.cons (i := 6) rfl rfl (t_call rfl fn_149 rfl (is := []) (js := [2]) rfl rfl (by exact mown_ct s.grp.epoch _ s.grp.members _ (by omega))) (by rintro a w ⟨_, _, _, ⟨A54, cp54, rfl, rfl, rfl⟩, h⟩; exact h.mem (is := [0]) (js := [0, 1, 2]) rfl rfl) (GA.ret ?_) ?_
       ·rintro _ _ _ ⟨A54, cp54, rfl, rfl, rfl⟩
        refine GA.take 7 rfl (by kernel_rfl) (by kernel_rfl) (by kernel_rfl) rfl (fun a w h => h.mem (is := [0]) (js := [0, 1, 2]) rfl rfl) (i_pure (p_build ze_187 of_187 rfl rfl)) ?_; refine GA.all (rs := [8]) (by kernel_rfl) (by simp) ?_
        refine GAs.cons (i := 8) rfl rfl (t_box rfl rfl rfl) (by rintro a w ⟨_, h⟩; exact h.mem (is := [1]) (js := [0, 1, 2]) rfl rfl) (GA.ex fun b_t56 => ?_) ?_
        ·refine GA.take 9 rfl (by kernel_rfl) (by kernel_rfl) (by kernel_rfl) rfl (fun a w h => h.mem (is := [1]) (js := [0, 1, 2]) rfl rfl) (i_pure (p_assign rfl)) ?_; refine GA.take 10 rfl (by kernel_rfl) (by kernel_rfl) (by kernel_rfl) rfl (fun a w h => h.mem (is := [1]) (js := [0, 1, 2]) rfl rfl) (i_pure (p_assign rfl)) ?_
         refine GA.done (by kernel_rfl) (?_ : GC _ _ _ _)
         refine GC.ret ?_
         refine fun a w h => Fin.back (rs := [.tmp 2, .tmp 3]) (vs := [_, _]) (is := []) (js := []) rfl ⟨rfl, rfl, trivial⟩ rfl rfl ?_ h
         clear h
         first | exact ⟨_, congrArg (fun b => Value.tuple #[.pointer _, .bool b]) (decide_eq_false (fun H => by obtain ⟨⟨g1, g2⟩, g3, g4, g5, g6, g7⟩ := H; first | omega | contradiction | simp_all)).symm, rfl, rfl⟩ | exact ⟨_, congrArg (fun b => Value.tuple #[.pointer _, .bool b]) (decide_eq_true (⟨⟨by omega, by omega⟩, by assumption, (he27.1 (by assumption)).1, (he27.1 (by assumption)).2, he33.1 (by assumption), by simp_all⟩)).symm, rfl, rfl⟩
        exact GAs.nil
       exact GAs.nil
end Go.Proofs.YtdhdmbmknpjhbaaGreat
namespace Go.Proofs.YtdhdmbmknpjhbaaGreat
open Go Go.Sx Go.Proofs
theorem mload_ct (s : Stt) (A : Option Addr) (cp : Nat) (B : Option Addr) (cq : Nat) (C : Option Addr) (cr : Nat) (hs : SttLen s) : Ct Tryz.prog 109 [sttV s A cp B cq C cr] [] (sttQ s A B C) (fun u G Q => ∃ x, u = .tuple #[.pointer x, .int .i64 (if heldOk s then 0 else 72)] ∧ G = [] ∧ Q = []) := by
 refine Ct.intro Tryz.func109 rfl rfl rfl (fun c hc => ?_)
 refine GC.sr_ ?_; refine GL.step rfl (t_box rfl rfl rfl) (GL.ex fun b_t1 => ?_)
 iterate 2 refine GL.as_ rfl rfl ?_
 refine GL.nl_ ?_; refine GC.sr_ ?_; refine GL.step rfl (t_mem rfl (m_loadN (i := 0) rfl rfl ag_39 (vs := [_, _, _, _, _, _, _]) sz_39 ⟨rfl, rfl, rfl, rfl, rfl, rfl, rfl, trivial⟩)) ?_; refine GL.step rfl (t_call rfl fn_121 rfl (is := []) (js := [0, 1, 2]) rfl rfl (by exact held_ct s _ _ _ _ _ _ hs)) (GL.ret ?_)
 rintro _ _ _ ⟨x8, rfl, rfl, rfl⟩
 refine GL.mv_ rfl rfl ?_
 iterate 2 refine GL.pure rfl (p_extract rfl rfl) ?_
 iterate 2 refine GL.as_ rfl rfl ?_
 refine GL.nl_ ?_; refine GC.seq' ?_; refine GC.sr_ ?_; refine GL.mv_ rfl rfl ?_; refine GL.pure rfl (p_not rfl) ?_; refine GL.nl_ ?_; refine GC.cond rfl (fun h1 => ?_) (fun h1 => ?_)
 ·try simp only [tst_] at h1
  refine GC.sr_ ?_
  iterate 2 refine GL.as_ rfl rfl ?_
  refine GL.nl_ ?_; refine GC.ret ?_
  refine fun a w h => Fin.back (rs := [.tmp 2, .tmp 3]) (vs := [_, _]) (is := []) (js := []) rfl ⟨rfl, rfl, trivial⟩ rfl rfl ?_ h
  clear h
  first | (rw [if_pos (show heldOk s by assumption)]; exact ⟨_, rfl, rfl, rfl⟩) | (rw [if_neg (show ¬ heldOk s by assumption)]; exact ⟨_, rfl, rfl, rfl⟩)
 ·try simp only [tst_] at h1
  refine GC.skip (?_ : GC _ _ _ _)
  refine GC.sr_ ?_; refine GL.mv_ rfl rfl ?_
  iterate 2 refine GL.as_ rfl rfl ?_
  refine GL.nl_ ?_; refine GC.ret ?_
  refine fun a w h => Fin.back (rs := [.tmp 2, .tmp 3]) (vs := [_, _]) (is := []) (js := []) rfl ⟨rfl, rfl, trivial⟩ rfl rfl ?_ h
  clear h
  first | (rw [if_pos (show heldOk s by assumption)]; exact ⟨_, rfl, rfl, rfl⟩) | (rw [if_neg (show ¬ heldOk s by assumption)]; exact ⟨_, rfl, rfl, rfl⟩)
theorem lrow_nil : Ct Tryz.prog 110 [.slice none 0 0] [] [] (fun u G Q => u = .bool true ∧ G = [] ∧ Q = []) :=
  Ct.free (q := Pers.row kEntry none []) (Ct.mono (lrow_ct none [] 0 (by simp) (by simp)) fun u G Q h => ⟨h.1.trans (congrArg Value.bool (decide_eq_true (fun k hk => by simp at hk))), h.2⟩) (fun _ _ => .inl rfl)
theorem ldE_iff (s : Stt) : ((if heldOk s then (0 : Int) else 72) = 0) = heldOk s := by split <;> simp_all
theorem lchk_ct (s : Stt) (A : Option Addr) (cp : Nat) (B : Option Addr) (cq : Nat) (C : Option Addr) (cr : Nat) (hs : SttLen s) : Ct Tryz.prog 63 [.agg #[.int .i64 s.num, .int .i64 s.shp.bl, .int .i64 s.shp.sz, .slice A s.pages.length cp, .slice B s.rows.length cq, .int .i64 s.grp.epoch, .slice C s.grp.members.length cr, .slice none 0 0]] [] (sttQ s A B C) (fun u G Q => u = .int .i64 (if heldOk s then 0 else 150) ∧ G = [] ∧ Q = []) := by
 refine Ct.intro Tryz.func63 rfl rfl rfl (fun c hc => ?_)
 refine GC.sr_ ?_; refine GL.step rfl (t_box rfl rfl rfl) (GL.ex fun b_t1 => ?_); refine GL.as_ rfl rfl ?_; refine GL.nl_ ?_; refine GC.sr_ ?_; refine GL.pure rfl (p_fieldAddr fo_111_0 rfl) ?_; refine GL.step rfl (t_mem rfl (m_loadN (i := 0) rfl rfl ag_39 (vs := [_, _, _, _, _, _, _]) sz_39 ⟨rfl, rfl, rfl, rfl, rfl, rfl, rfl, trivial⟩)) ?_
 refine GL.step rfl (t_call rfl fn_109 rfl (is := []) (js := [0, 1, 2]) rfl rfl (by exact mload_ct s _ _ _ _ _ _ hs)) (GL.ret ?_)
 rintro _ _ _ ⟨x8, rfl, rfl, rfl⟩
 refine GL.mv_ rfl rfl ?_
 iterate 2 refine GL.pure rfl (p_extract rfl rfl) ?_
 iterate 2 refine GL.as_ rfl rfl ?_
 refine GL.nl_ ?_; refine GC.seq' ?_; refine GC.sr_ ?_; refine GL.mv_ rfl rfl ?_; refine GL.pure rfl (p_neq rfl rfl) ?_; refine GL.mv_ rfl rfl ?_; refine GL.split (i := 13) rfl (fun h1 => ?_) (fun h1 => ?_)
 ·try simp only [tst_, ldE_iff] at h1
  iterate 4 refine GL.pass (s := 13) rfl rfl rfl ?_
  refine GL.pure rfl (p_pick_true rfl rfl) ?_; refine GL.mv_ rfl rfl ?_
  iterate 7 refine GL.pass (s := 19) rfl rfl rfl ?_
  refine GL.pure rfl (p_pick_true rfl rfl) ?_; refine GL.nl_ ?_; refine GC.cond_true rfl ?_; refine GC.sr_ ?_; refine GL.as_ rfl rfl ?_; refine GL.nl_ ?_; refine GC.ret ?_
  refine fun a w h => Fin.back (rs := [.tmp 2]) (vs := [_]) (is := []) (js := []) rfl ⟨rfl, trivial⟩ rfl rfl ?_ h
  clear h
  first | exact ⟨by rw [if_pos (show heldOk s by assumption)]; rfl, rfl, rfl⟩ | exact ⟨by rw [if_neg (show ¬ heldOk s by assumption)]; rfl, rfl, rfl⟩
 ·try simp only [tst_, ldE_iff] at h1
  refine GL.pureG (s := 13) rfl rfl rfl (p_fieldAddr fo_111_1 rfl) ?_; refine GL.stepG rfl (s := 13) rfl rfl (t_mem rfl (m_load (i := 0) rfl rfl ag_40 rfl)) ?_; refine GL.stepG rfl (s := 13) rfl rfl (t_call rfl fn_110 rfl (is := []) (js := []) rfl rfl (by exact lrow_nil)) (GL.ret ?_)
  rintro _ _ _ ⟨rfl, rfl, rfl⟩
  refine GL.pureG (s := 13) rfl rfl rfl (p_not rfl) ?_; refine GL.pure rfl (p_pick_false rfl rfl) ?_; refine GL.mv_ rfl rfl ?_; refine GL.pureG (s := 19) rfl rfl rfl (p_fieldAddr fo_111_0 rfl) ?_; refine GL.pureG (s := 19) rfl rfl rfl (p_fieldAddr fo_39_0 rfl) ?_
  refine GL.stepG rfl (s := 19) rfl rfl (t_mem rfl (m_load (i := 0) rfl rfl ag_3 rfl)) ?_; refine GL.pureG (s := 19) rfl rfl rfl (p_fieldAddr fo_111_1 rfl) ?_; refine GL.stepG rfl (s := 19) rfl rfl (t_mem rfl (m_load (i := 0) rfl rfl ag_40 rfl)) ?_
  refine GL.stepG rfl (s := 19) rfl rfl (t_call rfl fn_111 rfl (is := []) (js := []) rfl rfl (by exact joins_nil _ _ _)) (GL.ret ?_)
  rintro _ _ _ ⟨rfl, rfl, rfl⟩
  refine GL.pureG (s := 19) rfl rfl rfl (p_not rfl) ?_; refine GL.pure rfl (p_pick_false rfl rfl) ?_; refine GL.nl_ ?_; refine GC.cond_false rfl ?_
  refine GC.skip (?_ : GC _ _ _ _)
  refine GC.sr_ ?_; refine GL.as_ rfl rfl ?_; refine GL.nl_ ?_; refine GC.ret ?_
  refine fun a w h => Fin.back (rs := [.tmp 2]) (vs := [_]) (is := []) (js := []) rfl ⟨rfl, trivial⟩ rfl rfl ?_ h
  clear h
  first | exact ⟨by rw [if_pos (show heldOk s by assumption)]; rfl, rfl, rfl⟩ | exact ⟨by rw [if_neg (show ¬ heldOk s by assumption)]; rfl, rfl, rfl⟩
theorem lcE_iff (s : Stt) : ((if heldOk s then (0 : Int) else 150) = 0) = heldOk s := by split <;> simp_all
def pbit (a b c d : Bool) : Int := (if a = true then 1 else 0) + (if b = true then 2 else 0) + (if c = true then 4 else 0) + (if d = true then 8 else 0)
theorem or_b1 : IntKind.u8.wrap ((BitVec.ofInt IntKind.u8.bits 0 ||| BitVec.ofInt IntKind.u8.bits 1).toNat : Int) = pbit true false false false := by decide
theorem or_b2 (a : Bool) : IntKind.u8.wrap ((BitVec.ofInt IntKind.u8.bits (pbit a false false false) ||| BitVec.ofInt IntKind.u8.bits 2).toNat : Int) = pbit a true false false := by cases a <;> decide
theorem or_b4 (a b : Bool) : IntKind.u8.wrap ((BitVec.ofInt IntKind.u8.bits (pbit a b false false) ||| BitVec.ofInt IntKind.u8.bits 4).toNat : Int) = pbit a b true false := by cases a <;> cases b <;> decide
theorem or_b8 (a b c : Bool) : IntKind.u8.wrap ((BitVec.ofInt IntKind.u8.bits (pbit a b c false) ||| BitVec.ofInt IntKind.u8.bits 8).toNat : Int) = pbit a b c true := by cases a <;> cases b <;> cases c <;> decide
def bi (a : Bool) (n : Int) : Int := if a = true then n else 0
theorem bi_iff (a : Bool) (n : Int) (h : n ≠ 0) : (bi a n = 0) = (a = false) := by cases a <;> simp [bi, h]
theorem bi1 (a : Bool) : (bi a 1 = 0) = (a = false) := bi_iff a 1 (by decide)
theorem bi2 (a : Bool) : (bi a 2 = 0) = (a = false) := bi_iff a 2 (by decide)
theorem bi4 (a : Bool) : (bi a 4 = 0) = (a = false) := bi_iff a 4 (by decide)
theorem bi8 (a : Bool) : (bi a 8 = 0) = (a = false) := bi_iff a 8 (by decide)
theorem and_b1 (a b c d : Bool) : IntKind.u8.wrap ((BitVec.ofInt IntKind.u8.bits (pbit a b c d) &&& BitVec.ofInt IntKind.u8.bits 1).toNat : Int) = bi a 1 := by revert a b c d; decide
theorem and_b2 (a b c d : Bool) : IntKind.u8.wrap ((BitVec.ofInt IntKind.u8.bits (pbit a b c d) &&& BitVec.ofInt IntKind.u8.bits 2).toNat : Int) = bi b 2 := by revert a b c d; decide
theorem and_b4 (a b c d : Bool) : IntKind.u8.wrap ((BitVec.ofInt IntKind.u8.bits (pbit a b c d) &&& BitVec.ofInt IntKind.u8.bits 4).toNat : Int) = bi c 4 := by revert a b c d; decide
theorem and_b8 (a b c d : Bool) : IntKind.u8.wrap ((BitVec.ofInt IntKind.u8.bits (pbit a b c d) &&& BitVec.ofInt IntKind.u8.bits 8).toNat : Int) = bi d 8 := by revert a b c d; decide
def partsN (m : Msg) : Int := pbit (decide (¬ m.op = zop)) (decide (¬ m.res = rz)) (decide (¬ m.grp = zgr)) (decide (¬ m.stt = zst))
theorem rz_iff (r : Res) : (r = rz) ↔ (r.code = 0 ∧ (r.data.length : Int) ≤ 0) := by
  rw [rs_ext]; simp only [rz]
  constructor
  · rintro ⟨h1, h2⟩; rw [h2]; exact ⟨h1, by simp⟩
  · rintro ⟨h1, h2⟩; exact ⟨h1, List.length_eq_zero_iff.1 (by omega)⟩
theorem zgr_iff (r : Grp) : (r = zgr) ↔ (r.epoch = 0 ∧ (r.members.length : Int) ≤ 0) := by
  rw [gr_ext]; simp only [zgr]
  constructor
  · rintro ⟨h1, h2⟩; rw [h2]; exact ⟨h1, by simp⟩
  · rintro ⟨h1, h2⟩; exact ⟨h1, List.length_eq_zero_iff.1 (by omega)⟩
theorem parts_ct (m : Msg) (s : Lie) (hm : MsgLen m) : Ct Tryz.prog 59 [msgV m s] [] (msgQ m s) (fun u G Q => u = .int .u8 (partsN m) ∧ G = [] ∧ Q = []) := by
 refine Ct.intro Tryz.func59 rfl rfl rfl (fun c hc => ?_)
 refine GC.sr_ ?_; refine GL.step rfl (t_box rfl rfl rfl) (GL.ex fun b_t1 => ?_); refine GL.as_ rfl rfl ?_; refine GL.nl_ ?_; refine GC.sr_ ?_; refine GL.as_ rfl rfl ?_; refine GL.nl_ ?_; refine GC.joinK1 (ks := [1, 2]) (is := [0]) (js := [0, 1, 2, 3, 4, 5, 6, 7]) (fun (u_ : Unit) => True) (fun (u_ : Unit) => [(3, .int .u8 (pbit (decide (¬ m.op = zop)) false false false))]) (fun (u_ : Unit) => []) (fun (u_ : Unit) => []) rfl rfl rfl ?_ ?_
 ·refine GC.sr_ ?_; refine GL.pure rfl (p_fieldAddr fo_42_11 rfl) ?_; refine GL.step rfl (t_mem rfl (m_loadN (i := 0) rfl rfl ag_27 (vs := [_, _, _, _, _]) sz_27 ⟨rfl, rfl, rfl, rfl, rfl, trivial⟩)) ?_; refine GL.pure rfl (p_build ze_27 of_27 rfl rfl) ?_
  refine GL.step rfl (t_call rfl fn_37 rfl (is := []) (js := [0, 1]) rfl rfl (by exact bzero_ct m.op _ _ _ _)) (GL.ret ?_)
  rintro _ _ _ ⟨rfl, rfl, rfl⟩
  refine GL.pure rfl (p_not rfl) ?_; refine GL.nl_ ?_; refine GC.cond rfl (fun h1 => ?_) (fun h1 => ?_)
  ·try simp only [tst_] at h1
   refine GC.region ?_; refine GL.mv_ rfl rfl ?_; refine GL.pure rfl (p_orR rfl rfl or_b1) ?_; refine GL.as_ rfl rfl ?_; refine GL.nil ?_
   exact fun a w h => ⟨(()), trivial, by rw [decide_eq_true (show ¬ m.op = zop by simp_all)]; exact h.cut (is := [0]) (js := [0, 1, 2, 3, 4, 5, 6, 7]) ⟨rfl, rfl, rfl, trivial⟩ rfl rfl⟩
  ·try simp only [tst_] at h1
   refine GC.skip ?_
   exact fun a w h => ⟨(()), trivial, by rw [decide_eq_false (show ¬ ¬ m.op = zop by simp_all)]; exact h.cut (is := [0]) (js := [0, 1, 2, 3, 4, 5, 6, 7]) ⟨rfl, rfl, rfl, trivial⟩ rfl rfl⟩
 ·intro u_ hj2
  try dsimp only [List.cons_append, List.nil_append] at hj2 ⊢
  refine GC.joinK1 (ks := [1, 2]) (is := [0]) (js := [0, 1, 2, 3, 4, 5, 6, 7]) (fun (u_ : Unit) => True) (fun (u_ : Unit) => [(3, .int .u8 (pbit (decide (¬ m.op = zop)) (decide (¬ m.res = rz)) false false))]) (fun (u_ : Unit) => []) (fun (u_ : Unit) => []) rfl rfl rfl ?_ ?_
  ·refine GC.sr_ ?_; refine GL.pure rfl (p_fieldAddr fo_42_12 rfl) ?_; refine GL.pure rfl (p_fieldAddr fo_30_0 rfl) ?_; refine GL.step rfl (t_mem rfl (m_load (i := 0) rfl rfl ag_28 rfl)) ?_; refine GL.pure rfl (p_neq rfl rfl) ?_
   refine GL.mv_ rfl rfl ?_; refine GL.split (i := 15) rfl (fun h2 => ?_) (fun h2 => ?_)
   ·try simp only [tst_] at h2
    iterate 5 refine GL.pass (s := 15) rfl rfl rfl ?_
    refine GL.pure rfl (p_pick_true rfl rfl) ?_; refine GL.nl_ ?_; refine GC.cond_true rfl ?_; refine GC.region ?_; refine GL.mv_ rfl rfl ?_; refine GL.pure rfl (p_orR rfl rfl (or_b2 _)) ?_; refine GL.as_ rfl rfl ?_; refine GL.nil ?_
    exact fun a w h => ⟨(()), trivial, by rw [decide_eq_true (show ¬ m.res = rz by rw [rz_iff]; omega)]; exact h.cut (is := [0]) (js := [0, 1, 2, 3, 4, 5, 6, 7]) ⟨rfl, rfl, rfl, trivial⟩ rfl rfl⟩
   ·try simp only [tst_] at h2
    refine GL.pureG (s := 15) rfl rfl rfl (p_fieldAddr fo_42_12 rfl) ?_; refine GL.pureG (s := 15) rfl rfl rfl (p_fieldAddr fo_30_1 rfl) ?_; refine GL.stepG rfl (s := 15) rfl rfl (t_mem rfl (m_load (i := 0) rfl rfl ag_25 rfl)) ?_
    refine GL.pureG (s := 15) rfl rfl rfl (p_len Tryz.underlying25 rfl) ?_; refine GL.pureG (s := 15) rfl rfl rfl (p_gtr rfl rfl) ?_; refine GL.pure rfl (p_pick_false rfl rfl) ?_; refine GL.nl_ ?_; refine GC.cond rfl (fun h3 => ?_) (fun h3 => ?_)
    ·try simp only [tst_] at h3
     refine GC.region ?_; refine GL.mv_ rfl rfl ?_; refine GL.pure rfl (p_orR rfl rfl (or_b2 _)) ?_; refine GL.as_ rfl rfl ?_; refine GL.nil ?_
     exact fun a w h => ⟨(()), trivial, by rw [decide_eq_true (show ¬ m.res = rz by rw [rz_iff]; omega)]; exact h.cut (is := [0]) (js := [0, 1, 2, 3, 4, 5, 6, 7]) ⟨rfl, rfl, rfl, trivial⟩ rfl rfl⟩
    ·try simp only [tst_] at h3
     refine GC.skip ?_
     exact fun a w h => ⟨(()), trivial, by rw [decide_eq_false (show ¬ ¬ m.res = rz by rw [rz_iff]; omega)]; exact h.cut (is := [0]) (js := [0, 1, 2, 3, 4, 5, 6, 7]) ⟨rfl, rfl, rfl, trivial⟩ rfl rfl⟩
  ·intro u_ hj4
   try dsimp only [List.cons_append, List.nil_append] at hj4 ⊢
   refine GC.joinK1 (ks := [1, 2]) (is := [0]) (js := [0, 1, 2, 3, 4, 5, 6, 7]) (fun (u_ : Unit) => True) (fun (u_ : Unit) => [(3, .int .u8 (pbit (decide (¬ m.op = zop)) (decide (¬ m.res = rz)) (decide (¬ m.grp = zgr)) false))]) (fun (u_ : Unit) => []) (fun (u_ : Unit) => []) rfl rfl rfl ?_ ?_
   ·refine GC.sr_ ?_; refine GL.pure rfl (p_fieldAddr fo_42_13 rfl) ?_; refine GL.pure rfl (p_fieldAddr fo_33_0 rfl) ?_; refine GL.step rfl (t_mem rfl (m_load (i := 0) rfl rfl ag_3 rfl)) ?_; refine GL.pure rfl (p_neq rfl rfl) ?_
    refine GL.mv_ rfl rfl ?_; refine GL.split (i := 28) rfl (fun h4 => ?_) (fun h4 => ?_)
    ·try simp only [tst_] at h4
     iterate 5 refine GL.pass (s := 28) rfl rfl rfl ?_
     refine GL.pure rfl (p_pick_true rfl rfl) ?_; refine GL.nl_ ?_; refine GC.cond_true rfl ?_; refine GC.region ?_; refine GL.mv_ rfl rfl ?_; refine GL.pure rfl (p_orR rfl rfl (or_b4 _ _)) ?_; refine GL.as_ rfl rfl ?_; refine GL.nil ?_
     exact fun a w h => ⟨(()), trivial, by rw [decide_eq_true (show ¬ m.grp = zgr by rw [zgr_iff]; omega)]; exact h.cut (is := [0]) (js := [0, 1, 2, 3, 4, 5, 6, 7]) ⟨rfl, rfl, rfl, trivial⟩ rfl rfl⟩
    ·try simp only [tst_] at h4
     refine GL.pureG (s := 28) rfl rfl rfl (p_fieldAddr fo_42_13 rfl) ?_; refine GL.pureG (s := 28) rfl rfl rfl (p_fieldAddr fo_33_1 rfl) ?_; refine GL.stepG rfl (s := 28) rfl rfl (t_mem rfl (m_load (i := 0) rfl rfl ag_31 rfl)) ?_
     refine GL.pureG (s := 28) rfl rfl rfl (p_len Tryz.underlying31 rfl) ?_; refine GL.pureG (s := 28) rfl rfl rfl (p_gtr rfl rfl) ?_; refine GL.pure rfl (p_pick_false rfl rfl) ?_; refine GL.nl_ ?_; refine GC.cond rfl (fun h5 => ?_) (fun h5 => ?_)
     ·try simp only [tst_] at h5
      refine GC.region ?_; refine GL.mv_ rfl rfl ?_; refine GL.pure rfl (p_orR rfl rfl (or_b4 _ _)) ?_; refine GL.as_ rfl rfl ?_; refine GL.nil ?_
      exact fun a w h => ⟨(()), trivial, by rw [decide_eq_true (show ¬ m.grp = zgr by rw [zgr_iff]; omega)]; exact h.cut (is := [0]) (js := [0, 1, 2, 3, 4, 5, 6, 7]) ⟨rfl, rfl, rfl, trivial⟩ rfl rfl⟩
     ·try simp only [tst_] at h5
      refine GC.skip ?_
      exact fun a w h => ⟨(()), trivial, by rw [decide_eq_false (show ¬ ¬ m.grp = zgr by rw [zgr_iff]; omega)]; exact h.cut (is := [0]) (js := [0, 1, 2, 3, 4, 5, 6, 7]) ⟨rfl, rfl, rfl, trivial⟩ rfl rfl⟩
   ·intro u_ hj6
    try dsimp only [List.cons_append, List.nil_append] at hj6 ⊢
    refine GC.joinK1 (ks := [2]) (is := [0]) (js := [0, 1, 2, 3, 4, 5, 6, 7]) (fun (u_ : Unit) => True) (fun (u_ : Unit) => [(3, .int .u8 (partsN m))]) (fun (u_ : Unit) => []) (fun (u_ : Unit) => []) rfl rfl rfl ?_ ?_
    ·refine GC.sr_ ?_; refine GL.pure rfl (p_fieldAddr fo_42_14 rfl) ?_; refine GL.step rfl (t_mem rfl (m_loadN (i := 0) rfl rfl ag_39 (vs := [_, _, _, _, _, _, _]) sz_39 ⟨rfl, rfl, rfl, rfl, rfl, rfl, rfl, trivial⟩)) ?_
     refine GL.pure rfl (p_build ze_39 of_39 rfl rfl) ?_; refine GL.step rfl (t_call rfl fn_38 rfl (is := []) (js := [4, 5, 6]) rfl rfl (by exact mzst_ct m.stt _ _ _ _ _ _ (by have := hm.s.p; omega) (by have := hm.s.r; omega) (by have := hm.s.m; omega))) (GL.ret ?_)
     rintro _ _ _ ⟨rfl, rfl, rfl⟩
     refine GL.pure rfl (p_not rfl) ?_; refine GL.nl_ ?_; refine GC.cond rfl (fun h6 => ?_) (fun h6 => ?_)
     ·try simp only [tst_] at h6
      refine GC.region ?_; refine GL.mv_ rfl rfl ?_; refine GL.pure rfl (p_orR rfl rfl (or_b8 _ _ _)) ?_; refine GL.as_ rfl rfl ?_; refine GL.nil ?_
      exact fun a w h => ⟨(()), trivial, by rw [partsN, decide_eq_true (show ¬ m.stt = zst by simp_all)]; exact h.cut (is := [0]) (js := [0, 1, 2, 3, 4, 5, 6, 7]) ⟨rfl, rfl, trivial⟩ rfl rfl⟩
     ·try simp only [tst_] at h6
      refine GC.skip ?_
      exact fun a w h => ⟨(()), trivial, by rw [partsN, decide_eq_false (show ¬ ¬ m.stt = zst by simp_all)]; exact h.cut (is := [0]) (js := [0, 1, 2, 3, 4, 5, 6, 7]) ⟨rfl, rfl, trivial⟩ rfl rfl⟩
    ·intro u_ hj8
     try dsimp only [List.cons_append, List.nil_append] at hj8 ⊢
     refine GC.sr_ ?_; refine GL.mv_ rfl rfl ?_; refine GL.as_ rfl rfl ?_; refine GL.nl_ ?_; refine GC.ret ?_
     refine fun a w h => Fin.back (rs := [.tmp 2]) (vs := [_]) (is := []) (js := []) rfl ⟨rfl, trivial⟩ rfl rfl ?_ h
     clear h
     exact ⟨rfl, rfl, rfl⟩
def pOp (m : Msg) : Prop := m.op = zop ∨ formD m.op
def pRes (m : Msg) : Prop := m.res = rz ∨ resOk m.res.code m.res.data.length = true
def pGrp (m : Msg) : Prop := m.grp = zgr ∨ groupOk m.grp.epoch m.grp.members = true
def pStt (m : Msg) : Prop := m.stt = zst ∨ heldOk m.stt
theorem wright_ct (m : Msg) (s : Lie) (hm : MsgLen m) : Ct Tryz.prog 24 [msgV m s] [] (msgQ m s) (fun u G Q => u = .bool (decide (partsOk m ∧ rowOkE m.log)) ∧ G = [] ∧ Q = []) := by
 refine Ct.intro Tryz.func24 rfl rfl rfl (fun c hc => ?_)
 refine GC.sr_ ?_; refine GL.step rfl (t_box rfl rfl rfl) (GL.ex fun b_t1 => ?_); refine GL.as_ rfl rfl ?_; refine GL.nl_ ?_; refine GC.sr_ ?_; refine GL.step rfl (t_mem rfl (m_loadN (i := 0) rfl rfl ag_42 (vs := [_, _, _, _, _, _, _, _, _, _, _, _, _, _, _, _, _, _, _, _, _, _, _, _, _, _, _, _]) sz_42 ⟨rfl, rfl, rfl, rfl, rfl, rfl, rfl, rfl, rfl, rfl, rfl, rfl, rfl, rfl, rfl, rfl, rfl, rfl, rfl, rfl, rfl, rfl, rfl, rfl, rfl, rfl, rfl, rfl, trivial⟩)) ?_
 refine GL.step rfl (t_call rfl fn_59 rfl (is := []) (js := [0, 1, 2, 3, 4, 5, 6, 7]) rfl rfl (by exact parts_ct m s hm)) (GL.ret ?_)
 rintro _ _ _ ⟨rfl, rfl, rfl⟩
 refine GL.as_ rfl rfl ?_; refine GL.nl_ ?_; refine GC.joinK1 (ks := [1, 3]) (is := [0]) (js := [0, 1, 2, 3, 4, 5, 6, 7]) (fun (u_ : Unit) => pOp m ∧ pRes m ∧ pGrp m) (fun (u_ : Unit) => []) (fun (u_ : Unit) => []) (fun (u_ : Unit) => []) rfl rfl rfl ?_ ?_
 ·refine GC.sr_ ?_; refine GL.mv_ rfl rfl ?_; refine GL.pure rfl (p_andR rfl rfl (and_b1 _ _ _ _)) ?_; refine GL.pure rfl (p_neq rfl rfl) ?_; refine GL.mv_ rfl rfl ?_; refine GL.split (i := 9) rfl (fun h1 => ?_) (fun h1 => ?_)
  ·try simp only [tst_, bi1, bi2, bi4, bi8, formE_iff, resE_iff, grpE_iff, lcE_iff] at h1
   refine GL.pureG (s := 9) rfl rfl rfl (p_fieldAddr fo_42_11 rfl) ?_; refine GL.stepG rfl (s := 9) rfl rfl (t_mem rfl (m_loadN (i := 0) rfl rfl ag_27 (vs := [_, _, _, _, _]) sz_27 ⟨rfl, rfl, rfl, rfl, rfl, trivial⟩)) ?_
   refine GL.stepG rfl (s := 9) rfl rfl (t_call rfl fn_60 rfl (is := []) (js := []) rfl rfl (by exact form_ct m.op.kind m.op.at_ m.op.n _ m.op.data.length _ _ m.op.old.length _)) (GL.ret ?_)
   rintro _ _ _ ⟨rfl, rfl, rfl⟩
   refine GL.pureG (s := 9) rfl rfl rfl (p_neq rfl rfl) ?_; refine GL.pure rfl (p_pick_true rfl rfl) ?_; refine GL.mv_ rfl rfl ?_; refine GL.split (i := 15) rfl (fun h2 => ?_) (fun h2 => ?_)
   ·try simp only [tst_, bi1, bi2, bi4, bi8, formE_iff, resE_iff, grpE_iff, lcE_iff] at h2
    iterate 4 refine GL.pass (s := 15) rfl rfl rfl ?_
    iterate 4 refine GL.passU (s := 19) rfl rfl rfl ?_
    refine GL.pass (s := 15) rfl rfl rfl ?_; refine GL.pure rfl (p_pick_true rfl rfl) ?_; refine GL.mv_ rfl rfl ?_
    iterate 4 refine GL.pass (s := 26) rfl rfl rfl ?_
    iterate 4 refine GL.passU (s := 30) rfl rfl rfl ?_
    refine GL.pass (s := 26) rfl rfl rfl ?_; refine GL.pure rfl (p_pick_true rfl rfl) ?_; refine GL.nl_ ?_; refine GC.cond_true rfl ?_; refine GC.sr_ ?_; refine GL.as_ rfl rfl ?_; refine GL.nl_ ?_; refine GC.ret ?_
    refine fun a w h => Fin.back (rs := [.tmp 2]) (vs := [_]) (is := []) (js := []) rfl ⟨rfl, trivial⟩ rfl rfl ?_ h
    clear h
    exact ⟨congrArg Value.bool (decide_eq_false fun H => by obtain ⟨⟨g1, g2, g3, g4⟩, _⟩ := H; simp only [formD] at g1; simp_all).symm, rfl, rfl⟩
   ·try simp only [tst_, bi1, bi2, bi4, bi8, formE_iff, resE_iff, grpE_iff, lcE_iff] at h2
    refine GL.pureG (s := 15) rfl rfl rfl (p_move rfl) ?_; refine GL.pureG (s := 15) rfl rfl rfl (p_andR rfl rfl (and_b2 _ _ _ _)) ?_; refine GL.pureG (s := 15) rfl rfl rfl (p_neq rfl rfl) ?_; refine GL.pureG (s := 15) rfl rfl rfl (p_move rfl) ?_
    refine GL.split (i := 19) rfl (fun h3 => ?_) (fun h3 => ?_)
    ·try simp only [tst_, bi1, bi2, bi4, bi8, formE_iff, resE_iff, grpE_iff, lcE_iff] at h3
     refine GL.pureG (s := 19) rfl rfl rfl (p_fieldAddr fo_42_12 rfl) ?_; refine GL.stepG rfl (s := 19) rfl rfl (t_mem rfl (m_loadN (i := 0) rfl rfl ag_30 (vs := [_, _]) sz_30 ⟨rfl, rfl, trivial⟩)) ?_; refine GL.stepG rfl (s := 19) rfl rfl (t_call rfl fn_61 rfl (is := []) (js := []) rfl rfl (by exact bres_ct m.res.code _ m.res.data.length _)) (GL.ret ?_)
     rintro _ _ _ ⟨rfl, rfl, rfl⟩
     refine GL.pureG (s := 19) rfl rfl rfl (p_neq rfl rfl) ?_; refine GL.pureG (s := 15) rfl rfl rfl (p_pick_true rfl rfl) ?_; refine GL.pure rfl (p_pick_false rfl rfl) ?_; refine GL.mv_ rfl rfl ?_; refine GL.split (i := 26) rfl (fun h4 => ?_) (fun h4 => ?_)
     ·try simp only [tst_, bi1, bi2, bi4, bi8, formE_iff, resE_iff, grpE_iff, lcE_iff] at h4
      iterate 4 refine GL.pass (s := 26) rfl rfl rfl ?_
      iterate 4 refine GL.passU (s := 30) rfl rfl rfl ?_
      refine GL.pass (s := 26) rfl rfl rfl ?_; refine GL.pure rfl (p_pick_true rfl rfl) ?_; refine GL.nl_ ?_; refine GC.cond_true rfl ?_; refine GC.sr_ ?_; refine GL.as_ rfl rfl ?_; refine GL.nl_ ?_; refine GC.ret ?_
      refine fun a w h => Fin.back (rs := [.tmp 2]) (vs := [_]) (is := []) (js := []) rfl ⟨rfl, trivial⟩ rfl rfl ?_ h
      clear h
      exact ⟨congrArg Value.bool (decide_eq_false fun H => by obtain ⟨⟨g1, g2, g3, g4⟩, _⟩ := H; simp only [formD] at g1; simp_all).symm, rfl, rfl⟩
     ·try simp only [tst_, bi1, bi2, bi4, bi8, formE_iff, resE_iff, grpE_iff, lcE_iff] at h4
      refine GL.pureG (s := 26) rfl rfl rfl (p_move rfl) ?_; refine GL.pureG (s := 26) rfl rfl rfl (p_andR rfl rfl (and_b4 _ _ _ _)) ?_; refine GL.pureG (s := 26) rfl rfl rfl (p_neq rfl rfl) ?_; refine GL.pureG (s := 26) rfl rfl rfl (p_move rfl) ?_
      refine GL.split (i := 30) rfl (fun h5 => ?_) (fun h5 => ?_)
      ·try simp only [tst_, bi1, bi2, bi4, bi8, formE_iff, resE_iff, grpE_iff, lcE_iff] at h5
       refine GL.pureG (s := 30) rfl rfl rfl (p_fieldAddr fo_42_13 rfl) ?_; refine GL.stepG rfl (s := 30) rfl rfl (t_mem rfl (m_loadN (i := 0) rfl rfl ag_33 (vs := [_, _]) sz_33 ⟨rfl, rfl, trivial⟩)) ?_; refine GL.stepG rfl (s := 30) rfl rfl (t_call rfl fn_62 rfl (is := []) (js := [3]) rfl rfl (by exact mgroup_ct m.grp.epoch _ m.grp.members _ (by have := hm.g; omega))) (GL.ret ?_)
       rintro _ _ _ ⟨rfl, rfl, rfl⟩
       refine GL.pureG (s := 30) rfl rfl rfl (p_neq rfl rfl) ?_; refine GL.pureG (s := 26) rfl rfl rfl (p_pick_true rfl rfl) ?_; refine GL.pure rfl (p_pick_false rfl rfl) ?_; refine GL.nl_ ?_; refine GC.cond rfl (fun h6 => ?_) (fun h6 => ?_)
       ·try simp only [tst_, bi1, bi2, bi4, bi8, formE_iff, resE_iff, grpE_iff, lcE_iff] at h6
        refine GC.sr_ ?_; refine GL.as_ rfl rfl ?_; refine GL.nl_ ?_; refine GC.ret ?_
        refine fun a w h => Fin.back (rs := [.tmp 2]) (vs := [_]) (is := []) (js := []) rfl ⟨rfl, trivial⟩ rfl rfl ?_ h
        clear h
        exact ⟨congrArg Value.bool (decide_eq_false fun H => by obtain ⟨⟨g1, g2, g3, g4⟩, _⟩ := H; simp only [formD] at g1; simp_all).symm, rfl, rfl⟩
       ·try simp only [tst_, bi1, bi2, bi4, bi8, formE_iff, resE_iff, grpE_iff, lcE_iff] at h6
        refine GC.skip ?_
        exact fun a w h => ⟨(()), (by simp only [pOp, pRes, pGrp, formD]; simp_all), h.cut (is := [0]) (js := [0, 1, 2, 3, 4, 5, 6, 7]) ⟨rfl, rfl, trivial⟩ rfl rfl⟩
      ·try simp only [tst_, bi1, bi2, bi4, bi8, formE_iff, resE_iff, grpE_iff, lcE_iff] at h5
       iterate 4 refine GL.pass (s := 30) rfl rfl rfl ?_
       refine GL.pureG (s := 26) rfl rfl rfl (p_pick_false rfl rfl) ?_; refine GL.pure rfl (p_pick_false rfl rfl) ?_; refine GL.nl_ ?_; refine GC.cond_false rfl ?_; refine GC.skip ?_
       exact fun a w h => ⟨(()), (by simp only [pOp, pRes, pGrp, formD]; simp_all), h.cut (is := [0]) (js := [0, 1, 2, 3, 4, 5, 6, 7]) ⟨rfl, rfl, trivial⟩ rfl rfl⟩
    ·try simp only [tst_, bi1, bi2, bi4, bi8, formE_iff, resE_iff, grpE_iff, lcE_iff] at h3
     iterate 4 refine GL.pass (s := 19) rfl rfl rfl ?_
     refine GL.pureG (s := 15) rfl rfl rfl (p_pick_false rfl rfl) ?_; refine GL.pure rfl (p_pick_false rfl rfl) ?_; refine GL.mv_ rfl rfl ?_; refine GL.pureG (s := 26) rfl rfl rfl (p_move rfl) ?_; refine GL.pureG (s := 26) rfl rfl rfl (p_andR rfl rfl (and_b4 _ _ _ _)) ?_
     refine GL.pureG (s := 26) rfl rfl rfl (p_neq rfl rfl) ?_; refine GL.pureG (s := 26) rfl rfl rfl (p_move rfl) ?_; refine GL.split (i := 30) rfl (fun h7 => ?_) (fun h7 => ?_)
     ·try simp only [tst_, bi1, bi2, bi4, bi8, formE_iff, resE_iff, grpE_iff, lcE_iff] at h7
      refine GL.pureG (s := 30) rfl rfl rfl (p_fieldAddr fo_42_13 rfl) ?_; refine GL.stepG rfl (s := 30) rfl rfl (t_mem rfl (m_loadN (i := 0) rfl rfl ag_33 (vs := [_, _]) sz_33 ⟨rfl, rfl, trivial⟩)) ?_; refine GL.stepG rfl (s := 30) rfl rfl (t_call rfl fn_62 rfl (is := []) (js := [3]) rfl rfl (by exact mgroup_ct m.grp.epoch _ m.grp.members _ (by have := hm.g; omega))) (GL.ret ?_)
      rintro _ _ _ ⟨rfl, rfl, rfl⟩
      refine GL.pureG (s := 30) rfl rfl rfl (p_neq rfl rfl) ?_; refine GL.pureG (s := 26) rfl rfl rfl (p_pick_true rfl rfl) ?_; refine GL.pure rfl (p_pick_false rfl rfl) ?_; refine GL.nl_ ?_; refine GC.cond rfl (fun h8 => ?_) (fun h8 => ?_)
      ·try simp only [tst_, bi1, bi2, bi4, bi8, formE_iff, resE_iff, grpE_iff, lcE_iff] at h8
       refine GC.sr_ ?_; refine GL.as_ rfl rfl ?_; refine GL.nl_ ?_; refine GC.ret ?_
       refine fun a w h => Fin.back (rs := [.tmp 2]) (vs := [_]) (is := []) (js := []) rfl ⟨rfl, trivial⟩ rfl rfl ?_ h
       clear h
       exact ⟨congrArg Value.bool (decide_eq_false fun H => by obtain ⟨⟨g1, g2, g3, g4⟩, _⟩ := H; simp only [formD] at g1; simp_all).symm, rfl, rfl⟩
      ·try simp only [tst_, bi1, bi2, bi4, bi8, formE_iff, resE_iff, grpE_iff, lcE_iff] at h8
       refine GC.skip ?_
       exact fun a w h => ⟨(()), (by simp only [pOp, pRes, pGrp, formD]; simp_all), h.cut (is := [0]) (js := [0, 1, 2, 3, 4, 5, 6, 7]) ⟨rfl, rfl, trivial⟩ rfl rfl⟩
     ·try simp only [tst_, bi1, bi2, bi4, bi8, formE_iff, resE_iff, grpE_iff, lcE_iff] at h7
      iterate 4 refine GL.pass (s := 30) rfl rfl rfl ?_
      refine GL.pureG (s := 26) rfl rfl rfl (p_pick_false rfl rfl) ?_; refine GL.pure rfl (p_pick_false rfl rfl) ?_; refine GL.nl_ ?_; refine GC.cond_false rfl ?_; refine GC.skip ?_
      exact fun a w h => ⟨(()), (by simp only [pOp, pRes, pGrp, formD]; simp_all), h.cut (is := [0]) (js := [0, 1, 2, 3, 4, 5, 6, 7]) ⟨rfl, rfl, trivial⟩ rfl rfl⟩
  ·try simp only [tst_, bi1, bi2, bi4, bi8, formE_iff, resE_iff, grpE_iff, lcE_iff] at h1
   iterate 4 refine GL.pass (s := 9) rfl rfl rfl ?_
   refine GL.pure rfl (p_pick_false rfl rfl) ?_; refine GL.mv_ rfl rfl ?_; refine GL.pureG (s := 15) rfl rfl rfl (p_move rfl) ?_; refine GL.pureG (s := 15) rfl rfl rfl (p_andR rfl rfl (and_b2 _ _ _ _)) ?_; refine GL.pureG (s := 15) rfl rfl rfl (p_neq rfl rfl) ?_
   refine GL.pureG (s := 15) rfl rfl rfl (p_move rfl) ?_; refine GL.split (i := 19) rfl (fun h9 => ?_) (fun h9 => ?_)
   ·try simp only [tst_, bi1, bi2, bi4, bi8, formE_iff, resE_iff, grpE_iff, lcE_iff] at h9
    refine GL.pureG (s := 19) rfl rfl rfl (p_fieldAddr fo_42_12 rfl) ?_; refine GL.stepG rfl (s := 19) rfl rfl (t_mem rfl (m_loadN (i := 0) rfl rfl ag_30 (vs := [_, _]) sz_30 ⟨rfl, rfl, trivial⟩)) ?_; refine GL.stepG rfl (s := 19) rfl rfl (t_call rfl fn_61 rfl (is := []) (js := []) rfl rfl (by exact bres_ct m.res.code _ m.res.data.length _)) (GL.ret ?_)
    rintro _ _ _ ⟨rfl, rfl, rfl⟩
    refine GL.pureG (s := 19) rfl rfl rfl (p_neq rfl rfl) ?_; refine GL.pureG (s := 15) rfl rfl rfl (p_pick_true rfl rfl) ?_; refine GL.pure rfl (p_pick_false rfl rfl) ?_; refine GL.mv_ rfl rfl ?_; refine GL.split (i := 26) rfl (fun h10 => ?_) (fun h10 => ?_)
    ·try simp only [tst_, bi1, bi2, bi4, bi8, formE_iff, resE_iff, grpE_iff, lcE_iff] at h10
     iterate 4 refine GL.pass (s := 26) rfl rfl rfl ?_
     iterate 4 refine GL.passU (s := 30) rfl rfl rfl ?_
     refine GL.pass (s := 26) rfl rfl rfl ?_; refine GL.pure rfl (p_pick_true rfl rfl) ?_; refine GL.nl_ ?_; refine GC.cond_true rfl ?_; refine GC.sr_ ?_; refine GL.as_ rfl rfl ?_; refine GL.nl_ ?_; refine GC.ret ?_
     refine fun a w h => Fin.back (rs := [.tmp 2]) (vs := [_]) (is := []) (js := []) rfl ⟨rfl, trivial⟩ rfl rfl ?_ h
     clear h
     exact ⟨congrArg Value.bool (decide_eq_false fun H => by obtain ⟨⟨g1, g2, g3, g4⟩, _⟩ := H; simp only [formD] at g1; simp_all).symm, rfl, rfl⟩
    ·try simp only [tst_, bi1, bi2, bi4, bi8, formE_iff, resE_iff, grpE_iff, lcE_iff] at h10
     refine GL.pureG (s := 26) rfl rfl rfl (p_move rfl) ?_; refine GL.pureG (s := 26) rfl rfl rfl (p_andR rfl rfl (and_b4 _ _ _ _)) ?_; refine GL.pureG (s := 26) rfl rfl rfl (p_neq rfl rfl) ?_; refine GL.pureG (s := 26) rfl rfl rfl (p_move rfl) ?_
     refine GL.split (i := 30) rfl (fun h11 => ?_) (fun h11 => ?_)
     ·try simp only [tst_, bi1, bi2, bi4, bi8, formE_iff, resE_iff, grpE_iff, lcE_iff] at h11
      refine GL.pureG (s := 30) rfl rfl rfl (p_fieldAddr fo_42_13 rfl) ?_; refine GL.stepG rfl (s := 30) rfl rfl (t_mem rfl (m_loadN (i := 0) rfl rfl ag_33 (vs := [_, _]) sz_33 ⟨rfl, rfl, trivial⟩)) ?_; refine GL.stepG rfl (s := 30) rfl rfl (t_call rfl fn_62 rfl (is := []) (js := [3]) rfl rfl (by exact mgroup_ct m.grp.epoch _ m.grp.members _ (by have := hm.g; omega))) (GL.ret ?_)
      rintro _ _ _ ⟨rfl, rfl, rfl⟩
      refine GL.pureG (s := 30) rfl rfl rfl (p_neq rfl rfl) ?_; refine GL.pureG (s := 26) rfl rfl rfl (p_pick_true rfl rfl) ?_; refine GL.pure rfl (p_pick_false rfl rfl) ?_; refine GL.nl_ ?_; refine GC.cond rfl (fun h12 => ?_) (fun h12 => ?_)
      ·try simp only [tst_, bi1, bi2, bi4, bi8, formE_iff, resE_iff, grpE_iff, lcE_iff] at h12
       refine GC.sr_ ?_; refine GL.as_ rfl rfl ?_; refine GL.nl_ ?_; refine GC.ret ?_
       refine fun a w h => Fin.back (rs := [.tmp 2]) (vs := [_]) (is := []) (js := []) rfl ⟨rfl, trivial⟩ rfl rfl ?_ h
       clear h
       exact ⟨congrArg Value.bool (decide_eq_false fun H => by obtain ⟨⟨g1, g2, g3, g4⟩, _⟩ := H; simp only [formD] at g1; simp_all).symm, rfl, rfl⟩
      ·try simp only [tst_, bi1, bi2, bi4, bi8, formE_iff, resE_iff, grpE_iff, lcE_iff] at h12
       refine GC.skip ?_
       exact fun a w h => ⟨(()), (by simp only [pOp, pRes, pGrp, formD]; simp_all), h.cut (is := [0]) (js := [0, 1, 2, 3, 4, 5, 6, 7]) ⟨rfl, rfl, trivial⟩ rfl rfl⟩
     ·try simp only [tst_, bi1, bi2, bi4, bi8, formE_iff, resE_iff, grpE_iff, lcE_iff] at h11
      iterate 4 refine GL.pass (s := 30) rfl rfl rfl ?_
      refine GL.pureG (s := 26) rfl rfl rfl (p_pick_false rfl rfl) ?_; refine GL.pure rfl (p_pick_false rfl rfl) ?_; refine GL.nl_ ?_; refine GC.cond_false rfl ?_; refine GC.skip ?_
      exact fun a w h => ⟨(()), (by simp only [pOp, pRes, pGrp, formD]; simp_all), h.cut (is := [0]) (js := [0, 1, 2, 3, 4, 5, 6, 7]) ⟨rfl, rfl, trivial⟩ rfl rfl⟩
   ·try simp only [tst_, bi1, bi2, bi4, bi8, formE_iff, resE_iff, grpE_iff, lcE_iff] at h9
    iterate 4 refine GL.pass (s := 19) rfl rfl rfl ?_
    refine GL.pureG (s := 15) rfl rfl rfl (p_pick_false rfl rfl) ?_; refine GL.pure rfl (p_pick_false rfl rfl) ?_; refine GL.mv_ rfl rfl ?_; refine GL.pureG (s := 26) rfl rfl rfl (p_move rfl) ?_; refine GL.pureG (s := 26) rfl rfl rfl (p_andR rfl rfl (and_b4 _ _ _ _)) ?_
    refine GL.pureG (s := 26) rfl rfl rfl (p_neq rfl rfl) ?_; refine GL.pureG (s := 26) rfl rfl rfl (p_move rfl) ?_; refine GL.split (i := 30) rfl (fun h13 => ?_) (fun h13 => ?_)
    ·try simp only [tst_, bi1, bi2, bi4, bi8, formE_iff, resE_iff, grpE_iff, lcE_iff] at h13
     refine GL.pureG (s := 30) rfl rfl rfl (p_fieldAddr fo_42_13 rfl) ?_; refine GL.stepG rfl (s := 30) rfl rfl (t_mem rfl (m_loadN (i := 0) rfl rfl ag_33 (vs := [_, _]) sz_33 ⟨rfl, rfl, trivial⟩)) ?_; refine GL.stepG rfl (s := 30) rfl rfl (t_call rfl fn_62 rfl (is := []) (js := [3]) rfl rfl (by exact mgroup_ct m.grp.epoch _ m.grp.members _ (by have := hm.g; omega))) (GL.ret ?_)
     rintro _ _ _ ⟨rfl, rfl, rfl⟩
     refine GL.pureG (s := 30) rfl rfl rfl (p_neq rfl rfl) ?_; refine GL.pureG (s := 26) rfl rfl rfl (p_pick_true rfl rfl) ?_; refine GL.pure rfl (p_pick_false rfl rfl) ?_; refine GL.nl_ ?_; refine GC.cond rfl (fun h14 => ?_) (fun h14 => ?_)
     ·try simp only [tst_, bi1, bi2, bi4, bi8, formE_iff, resE_iff, grpE_iff, lcE_iff] at h14
      refine GC.sr_ ?_; refine GL.as_ rfl rfl ?_; refine GL.nl_ ?_; refine GC.ret ?_
      refine fun a w h => Fin.back (rs := [.tmp 2]) (vs := [_]) (is := []) (js := []) rfl ⟨rfl, trivial⟩ rfl rfl ?_ h
      clear h
      exact ⟨congrArg Value.bool (decide_eq_false fun H => by obtain ⟨⟨g1, g2, g3, g4⟩, _⟩ := H; simp only [formD] at g1; simp_all).symm, rfl, rfl⟩
     ·try simp only [tst_, bi1, bi2, bi4, bi8, formE_iff, resE_iff, grpE_iff, lcE_iff] at h14
      refine GC.skip ?_
      exact fun a w h => ⟨(()), (by simp only [pOp, pRes, pGrp, formD]; simp_all), h.cut (is := [0]) (js := [0, 1, 2, 3, 4, 5, 6, 7]) ⟨rfl, rfl, trivial⟩ rfl rfl⟩
    ·try simp only [tst_, bi1, bi2, bi4, bi8, formE_iff, resE_iff, grpE_iff, lcE_iff] at h13
     iterate 4 refine GL.pass (s := 30) rfl rfl rfl ?_
     refine GL.pureG (s := 26) rfl rfl rfl (p_pick_false rfl rfl) ?_; refine GL.pure rfl (p_pick_false rfl rfl) ?_; refine GL.nl_ ?_; refine GC.cond_false rfl ?_; refine GC.skip ?_
     exact fun a w h => ⟨(()), (by simp only [pOp, pRes, pGrp, formD]; simp_all), h.cut (is := [0]) (js := [0, 1, 2, 3, 4, 5, 6, 7]) ⟨rfl, rfl, trivial⟩ rfl rfl⟩
 ·intro u_ hj2
  try dsimp only [List.cons_append, List.nil_append] at hj2 ⊢
  refine GC.joinK1 (ks := [1]) (is := [0]) (js := [0, 1, 2, 3, 4, 5, 6, 7]) (fun (u_ : Unit) => pStt m) (fun (u_ : Unit) => []) (fun (u_ : Unit) => []) (fun (u_ : Unit) => []) rfl rfl rfl ?_ ?_
  ·refine GC.sr_ ?_; refine GL.mv_ rfl rfl ?_; refine GL.pure rfl (p_andR rfl rfl (and_b8 _ _ _ _)) ?_; refine GL.pure rfl (p_neq rfl rfl) ?_; refine GL.mv_ rfl rfl ?_; refine GL.split (i := 40) rfl (fun h15 => ?_) (fun h15 => ?_)
   ·try simp only [tst_, bi1, bi2, bi4, bi8, formE_iff, resE_iff, grpE_iff, lcE_iff] at h15
    refine GL.pureG (s := 40) rfl rfl rfl (p_fieldAddr fo_42_14 rfl) ?_; refine GL.stepG rfl (s := 40) rfl rfl (t_mem rfl (m_loadN (i := 0) rfl rfl ag_39 (vs := [_, _, _, _, _, _, _]) sz_39 ⟨rfl, rfl, rfl, rfl, rfl, rfl, rfl, trivial⟩)) ?_
    refine GL.pureG (s := 40) rfl rfl rfl (p_build ze_111 of_111 rfl rfl) ?_; refine GL.stepG rfl (s := 40) rfl rfl (t_call rfl fn_63 rfl (is := []) (js := [4, 5, 6]) rfl rfl (by exact lchk_ct m.stt _ _ _ _ _ _ hm.s)) (GL.ret ?_)
    rintro _ _ _ ⟨rfl, rfl, rfl⟩
    refine GL.pureG (s := 40) rfl rfl rfl (p_neq rfl rfl) ?_; refine GL.pure rfl (p_pick_true rfl rfl) ?_; refine GL.nl_ ?_; refine GC.cond rfl (fun h16 => ?_) (fun h16 => ?_)
    ·try simp only [tst_, bi1, bi2, bi4, bi8, formE_iff, resE_iff, grpE_iff, lcE_iff] at h16
     refine GC.sr_ ?_; refine GL.as_ rfl rfl ?_; refine GL.nl_ ?_; refine GC.ret ?_
     refine fun a w h => Fin.back (rs := [.tmp 2]) (vs := [_]) (is := []) (js := []) rfl ⟨rfl, trivial⟩ rfl rfl ?_ h
     clear h
     exact ⟨congrArg Value.bool (decide_eq_false fun H => by obtain ⟨⟨g1, g2, g3, g4⟩, _⟩ := H; simp_all).symm, rfl, rfl⟩
    ·try simp only [tst_, bi1, bi2, bi4, bi8, formE_iff, resE_iff, grpE_iff, lcE_iff] at h16
     refine GC.skip ?_
     exact fun a w h => ⟨(()), (by simp only [pStt]; simp_all), h.cut (is := [0]) (js := [0, 1, 2, 3, 4, 5, 6, 7]) ⟨rfl, trivial⟩ rfl rfl⟩
   ·try simp only [tst_, bi1, bi2, bi4, bi8, formE_iff, resE_iff, grpE_iff, lcE_iff] at h15
    iterate 5 refine GL.pass (s := 40) rfl rfl rfl ?_
    refine GL.pure rfl (p_pick_false rfl rfl) ?_; refine GL.nl_ ?_; refine GC.cond_false rfl ?_; refine GC.skip ?_
    exact fun a w h => ⟨(()), (by simp only [pStt]; simp_all), h.cut (is := [0]) (js := [0, 1, 2, 3, 4, 5, 6, 7]) ⟨rfl, trivial⟩ rfl rfl⟩
  ·intro u_ hj4
   try dsimp only [List.cons_append, List.nil_append] at hj4 ⊢
   refine GC.sr_ ?_; refine GL.pure rfl (p_fieldAddr fo_42_15 rfl) ?_; refine GL.step rfl (t_mem rfl (m_load (i := 0) rfl rfl ag_40 rfl)) ?_; refine GL.step rfl (t_call rfl fn_64 rfl (is := []) (js := [7]) rfl rfl (by exact wrow_ct _ m.log _ (by have := hm.l; omega) hm.e)) (GL.ret ?_)
   rintro _ _ _ ⟨rfl, rfl, rfl⟩
   refine GL.as_ rfl rfl ?_; refine GL.nl_ ?_; refine GC.ret ?_
   refine fun a w h => Fin.back (rs := [.tmp 2]) (vs := [_]) (is := []) (js := []) rfl ⟨rfl, trivial⟩ rfl rfl ?_ h
   clear h
   exact ⟨congrArg Value.bool (decide_eq_decide.2 ⟨fun g => ⟨⟨hj2.1, hj2.2.1, hj2.2.2, hj4⟩, g⟩, fun g => g.2⟩), rfl, rfl⟩
theorem iidx_ct (A : Option Addr) (l : List Int) (cp : Nat) (hl : l.length ≤ 140737488355328) : Ct Tryz.prog 58 [.slice A l.length cp, .func (.func 22) #[] #[]] [] [Pers.row kI A l]
    (fun u G Q => ∃ i : Int, (0 ≤ i ↔ ¬ ∀ x ∈ l, in62 x) ∧ u = .int .i64 i ∧ G = [] ∧ Q = []) := by
 refine Ct.intro Tryz.func58 rfl rfl rfl (fun c hc => ?_)
 refine GC.sr_ ?_; refine GL.as_ rfl rfl ?_; refine GL.nl_ ?_; refine GC.seq' ?_; refine GC.sr_ ?_; refine GL.mv_ rfl rfl ?_; refine GL.pure rfl (p_len Tryz.underlying31 rfl) ?_; refine GL.mv_ rfl rfl ?_; refine GL.nl_ ?_
 refine GC.block ?_; refine GC.loopK1 (ks := [0, 1, 7]) (is := []) (js := [0]) (fun (k : Nat) => k ≤ l.length ∧ ∀ j : Nat, j < k → in62 (gt l (j : Int))) (fun (k : Nat) => [(8, .int .i64 (k : Int))]) (fun (k : Nat) => []) (fun (k : Nat) => []) (fun (k : Nat) => l.length - k) (0) rfl rfl rfl (fun a w h => ⟨⟨by omega, fun j hj => by omega⟩, h.cutK (is := []) (js := [0]) (ks := [0, 1, 7]) ⟨rfl, trivial⟩ rfl rfl rfl⟩) ?_
 intro k hk
 try dsimp only [List.cons_append, List.nil_append] at hk ⊢
 obtain ⟨hk, hall⟩ := hk
 refine GC.sr_ ?_; refine GL.pure rfl (p_lss rfl rfl) ?_; refine GL.nl_ ?_; refine GC.seq' ?_; refine GC.cond rfl (fun h1 => ?_) (fun h1 => ?_)
 ·try simp only [tst_] at h1
  refine GC.skip (?_ : GC _ _ _ _)
  refine GC.seq' ?_; refine GC.block ?_; refine GC.sr_ ?_; refine GL.mv_ rfl rfl ?_; refine GL.as_ rfl rfl ?_; refine GL.nl_ ?_; refine GC.sr_ ?_
  iterate 3 refine GL.mv_ rfl rfl ?_
  refine GL.step rfl (t_index (i := 0) rfl rfl rfl rfl Tryz.underlying31 sz_3 (by omega) (gt_ok (by omega) (by omega))) (GL.ex fun p_x14 => GL.ex fun r_x14 => GL.and fun ok_x14 => ?_)
  rcases r_x14 with _
  refine GL.step rfl (t_mem rfl (m_loadP (i := 0) rfl rfl ag_3 rfl)) ?_; refine GL.step rfl (t_callv rfl fn_22 rfl rfl (is := []) (js := []) rfl rfl (by exact chk1_ct (gt l (k : Int)))) (GL.ret ?_)
  rintro _ _ _ ⟨rfl, rfl, rfl⟩
  refine GL.nl_ ?_; refine GC.cond rfl (fun h2 => ?_) (fun h2 => ?_)
  ·try simp only [tst_] at h2
   refine GC.sr_ ?_; refine GL.mv_ rfl rfl ?_; refine GL.as_ rfl rfl ?_; refine GL.nl_ ?_; refine GC.ret ?_
   refine fun a w h => Fin.back (rs := [.tmp 4]) (vs := [_]) (is := []) (js := []) rfl ⟨rfl, trivial⟩ rfl rfl ?_ h
   clear h
   exact ⟨_, ⟨fun _ H => absurd (H _ (gt_elem (l := l) (k := k) (by omega))) (by assumption), fun _ => by omega⟩, rfl, rfl, rfl⟩
  ·try simp only [tst_] at h2
   refine GC.skip (?_ : GC _ _ _ _)
   refine GC.region ?_; refine GL.pure rfl (p_add rfl rfl (w64 (by omega) (by omega))) ?_; refine GL.mv_ rfl rfl ?_; refine GL.nil ?_
   exact fun a w h => ⟨(k + 1), (by omega), ⟨by omega, fun j hj => (Nat.lt_succ_iff_lt_or_eq.1 hj).elim (hall j) (fun e => by subst e; assumption)⟩, h.cut (is := []) (js := [1]) ⟨rfl, rfl, rfl, rfl, trivial⟩ rfl rfl⟩
 ·try simp only [tst_] at h1
  refine GC.exit (?_ : GC _ _ _ _)
  refine GC.sr_ ?_; refine GL.as_ rfl rfl ?_; refine GL.nl_ ?_; refine GC.ret ?_
  refine fun a w h => Fin.back (rs := [.tmp 4]) (vs := [_]) (is := []) (js := []) rfl ⟨rfl, trivial⟩ rfl rfl ?_ h
  clear h
  exact ⟨_, ⟨fun g => by omega, fun g => absurd (fun p hp => by obtain ⟨j, hj, rfl⟩ := mem_gt hp; exact hall j (by omega)) g⟩, rfl, rfl, rfl⟩
theorem icon_ct (A : Option Addr) (l : List Int) (cp : Nat) (hl : l.length ≤ 140737488355328) : Ct Tryz.prog 21 [.slice A l.length cp, .func (.func 22) #[] #[]] [] [Pers.row kI A l]
    (fun u G Q => u = .bool (decide (¬ ∀ x ∈ l, in62 x)) ∧ G = [] ∧ Q = []) := by
 refine Ct.intro Tryz.func21 rfl rfl rfl (fun c hc => ?_)
 refine GC.sr_ ?_; refine GL.as_ rfl rfl ?_; refine GL.nl_ ?_; refine GC.sr_ ?_
 iterate 2 refine GL.mv_ rfl rfl ?_
 refine GL.step rfl (t_call rfl fn_58 rfl (is := []) (js := [0]) rfl rfl (by exact iidx_ct _ l _ hl)) (GL.ret ?_)
 rintro _ _ _ ⟨i7, hi7, rfl, rfl, rfl⟩
 refine GL.pure rfl (p_geq rfl rfl) ?_; refine GL.as_ rfl rfl ?_; refine GL.nl_ ?_; refine GC.ret ?_
 refine fun a w h => Fin.back (rs := [.tmp 4]) (vs := [_]) (is := []) (js := []) rfl ⟨rfl, trivial⟩ rfl rfl ?_ h
 clear h
 exact ⟨congrArg Value.bool (decide_eq_decide.2 hi7), rfl, rfl⟩
theorem nums_iff (m : Msg) : (∀ x ∈ [m.epoch, m.view, m.num, m.commit, m.normal, m.client, m.serial], in62 x) ↔ numsOk m := by simp [numsOk]
theorem msgE_yes {m : Msg} (h : msgOk m) : msgE m = 0 := if_pos h
theorem msgE_no {m : Msg} (h : ¬ msgOk m) : msgE m = 160 := if_neg h
theorem wchk_ct (m : Msg) (s : Lie) (hm : MsgLen m) : Ct Tryz.prog 12 [msgV m s] [] (msgQ m s) (fun u G Q => u = .int .i64 (msgE m) ∧ G = [] ∧ Q = []) := by
 refine Ct.intro Tryz.func12 rfl rfl rfl (fun c hc => ?_)
 refine GC.sr_ ?_; refine GL.step rfl (t_box rfl rfl rfl) (GL.ex fun b_t1 => ?_); refine GL.as_ rfl rfl ?_; refine GL.nl_ ?_; refine GC.sr_ ?_; refine GL.pure rfl (p_fieldAddr fo_42_3 rfl) ?_; refine GL.step rfl (t_mem rfl (m_load (i := 0) rfl rfl ag_3 rfl)) ?_
 refine GL.pure rfl (p_fieldAddr fo_42_4 rfl) ?_; refine GL.step rfl (t_mem rfl (m_load (i := 0) rfl rfl ag_3 rfl)) ?_; refine GL.pure rfl (p_fieldAddr fo_42_5 rfl) ?_; refine GL.step rfl (t_mem rfl (m_load (i := 0) rfl rfl ag_3 rfl)) ?_
 refine GL.pure rfl (p_fieldAddr fo_42_6 rfl) ?_; refine GL.step rfl (t_mem rfl (m_load (i := 0) rfl rfl ag_3 rfl)) ?_; refine GL.pure rfl (p_fieldAddr fo_42_7 rfl) ?_; refine GL.step rfl (t_mem rfl (m_load (i := 0) rfl rfl ag_3 rfl)) ?_
 refine GL.pure rfl (p_fieldAddr fo_42_9 rfl) ?_; refine GL.step rfl (t_mem rfl (m_load (i := 0) rfl rfl ag_3 rfl)) ?_; refine GL.pure rfl (p_fieldAddr fo_42_10 rfl) ?_; refine GL.step rfl (t_mem rfl (m_load (i := 0) rfl rfl ag_3 rfl)) ?_
 refine GL.step rfl (t_buildSlice rfl Tryz.underlying31 sz_3 ze_3 rfl rfl rfl rfl rfl rfl) (GL.ex fun b_t19 => ?_); refine GL.as_ rfl rfl ?_; refine GL.nl_ ?_; refine GC.sr_ ?_; refine GL.freezeC (enc := Value.int .i64) (xs := [m.epoch, m.view, m.num, m.commit, m.normal, m.client, m.serial]) (h1 := fun _ => rfl) (i := 0) rfl ?_
 refine GL.mv_ rfl rfl ?_; refine GL.step rfl (t_call rfl fn_21 rfl (is := []) (js := [0]) rfl rfl (by exact icon_ct _ [m.epoch, m.view, m.num, m.commit, m.normal, m.client, m.serial] _ (by simp))) (GL.ret ?_)
 rintro _ _ _ ⟨rfl, rfl, rfl⟩
 refine GL.as_ rfl rfl ?_; refine GL.nl_ ?_; refine GC.seq' ?_; refine GC.sr_ ?_
 iterate 2 refine GL.mv_ rfl rfl ?_
 refine GL.split (i := 23) rfl (fun h1 => ?_) (fun h1 => ?_)
 ·try simp only [tst_, nums_iff] at h1
  iterate 3 refine GL.pass (s := 23) rfl rfl rfl ?_
  refine GL.pure rfl (p_pick_true rfl rfl) ?_; refine GL.mv_ rfl rfl ?_
  iterate 3 refine GL.pass (s := 28) rfl rfl rfl ?_
  refine GL.pure rfl (p_pick_true rfl rfl) ?_; refine GL.mv_ rfl rfl ?_
  iterate 4 refine GL.pass (s := 33) rfl rfl rfl ?_
  refine GL.pure rfl (p_pick_true rfl rfl) ?_; refine GL.mv_ rfl rfl ?_
  iterate 4 refine GL.pass (s := 39) rfl rfl rfl ?_
  refine GL.pure rfl (p_pick_true rfl rfl) ?_; refine GL.mv_ rfl rfl ?_
  iterate 3 refine GL.pass (s := 45) rfl rfl rfl ?_
  refine GL.pure rfl (p_pick_true rfl rfl) ?_; refine GL.nl_ ?_; refine GC.cond_true rfl ?_; refine GC.sr_ ?_; refine GL.as_ rfl rfl ?_; refine GL.nl_ ?_; refine GC.ret ?_
  refine fun a w h => Fin.back (rs := [.tmp 2]) (vs := [_]) (is := []) (js := []) rfl ⟨rfl, trivial⟩ rfl rfl ?_ h
  clear h
  first | exact ⟨by rw [msgE_no (fun H => by obtain ⟨g1, g2, g3, g4, g5, g6, g7⟩ := H; first | omega | contradiction | (simp_all; done))]; rfl, rfl, rfl⟩ | exact ⟨by rw [msgE_yes ⟨by assumption, by omega, by omega, by assumption, by assumption, (by assumption : partsOk m ∧ rowOkE m.log).1, (by assumption : partsOk m ∧ rowOkE m.log).2⟩]; rfl, rfl, rfl⟩
 ·try simp only [tst_, nums_iff] at h1
  refine GL.pureG (s := 23) rfl rfl rfl (p_fieldAddr fo_42_0 rfl) ?_; refine GL.stepG rfl (s := 23) rfl rfl (t_mem rfl (m_load (i := 0) rfl rfl ag_22 rfl)) ?_; refine GL.pureG (s := 23) rfl rfl rfl (p_lss rfl rfl) ?_; refine GL.pure rfl (p_pick_false rfl rfl) ?_
  refine GL.mv_ rfl rfl ?_; refine GL.split (i := 28) rfl (fun h2 => ?_) (fun h2 => ?_)
  ·try simp only [tst_, nums_iff] at h2
   iterate 3 refine GL.pass (s := 28) rfl rfl rfl ?_
   refine GL.pure rfl (p_pick_true rfl rfl) ?_; refine GL.mv_ rfl rfl ?_
   iterate 4 refine GL.pass (s := 33) rfl rfl rfl ?_
   refine GL.pure rfl (p_pick_true rfl rfl) ?_; refine GL.mv_ rfl rfl ?_
   iterate 4 refine GL.pass (s := 39) rfl rfl rfl ?_
   refine GL.pure rfl (p_pick_true rfl rfl) ?_; refine GL.mv_ rfl rfl ?_
   iterate 3 refine GL.pass (s := 45) rfl rfl rfl ?_
   refine GL.pure rfl (p_pick_true rfl rfl) ?_; refine GL.nl_ ?_; refine GC.cond_true rfl ?_; refine GC.sr_ ?_; refine GL.as_ rfl rfl ?_; refine GL.nl_ ?_; refine GC.ret ?_
   refine fun a w h => Fin.back (rs := [.tmp 2]) (vs := [_]) (is := []) (js := []) rfl ⟨rfl, trivial⟩ rfl rfl ?_ h
   clear h
   first | exact ⟨by rw [msgE_no (fun H => by obtain ⟨g1, g2, g3, g4, g5, g6, g7⟩ := H; first | omega | contradiction | (simp_all; done))]; rfl, rfl, rfl⟩ | exact ⟨by rw [msgE_yes ⟨by assumption, by omega, by omega, by assumption, by assumption, (by assumption : partsOk m ∧ rowOkE m.log).1, (by assumption : partsOk m ∧ rowOkE m.log).2⟩]; rfl, rfl, rfl⟩
  ·try simp only [tst_, nums_iff] at h2
   refine GL.pureG (s := 28) rfl rfl rfl (p_fieldAddr fo_42_0 rfl) ?_; refine GL.stepG rfl (s := 28) rfl rfl (t_mem rfl (m_load (i := 0) rfl rfl ag_22 rfl)) ?_; refine GL.pureG (s := 28) rfl rfl rfl (p_gtr rfl rfl) ?_; refine GL.pure rfl (p_pick_false rfl rfl) ?_
   refine GL.mv_ rfl rfl ?_; refine GL.split (i := 33) rfl (fun h3 => ?_) (fun h3 => ?_)
   ·try simp only [tst_, nums_iff] at h3
    iterate 4 refine GL.pass (s := 33) rfl rfl rfl ?_
    refine GL.pure rfl (p_pick_true rfl rfl) ?_; refine GL.mv_ rfl rfl ?_
    iterate 4 refine GL.pass (s := 39) rfl rfl rfl ?_
    refine GL.pure rfl (p_pick_true rfl rfl) ?_; refine GL.mv_ rfl rfl ?_
    iterate 3 refine GL.pass (s := 45) rfl rfl rfl ?_
    refine GL.pure rfl (p_pick_true rfl rfl) ?_; refine GL.nl_ ?_; refine GC.cond_true rfl ?_; refine GC.sr_ ?_; refine GL.as_ rfl rfl ?_; refine GL.nl_ ?_; refine GC.ret ?_
    refine fun a w h => Fin.back (rs := [.tmp 2]) (vs := [_]) (is := []) (js := []) rfl ⟨rfl, trivial⟩ rfl rfl ?_ h
    clear h
    first | exact ⟨by rw [msgE_no (fun H => by obtain ⟨g1, g2, g3, g4, g5, g6, g7⟩ := H; first | omega | contradiction | (simp_all; done))]; rfl, rfl, rfl⟩ | exact ⟨by rw [msgE_yes ⟨by assumption, by omega, by omega, by assumption, by assumption, (by assumption : partsOk m ∧ rowOkE m.log).1, (by assumption : partsOk m ∧ rowOkE m.log).2⟩]; rfl, rfl, rfl⟩
   ·try simp only [tst_, nums_iff] at h3
    refine GL.pureG (s := 33) rfl rfl rfl (p_fieldAddr fo_42_1 rfl) ?_; refine GL.stepG rfl (s := 33) rfl rfl (t_mem rfl (m_load (i := 0) rfl rfl ag_3 rfl)) ?_; refine GL.stepG rfl (s := 33) rfl rfl (t_call rfl fn_23 rfl (is := []) (js := []) rfl rfl (by exact who_ct _)) (GL.ret ?_)
    rintro _ _ _ ⟨rfl, rfl, rfl⟩
    refine GL.pureG (s := 33) rfl rfl rfl (p_not rfl) ?_; refine GL.pure rfl (p_pick_false rfl rfl) ?_; refine GL.mv_ rfl rfl ?_; refine GL.split (i := 39) rfl (fun h4 => ?_) (fun h4 => ?_)
    ·try simp only [tst_, nums_iff] at h4
     iterate 4 refine GL.pass (s := 39) rfl rfl rfl ?_
     refine GL.pure rfl (p_pick_true rfl rfl) ?_; refine GL.mv_ rfl rfl ?_
     iterate 3 refine GL.pass (s := 45) rfl rfl rfl ?_
     refine GL.pure rfl (p_pick_true rfl rfl) ?_; refine GL.nl_ ?_; refine GC.cond_true rfl ?_; refine GC.sr_ ?_; refine GL.as_ rfl rfl ?_; refine GL.nl_ ?_; refine GC.ret ?_
     refine fun a w h => Fin.back (rs := [.tmp 2]) (vs := [_]) (is := []) (js := []) rfl ⟨rfl, trivial⟩ rfl rfl ?_ h
     clear h
     first | exact ⟨by rw [msgE_no (fun H => by obtain ⟨g1, g2, g3, g4, g5, g6, g7⟩ := H; first | omega | contradiction | (simp_all; done))]; rfl, rfl, rfl⟩ | exact ⟨by rw [msgE_yes ⟨by assumption, by omega, by omega, by assumption, by assumption, (by assumption : partsOk m ∧ rowOkE m.log).1, (by assumption : partsOk m ∧ rowOkE m.log).2⟩]; rfl, rfl, rfl⟩
    ·try simp only [tst_, nums_iff] at h4
     refine GL.pureG (s := 39) rfl rfl rfl (p_fieldAddr fo_42_2 rfl) ?_; refine GL.stepG rfl (s := 39) rfl rfl (t_mem rfl (m_load (i := 0) rfl rfl ag_3 rfl)) ?_; refine GL.stepG rfl (s := 39) rfl rfl (t_call rfl fn_23 rfl (is := []) (js := []) rfl rfl (by exact who_ct _)) (GL.ret ?_)
     rintro _ _ _ ⟨rfl, rfl, rfl⟩
     refine GL.pureG (s := 39) rfl rfl rfl (p_not rfl) ?_; refine GL.pure rfl (p_pick_false rfl rfl) ?_; refine GL.mv_ rfl rfl ?_; refine GL.split (i := 45) rfl (fun h5 => ?_) (fun h5 => ?_)
     ·try simp only [tst_, nums_iff] at h5
      iterate 3 refine GL.pass (s := 45) rfl rfl rfl ?_
      refine GL.pure rfl (p_pick_true rfl rfl) ?_; refine GL.nl_ ?_; refine GC.cond_true rfl ?_; refine GC.sr_ ?_; refine GL.as_ rfl rfl ?_; refine GL.nl_ ?_; refine GC.ret ?_
      refine fun a w h => Fin.back (rs := [.tmp 2]) (vs := [_]) (is := []) (js := []) rfl ⟨rfl, trivial⟩ rfl rfl ?_ h
      clear h
      first | exact ⟨by rw [msgE_no (fun H => by obtain ⟨g1, g2, g3, g4, g5, g6, g7⟩ := H; first | omega | contradiction | (simp_all; done))]; rfl, rfl, rfl⟩ | exact ⟨by rw [msgE_yes ⟨by assumption, by omega, by omega, by assumption, by assumption, (by assumption : partsOk m ∧ rowOkE m.log).1, (by assumption : partsOk m ∧ rowOkE m.log).2⟩]; rfl, rfl, rfl⟩
     ·try simp only [tst_, nums_iff] at h5
      refine GL.stepG rfl (s := 45) rfl rfl (t_mem rfl (m_loadN (i := 0) rfl rfl ag_42 (vs := [_, _, _, _, _, _, _, _, _, _, _, _, _, _, _, _, _, _, _, _, _, _, _, _, _, _, _, _]) sz_42 ⟨rfl, rfl, rfl, rfl, rfl, rfl, rfl, rfl, rfl, rfl, rfl, rfl, rfl, rfl, rfl, rfl, rfl, rfl, rfl, rfl, rfl, rfl, rfl, rfl, rfl, rfl, rfl, rfl, trivial⟩)) ?_
      refine GL.stepG rfl (s := 45) rfl rfl (t_call rfl fn_24 rfl (is := []) (js := [1, 2, 3, 4, 5, 6, 7, 8]) rfl rfl (by exact wright_ct m s hm)) (GL.ret ?_)
      rintro _ _ _ ⟨rfl, rfl, rfl⟩
      refine GL.pureG (s := 45) rfl rfl rfl (p_not rfl) ?_; refine GL.pure rfl (p_pick_false rfl rfl) ?_; refine GL.nl_ ?_; refine GC.cond rfl (fun h6 => ?_) (fun h6 => ?_)
      ·try simp only [tst_, nums_iff] at h6
       refine GC.sr_ ?_; refine GL.as_ rfl rfl ?_; refine GL.nl_ ?_; refine GC.ret ?_
       refine fun a w h => Fin.back (rs := [.tmp 2]) (vs := [_]) (is := []) (js := []) rfl ⟨rfl, trivial⟩ rfl rfl ?_ h
       clear h
       first | exact ⟨by rw [msgE_no (fun H => by obtain ⟨g1, g2, g3, g4, g5, g6, g7⟩ := H; first | omega | contradiction | (simp_all; done))]; rfl, rfl, rfl⟩ | exact ⟨by rw [msgE_yes ⟨by assumption, by omega, by omega, by assumption, by assumption, (by assumption : partsOk m ∧ rowOkE m.log).1, (by assumption : partsOk m ∧ rowOkE m.log).2⟩]; rfl, rfl, rfl⟩
      ·try simp only [tst_, nums_iff] at h6
       refine GC.skip (?_ : GC _ _ _ _)
       refine GC.sr_ ?_; refine GL.as_ rfl rfl ?_; refine GL.nl_ ?_; refine GC.ret ?_
       refine fun a w h => Fin.back (rs := [.tmp 2]) (vs := [_]) (is := []) (js := []) rfl ⟨rfl, trivial⟩ rfl rfl ?_ h
       clear h
       first | exact ⟨by rw [msgE_no (fun H => by obtain ⟨g1, g2, g3, g4, g5, g6, g7⟩ := H; first | omega | contradiction | (simp_all; done))]; rfl, rfl, rfl⟩ | exact ⟨by rw [msgE_yes ⟨by assumption, by omega, by omega, by assumption, by assumption, (by assumption : partsOk m ∧ rowOkE m.log).1, (by assumption : partsOk m ∧ rowOkE m.log).2⟩]; rfl, rfl, rfl⟩
end Go.Proofs.YtdhdmbmknpjhbaaGreat
namespace Go.Proofs.YtdhdmbmknpjhbaaGreat
open Go Go.Sx Go.Proofs
instance (m : Msg) : Decidable (pOp m) := by unfold pOp; infer_instance
instance (m : Msg) : Decidable (pRes m) := by unfold pRes; infer_instance
instance (m : Msg) : Decidable (pGrp m) := by unfold pGrp; infer_instance
instance (m : Msg) : Decidable (pStt m) := by unfold pStt; infer_instance
end Go.Proofs.YtdhdmbmknpjhbaaGreat
namespace Go.Sx
open Go
section
variable {P : Program} {c : Cx} {n : Nat} {env : List (Nat × Value)} {G G' : List Own} {Q : List Pers} {R : Exit → Asr} {cd : Code} {ops : Array Oper} {rest : List Oper} {a : Act} {w : World}
theorem St.rowIs {i m m' e sz : Nat} {v : Value} {cs cs' : List Value} (h : St c n env G Q a w) (hi : nthO G i = some (.row v e sz m cs)) (hm : m = m') (hc : cs = cs') (hr : repl G i (.row v e sz m' cs') = some G') : St c n env G' Q a w :=
  h.recast hi hr rfl (fun w h => by subst hm hc; exact h)
theorem GL.rowIs {i m m' e sz : Nat} {v : Value} {cs cs' : List Value} (hi : nthO G i = some (.row v e sz m cs)) (hm : m = m') (hc : cs = cs') (hr : repl G i (.row v e sz m' cs') = some G') (k : GL P ops R rest (St c n env G' Q)) : GL P ops R rest (St c n env G Q) := GL.imp (fun a w h => h.rowIs hi hm hc hr) k
theorem GC.rowIs {i m m' e sz : Nat} {v : Value} {cs cs' : List Value} (hi : nthO G i = some (.row v e sz m cs)) (hm : m = m') (hc : cs = cs') (hr : repl G i (.row v e sz m' cs') = some G') (k : GC P R cd (St c n env G' Q)) : GC P R cd (St c n env G Q) := GC.imp (fun a w h => h.rowIs hi hm hc hr) k
theorem GA.rowIs {M : Asr} {I : World → Prop} {fuel : Nat} {listed : Array Bool} {i m m' e sz : Nat} {v : Value} {cs cs' : List Value} (hi : nthO G i = some (.row v e sz m cs)) (hm : m = m') (hc : cs = cs') (hr : repl G i (.row v e sz m' cs') = some G') (k : GA P ops M I fuel listed (St c n env G' Q)) : GA P ops M I fuel listed (St c n env G Q) := GA.st (fun a w h => h.rowIs hi hm hc hr) k
end
end Go.Sx
namespace Go.Proofs.YtdhdmbmknpjhbaaGreat
open Go Go.Sx Go.Proofs
abbrev rowOf (A : Option Addr) (cp : Nat) (b : List UInt8) : Own := .row (.slice A b.length cp) 5 1 b.length (b.map u8v)
theorem bclone_ct (A : Option Addr) (xs : List UInt8) (cp : Nat) (hx : xs.length ≤ 140737488355328) : Ct Tryz.prog 118 [.slice A xs.length cp] [] [Pers.row Kd.u8 A xs]
    (fun v G Q => ∃ A' cp', xs.length ≤ cp' ∧ cp' ≤ 9223372036854775807 ∧ v = .slice A' xs.length cp' ∧ G = [.row (.slice A' xs.length cp') 5 1 xs.length (xs.map u8v)] ∧ Q = []) := by
 cases A with
 | none =>
   refine Ct.pure (fun w S h => row_none (h.per _ (List.mem_singleton.2 rfl))) fun hx0 => ?_
   subst hx0
   refine Ct.intro Tryz.func118 rfl rfl rfl (fun c hc => ?_)
   refine GC.sr_ ?_; refine GL.as_ rfl rfl ?_; refine GL.nl_ ?_; refine GC.seq' ?_; refine GC.sr_ ?_; refine GL.mv_ rfl rfl ?_; refine GL.pure rfl (p_slnil_eql Tryz.underlying25 rfl rfl) ?_; refine GL.nl_ ?_; refine GC.cond_true rfl ?_
   refine GC.sr_ ?_; refine GL.as_ rfl rfl ?_; refine GL.nl_ ?_; refine GC.nilrow 5 1 ?_; refine GC.ret ?_
   refine fun a w h => Fin.back (rs := [.tmp 2]) (vs := [_]) (is := [0]) (js := []) rfl ⟨rfl, trivial⟩ rfl rfl ?_ h
   clear h
   exact ⟨_, _, by simp, by simp, rfl, rfl, rfl⟩
 | some a =>
   refine Ct.intro Tryz.func118 rfl rfl rfl (fun c hc => ?_)
   refine GC.sr_ ?_; refine GL.as_ rfl rfl ?_; refine GL.nl_ ?_; refine GC.seq' ?_; refine GC.sr_ ?_; refine GL.mv_ rfl rfl ?_; refine GL.pure rfl (p_slnil_eql Tryz.underlying25 rfl rfl) ?_; refine GL.nl_ ?_; refine GC.cond_false rfl ?_
   refine GC.skip (?_ : GC _ _ _ _)
   refine GC.sr_ ?_; refine GL.step rfl (t_buildSlice rfl Tryz.underlying25 sz_5 ze_5 rfl rfl rfl rfl rfl rfl) (GL.ex fun b_t5 => ?_); refine GL.mv_ rfl rfl ?_; refine GL.torow (i := 0) (m := 0) (sz := 1) rfl rfl (by decide) rfl ?_
   refine GL.step rfl (t_appendS (i := 0) (k := 0) rfl el_25 rfl rfl rfl rfl (by simp; omega) (fun _ => rfl)) (GL.ex fun v7 => ?_); refine GL.as_ rfl rfl ?_; refine GL.nl_ ?_; refine GC.shape (i := 0) rfl (fun A1 c1 e1 l1 l2 => ?_)
   subst e1
   simp only [Nat.zero_add, List.nil_append] at l1 ⊢
   refine GC.ret ?_
   refine fun a w h => Fin.back (rs := [.tmp 2]) (vs := [_]) (is := [0]) (js := []) rfl ⟨rfl, trivial⟩ rfl rfl ?_ h
   clear h
   exact ⟨_, _, l1, l2, rfl, rfl, rfl⟩
theorem sized_ct (n : Int) : Ct Tryz.prog 117 [.int .i64 n] [] [] (fun v G Q => v = .bool (decide (1 ≤ n ∧ n ≤ 8)) ∧ G = [] ∧ Q = []) := by
 refine Ct.intro Tryz.func117 rfl rfl rfl (fun c hc => ?_)
 refine GC.sr_ ?_; refine GL.as_ rfl rfl ?_; refine GL.nl_ ?_; refine GC.sr_ ?_; refine GL.mv_ rfl rfl ?_; refine GL.pure rfl (p_geq rfl rfl) ?_; refine GL.mv_ rfl rfl ?_; refine GL.split (i := 5) rfl (fun h1 => ?_) (fun h1 => ?_)
 ·try simp only [tst_] at h1
  refine GL.pureG (s := 5) rfl rfl rfl (p_move rfl) ?_; refine GL.pureG (s := 5) rfl rfl rfl (p_leq rfl rfl) ?_; refine GL.pure rfl (p_pick_true rfl rfl) ?_; refine GL.as_ rfl rfl ?_; refine GL.nl_ ?_; refine GC.ret ?_
  refine fun a w h => Fin.back (rs := [.tmp 2]) (vs := [_]) (is := []) (js := []) rfl ⟨rfl, trivial⟩ rfl rfl ?_ h
  clear h
  refine ⟨congrArg Value.bool ?_, rfl, rfl⟩; first | exact (decide_eq_true (by omega)).symm | exact (decide_eq_false (by omega)).symm | exact decide_eq_decide.2 (by omega)
 ·try simp only [tst_] at h1
  iterate 2 refine GL.pass (s := 5) rfl rfl rfl ?_
  refine GL.pure rfl (p_pick_false rfl rfl) ?_; refine GL.as_ rfl rfl ?_; refine GL.nl_ ?_; refine GC.ret ?_
  refine fun a w h => Fin.back (rs := [.tmp 2]) (vs := [_]) (is := []) (js := []) rfl ⟨rfl, trivial⟩ rfl rfl ?_ h
  clear h
  refine ⟨congrArg Value.bool ?_, rfl, rfl⟩; first | exact (decide_eq_true (by omega)).symm | exact (decide_eq_false (by omega)).symm | exact decide_eq_decide.2 (by omega)
theorem sized_ok (n : Nat) (h : 1 ≤ n) (h' : n ≤ 8) : Ct Tryz.prog 117 [.int .i64 (n : Int)] [] [] (fun v G Q => v = .bool true ∧ G = [] ∧ Q = []) := by
  have := sized_ct (n : Int)
  rw [decide_eq_true (by omega)] at this
  exact this
theorem div_lt_iff {v n : Nat} : v / 256 ^ n = 0 ↔ v < 256 ^ n := Nat.div_eq_zero_iff.trans ⟨fun h => h.resolve_left (by simp), .inr⟩
theorem fits_ct (v n : Nat) (h : 1 ≤ n) (h' : n ≤ 8) (hv : v < 18446744073709551616) : Ct Tryz.prog 119 [.int .u64 (v : Int), .int .i64 (n : Int)] [] [] (fun u G Q => u = .bool (decide (v < 256 ^ n)) ∧ G = [] ∧ Q = []) := by
 refine Ct.intro Tryz.func119 rfl rfl rfl (fun c hc => ?_)
 refine GC.sr_ ?_; refine GL.as_ rfl rfl ?_; refine GL.nl_ ?_; refine GC.sr_ ?_; refine GL.mv_ rfl rfl ?_; refine GL.pure rfl (p_eql rfl rfl) ?_; refine GL.mv_ rfl rfl ?_; refine GL.split (i := 7) rfl (fun h1 => ?_) (fun h1 => ?_)
 ·try simp only [tst_] at h1
  iterate 6 refine GL.pass (s := 7) rfl rfl rfl ?_
  refine GL.pure rfl (p_pick_true rfl rfl) ?_; refine GL.as_ rfl rfl ?_; refine GL.nl_ ?_; refine GC.ret ?_
  refine fun a w h => Fin.back (rs := [.tmp 4]) (vs := [_]) (is := []) (js := []) rfl ⟨rfl, trivial⟩ rfl rfl ?_ h
  clear h
  refine ⟨congrArg Value.bool ?_, rfl, rfl⟩; first | (obtain rfl : n = 8 := (by omega); exact (decide_eq_true (by omega)).symm) | exact decide_eq_decide.2 (by rw [← div_lt_iff]; norm_cast)
 ·try simp only [tst_] at h1
  iterate 2 refine GL.pureG (s := 7) rfl rfl rfl (p_move rfl) ?_
  refine GL.pureG (s := 7) rfl rfl rfl (p_mul rfl rfl (w64 (by omega) (by omega))) ?_; refine GL.pureG (s := 7) rfl rfl rfl (p_convR (t := 3) (r := ((8 * n : Nat) : Int)) (by rw [Tryz.underlying3]; simp) Tryz.underlying146 rfl (by rw [cvU (by omega) (by omega)]; omega)) ?_
  refine GL.pureG (s := 7) rfl rfl rfl (p_shrR (r := ((v / 256 ^ n : Nat) : Int)) rfl rfl (by omega) (shr8 h')) ?_; refine GL.pureG (s := 7) rfl rfl rfl (p_eql rfl rfl) ?_; refine GL.pure rfl (p_pick_false rfl rfl) ?_; refine GL.as_ rfl rfl ?_
  refine GL.nl_ ?_; refine GC.ret ?_
  refine fun a w h => Fin.back (rs := [.tmp 4]) (vs := [_]) (is := []) (js := []) rfl ⟨rfl, trivial⟩ rfl rfl ?_ h
  clear h
  refine ⟨congrArg Value.bool ?_, rfl, rfl⟩; first | (obtain rfl : n = 8 := (by omega); exact (decide_eq_true (by omega)).symm) | exact decide_eq_decide.2 (by rw [← div_lt_iff]; norm_cast)
theorem put8_ct (A : Option Addr) (cp : Nat) (b : List UInt8) (v n : Nat) (h' : n ≤ 8) (hb : b.length ≤ 100000000000000) : Ct Tryz.prog 120 [.slice A b.length cp, .int .u64 (v : Int), .int .i64 (n : Int)] [rowOf A cp b] []
    (fun u G Q => ∃ A' cp', (b ++ leN n v).length ≤ cp' ∧ cp' ≤ 9223372036854775807 ∧ u = .slice A' (b ++ leN n v).length cp' ∧ G = [rowOf A' cp' (b ++ leN n v)] ∧ Q = []) := by
 refine Ct.intro Tryz.func120 rfl rfl rfl (fun c hc => ?_)
 refine GC.sr_ ?_; refine GL.as_ rfl rfl ?_; refine GL.nl_ ?_; refine GC.seq' ?_; refine GC.sr_ ?_
 iterate 2 refine GL.mv_ rfl rfl ?_
 refine GL.nl_ ?_; refine GC.block ?_; refine GC.loopK2 (ks := [1, 8]) (is := []) (js := []) (fun (k : Nat) (U : Value) => k ≤ n) (fun (k : Nat) (U : Value) => [(0, U), (9, .int .i64 (k : Int))]) (fun (k : Nat) (U : Value) => [.row U 5 1 (b.length + k) ((b ++ leN k v).map u8v)]) (fun (k : Nat) (U : Value) => []) (fun (k : Nat) (U : Value) => n - k) (0) (_) rfl rfl rfl (fun a w h => ⟨by omega, by simp only [leN, List.append_nil]; exact h.cutK (is := [0]) (js := []) (ks := [1, 8]) ⟨rfl, rfl, trivial⟩ rfl rfl rfl⟩) ?_
 intro k U hk
 try dsimp only [List.cons_append, List.nil_append] at hk ⊢
 refine GC.sr_ ?_; refine GL.pure rfl (p_lss rfl rfl) ?_; refine GL.nl_ ?_; refine GC.seq' ?_; refine GC.cond rfl (fun h1 => ?_) (fun h1 => ?_)
 ·try simp only [tst_] at h1
  refine GC.skip (?_ : GC _ _ _ _)
  refine GC.seq' ?_; refine GC.block ?_; refine GC.sr_ ?_; refine GL.mv_ rfl rfl ?_; refine GL.as_ rfl rfl ?_; refine GL.nl_ ?_; refine GC.region ?_
  iterate 3 refine GL.mv_ rfl rfl ?_
  refine GL.pure rfl (p_mul rfl rfl (w64 (by omega) (by omega))) ?_; refine GL.pure rfl (p_convR (t := 3) (r := ((8 * k : Nat) : Int)) (by rw [Tryz.underlying3]; simp) Tryz.underlying146 rfl (by rw [cvU (by omega) (by omega)]; omega)) ?_
  refine GL.pure rfl (p_shrR (r := ((v / 256 ^ k : Nat) : Int)) rfl rfl (by omega) (shr8 (by omega))) ?_; refine GL.pure rfl (p_convR (t := 23) (r := ((UInt8.ofNat (v / 256 ^ k % 256)).toNat : Int)) (by rw [Tryz.underlying23]; simp) Tryz.underlying5 rfl (wrapB _)) ?_
  refine GL.step rfl (t_buildSlice rfl Tryz.underlying25 sz_5 ze_5 rfl rfl rfl rfl rfl rfl) (GL.ex fun b_t19 => ?_); refine GL.step rfl (t_append (i := 1) (k := 0) rfl el_25 rfl rfl rfl rfl rfl (allOne_mem rfl) (by simp; omega) (fun _ => rfl)) (GL.ex fun v20 => ?_)
  refine GL.as_ rfl rfl ?_
  refine GL.nil (?_ : GC _ _ _ _)
  refine GC.region ?_; refine GL.pure rfl (p_add rfl rfl (w64 (by omega) (by omega))) ?_; refine GL.mv_ rfl rfl ?_; refine GL.nil ?_
  exact fun a w h => ⟨(k + 1), (v20), (by omega), by omega, by rw [leN_succ, ← List.append_assoc, List.map_append]; exact h.cut (is := [1]) (js := []) ⟨rfl, rfl, rfl, rfl, trivial⟩ rfl rfl⟩
 ·try simp only [tst_] at h1
  refine GC.exit (?_ : GC _ _ _ _)
  refine GC.seq' ?_
  obtain rfl : k = n := by omega
  refine GC.rowIs (i := 0) (m' := ((b ++ leN k v)).length) (cs' := ((b ++ leN k v)).map u8v) rfl (by first | rfl | (simp [leN_length]; done) | (simp [leN_length]; omega)) (by first | rfl | (simp [leN_length]; done)) rfl ?_
  refine GC.shape (i := 0) rfl (fun A_b c_b e_b l_b k_b => ?_)
  subst e_b
  refine GC.region ?_; refine GL.mv_ rfl rfl ?_; refine GL.as_ rfl rfl ?_
  refine GL.nil (?_ : GC _ _ _ _)
  refine GC.ret ?_
  refine fun a w h => Fin.back (rs := [.tmp 6]) (vs := [_]) (is := [0]) (js := []) rfl ⟨rfl, trivial⟩ rfl rfl ?_ h
  clear h
  exact ⟨_, _, l_b, k_b, rfl, rfl, rfl⟩
end Go.Proofs.YtdhdmbmknpjhbaaGreat
namespace Go.Proofs.YtdhdmbmknpjhbaaGreat
open Go Go.Sx Go.Proofs
abbrev uv (x : Nat) : Value := .int .u64 (x : Int)
abbrev kU : Kd Nat := Kd.sc uv (fun _ => rfl)
def flI (n : Nat) (l : List Nat) : List UInt8 := l.flatMap (leN n)
theorem flI_length (n : Nat) (l : List Nat) : (flI n l).length = n * l.length := by
  unfold flI
  induction l with
  | nil => simp
  | cons x r ih => rw [List.flatMap_cons, List.length_append, leN_length, ih, List.length_cons, Nat.mul_succ]; omega
theorem flI_take {n : Nat} {l : List Nat} {k : Nat} (h : k < l.length) : flI n (l.take (k + 1)) = flI n (l.take k) ++ leN n (gt l (k : Int)) := by
  unfold flI; rw [take_gt h, List.flatMap_append]; simp
theorem fits_ok (v n : Nat) (h : 1 ≤ n) (h' : n ≤ 8) (hv : v < 256 ^ n) : Ct Tryz.prog 119 [.int .u64 (v : Int), .int .i64 (n : Int)] [] [] (fun u G Q => u = .bool true ∧ G = [] ∧ Q = []) := by
  have h8 : 256 ^ n ≤ 256 ^ 8 := Nat.pow_le_pow_right (by decide) h'
  have := fits_ct v n h h' (by omega)
  rw [decide_eq_true hv] at this
  exact this
theorem nk_le {n k c : Nat} (hn : n ≤ 8) (hk : k ≤ c) : n * k ≤ 8 * c := Nat.mul_le_mul hn hk
theorem putall_ct (A : Option Addr) (b : List UInt8) (cp n : Nat) (L : Option Addr) (l : List Nat) (cl : Nat) (hn : 1 ≤ n) (hn' : n ≤ 8) (hb : b.length + 8 * l.length ≤ 100000000000000) (hl : ∀ x ∈ l, x < 256 ^ n) : Ct Tryz.prog 76 [.slice A b.length cp, .int .i64 (n : Int), .slice L l.length cl] [] [Pers.row Kd.u8 A b, Pers.row kU L l]
    (fun u G Q => ∃ A' cp', (b ++ flI n l).length ≤ cp' ∧ cp' ≤ 9223372036854775807 ∧ u = .tuple #[.slice A' (b ++ flI n l).length cp', .int .i64 0] ∧ G = [rowOf A' cp' (b ++ flI n l)] ∧ Q = []) := by
 refine Ct.intro Tryz.func76 rfl rfl rfl (fun c hc => ?_)
 refine GC.sr_ ?_
 iterate 2 refine GL.as_ rfl rfl ?_
 refine GL.nl_ ?_; refine GC.seq' ?_; refine GC.sr_ ?_; refine GL.mv_ rfl rfl ?_; refine GL.step rfl (t_call rfl fn_117 rfl (is := []) (js := []) rfl rfl (by exact sized_ok n hn hn')) (GL.ret ?_)
 rintro _ _ _ ⟨rfl, rfl, rfl⟩
 refine GL.pure rfl (p_not rfl) ?_; refine GL.nl_ ?_; refine GC.cond_false rfl ?_
 refine GC.skip (?_ : GC _ _ _ _)
 refine GC.sr_ ?_; refine GL.mv_ rfl rfl ?_; refine GL.step rfl (t_call rfl fn_118 rfl (is := []) (js := [0]) rfl rfl (by exact bclone_ct _ _ _ (by first | assumption | omega))) (GL.ret ?_)
 rintro _ _ _ ⟨A15, cp15, l15, k15, rfl, rfl, rfl⟩
 refine GL.as_ rfl rfl ?_; refine GL.nl_ ?_; refine GC.seq' ?_; refine GC.sr_ ?_; refine GL.mv_ rfl rfl ?_; refine GL.pure rfl (p_len Tryz.underlying126 rfl) ?_; refine GL.mv_ rfl rfl ?_; refine GL.nl_ ?_; refine GC.block ?_
 refine GC.loopK3 (ks := [1, 16, 17]) (is := []) (js := [0, 1]) (fun (k : Nat) (A1 : Option Addr) (c1 : Nat) => k ≤ l.length ∧ (b ++ flI n (l.take k)).length ≤ c1 ∧ c1 ≤ 9223372036854775807) (fun (k : Nat) (A1 : Option Addr) (c1 : Nat) => [(8, .slice A1 (b ++ flI n (l.take k)).length c1), (18, .int .i64 (k : Int))]) (fun (k : Nat) (A1 : Option Addr) (c1 : Nat) => [rowOf A1 c1 (b ++ flI n (l.take k))]) (fun (k : Nat) (A1 : Option Addr) (c1 : Nat) => []) (fun (k : Nat) (A1 : Option Addr) (c1 : Nat) => l.length - k) (0) (_) (_) rfl rfl rfl (fun a w h => ⟨⟨by omega, by simpa [flI] using l15, k15⟩, by simp only [flI, List.take_zero, List.flatMap_nil, List.append_nil]; exact h.cutK (is := [0]) (js := [0, 1]) (ks := [1, 16, 17]) ⟨rfl, rfl, trivial⟩ rfl rfl rfl⟩) ?_
 intro k A1 c1 hk
 try dsimp only [List.cons_append, List.nil_append] at hk ⊢
 obtain ⟨hk, hc1, hc2⟩ := hk
 refine GC.sr_ ?_; refine GL.pure rfl (p_lss rfl rfl) ?_; refine GL.nl_ ?_; refine GC.seq' ?_; refine GC.cond rfl (fun h1 => ?_) (fun h1 => ?_)
 ·try simp only [tst_] at h1
  refine GC.skip (?_ : GC _ _ _ _)
  refine GC.seq' ?_; refine GC.block ?_; refine GC.sr_ ?_; refine GL.step rfl (t_index (i := 1) rfl rfl rfl rfl Tryz.underlying126 sz_23 (by omega) (gt_ok (by omega) (by omega))) (GL.ex fun p_x20 => GL.ex fun r_x20 => GL.and fun ok_x20 => ?_)
  rcases r_x20 with _
  refine GL.step rfl (t_mem rfl (m_loadP (i := 0) rfl rfl ag_23 rfl)) ?_; refine GL.as_ rfl rfl ?_; refine GL.nl_ ?_; refine GC.seq' ?_; refine GC.sr_ ?_
  iterate 2 refine GL.mv_ rfl rfl ?_
  refine GL.step rfl (t_call rfl fn_119 rfl (is := []) (js := []) rfl rfl (by exact fits_ok (gt l (k : Int)) n hn hn' (hl _ (gt_elem (by omega))))) (GL.ret ?_)
  rintro _ _ _ ⟨rfl, rfl, rfl⟩
  refine GL.pure rfl (p_not rfl) ?_; refine GL.nl_ ?_; refine GC.cond_false rfl ?_
  refine GC.skip (?_ : GC _ _ _ _)
  refine GC.region ?_
  iterate 3 refine GL.mv_ rfl rfl ?_
  refine GL.step rfl (t_call rfl fn_120 rfl (is := [0]) (js := []) rfl rfl (by exact put8_ct A1 c1 (b ++ flI n (l.take k)) (gt l (k : Int)) n hn' (by rw [List.length_append, flI_length, List.length_take]; have := nk_le hn' (show min k l.length ≤ l.length by omega); omega))) (GL.ret ?_)
  rintro _ _ _ ⟨A29, cp29, l29, k29, rfl, rfl, rfl⟩
  refine GL.as_ rfl rfl ?_
  refine GL.nil (?_ : GC _ _ _ _)
  refine GC.region ?_; refine GL.pure rfl (p_add rfl rfl (w64 (by omega) (by omega))) ?_; refine GL.mv_ rfl rfl ?_; refine GL.nil ?_
  exact fun a w h => ⟨(k + 1), (A29), (cp29), (by omega), ⟨by omega, by rw [flI_take (by omega), ← List.append_assoc]; exact l29, k29⟩, by rw [flI_take (by omega), ← List.append_assoc]; exact h.cut (is := [0]) (js := [1, 2]) ⟨rfl, rfl, rfl, rfl, rfl, trivial⟩ rfl rfl⟩
 ·try simp only [tst_] at h1
  refine GC.exit (?_ : GC _ _ _ _)
  refine GC.sr_ ?_; refine GL.mv_ rfl rfl ?_
  iterate 2 refine GL.as_ rfl rfl ?_
  refine GL.nl_ ?_; refine GC.ret ?_
  refine fun a w h => Fin.back (rs := [.tmp 6, .tmp 7]) (vs := [_, _]) (is := [0]) (js := []) rfl ⟨rfl, rfl, trivial⟩ rfl rfl ?_ h
  clear h
  obtain rfl : k = l.length := by omega
  rw [List.take_length] at *
  exact ⟨_, _, hc1, hc2, rfl, rfl, rfl⟩
theorem flI_one (n v : Nat) : flI n [v] = leN n v := by simp [flI]
theorem oput_ct (A : Option Addr) (b : List UInt8) (cp v n : Nat) (hn : 1 ≤ n) (hn' : n ≤ 8) (hb : b.length ≤ 10000000000000) (hv : v < 256 ^ n) : Ct Tryz.prog 80 [.slice A b.length cp, .int .u64 (v : Int), .int .i64 (n : Int)] [] [Pers.row Kd.u8 A b]
    (fun u G Q => ∃ A' cp', (b ++ leN n v).length ≤ cp' ∧ cp' ≤ 9223372036854775807 ∧ u = .tuple #[.slice A' (b ++ leN n v).length cp', .int .i64 0] ∧ G = [rowOf A' cp' (b ++ leN n v)] ∧ Q = []) := by
 refine Ct.intro Tryz.func80 rfl rfl rfl (fun c hc => ?_)
 refine GC.sr_ ?_
 iterate 2 refine GL.as_ rfl rfl ?_
 refine GL.nl_ ?_; refine GC.sr_ ?_
 iterate 3 refine GL.mv_ rfl rfl ?_
 refine GL.step rfl (t_buildSlice rfl Tryz.underlying126 sz_23 ze_23 rfl rfl rfl rfl rfl rfl) (GL.ex fun b_t11 => ?_); refine GL.freezeC (enc := uv) (xs := [v]) (h1 := fun _ => rfl) (i := 0) rfl ?_; refine GL.step rfl (t_call rfl fn_76 rfl (is := []) (js := [1, 0]) rfl rfl (by exact putall_ct _ b _ n _ [v] _ hn hn' (by simp; omega) (by simpa using hv))) (GL.ret ?_)
 rintro _ _ _ ⟨A12, cp12, l12, k12, rfl, rfl, rfl⟩
 iterate 2 refine GL.pure rfl (p_extract rfl rfl) ?_
 iterate 2 refine GL.as_ rfl rfl ?_
 refine GL.nl_ ?_; refine GC.ret ?_
 refine fun a w h => Fin.back (rs := [.tmp 6, .tmp 7]) (vs := [_, _]) (is := [0]) (js := []) rfl ⟨rfl, rfl, trivial⟩ rfl rfl ?_ h
 clear h
 rw [flI_one] at *
 exact ⟨_, _, l12, k12, rfl, rfl, rfl⟩
theorem otext_ct (A : Option Addr) (b : List UInt8) (cp : Nat) (B : Option Addr) (s : List UInt8) (cq : Nat) (hb : b.length ≤ 10000000000000) (hs : s.length ≤ 16777216) : Ct Tryz.prog 82 [.slice A b.length cp, .slice B s.length cq] [] [Pers.row Kd.u8 A b, Pers.row Kd.u8 B s]
    (fun u G Q => ∃ A' cp', (b ++ leN 4 s.length ++ s).length ≤ cp' ∧ cp' ≤ 9223372036854775807 ∧ u = .tuple #[.slice A' (b ++ leN 4 s.length ++ s).length cp', .int .i64 0] ∧ G = [rowOf A' cp' (b ++ leN 4 s.length ++ s)] ∧ Q = []) := by
 refine Ct.intro Tryz.func82 rfl rfl rfl (fun c hc => ?_)
 refine GC.sr_ ?_
 iterate 2 refine GL.as_ rfl rfl ?_
 refine GL.nl_ ?_; refine GC.seq' ?_; refine GC.sr_ ?_; refine GL.mv_ rfl rfl ?_; refine GL.pure rfl (p_len Tryz.underlying25 rfl) ?_; refine GL.pure rfl (p_gtr rfl rfl) ?_; refine GL.nl_ ?_; refine GC.cond rfl (fun h1 => ?_) (fun h1 => ?_)
 ·try simp only [tst_] at h1
  first
  | (exfalso; omega)
  |(skip
    refine GC.sr_ ?_
    iterate 2 refine GL.as_ rfl rfl ?_
    refine GL.nl_ ?_; refine GC.ret ?_
    refine fun a w h => Fin.back (rs := [.tmp 4, .tmp 5]) (vs := [_, _]) (is := []) (js := []) rfl ⟨rfl, rfl, trivial⟩ rfl rfl ?_ h
    clear h
    skip)
 ·try simp only [tst_] at h1
  first
  | (exfalso; omega)
  |(skip
    refine GC.skip (?_ : GC _ _ _ _)
    refine GC.sr_ ?_; refine GL.mv_ rfl rfl ?_; refine GL.step rfl (t_call rfl fn_118 rfl (is := []) (js := [0]) rfl rfl (by exact bclone_ct _ _ _ (by first | assumption | omega))) (GL.ret ?_)
    rintro _ _ _ ⟨A10, cp10, l10, k10, rfl, rfl, rfl⟩
    refine GL.mv_ rfl rfl ?_; refine GL.pure rfl (p_len Tryz.underlying25 rfl) ?_; refine GL.pure rfl (p_convR (t := 3) (r := ((s.length : Nat) : Int)) (by rw [Tryz.underlying3]; simp) Tryz.underlying23 rfl (cvU (by omega) (by omega))) ?_
    refine GL.step rfl (t_call rfl fn_120 rfl (is := [0]) (js := []) rfl rfl (by exact put8_ct A10 cp10 b s.length 4 (by omega) (by omega))) (GL.ret ?_)
    rintro _ _ _ ⟨A14, cp14, l14, k14, rfl, rfl, rfl⟩
    refine GL.mv_ rfl rfl ?_; refine GL.step rfl (t_appendS (i := 0) (k := 1) rfl el_25 rfl rfl rfl rfl (by simp [leN_length]; omega) (fun _ => rfl)) (GL.ex fun v16 => ?_)
    refine GL.rowIs (i := 0) (m' := ((b ++ leN 4 s.length ++ s)).length) (cs' := ((b ++ leN 4 s.length ++ s)).map u8v) rfl (by first | (simp only [List.length_append, List.length_cons, List.length_nil, List.append_assoc]; done) | (simp only [List.length_append, List.length_cons, List.length_nil, List.append_assoc]; omega) | (simp [leN_length]; done) | (simp [leN_length]; omega) | rfl) (by first | (simp only [List.map_append, List.map_cons, List.map_nil, List.append_assoc]; done) | (simp [leN_length]; done) | rfl) rfl ?_
    refine GL.shape (i := 0) rfl (fun A_pt14 c_pt14 e_pt14 l_pt14 k_pt14 => ?_)
    subst e_pt14
    iterate 2 refine GL.as_ rfl rfl ?_
    refine GL.nl_ ?_; refine GC.ret ?_
    refine fun a w h => Fin.back (rs := [.tmp 4, .tmp 5]) (vs := [_, _]) (is := [0]) (js := []) rfl ⟨rfl, rfl, trivial⟩ rfl rfl ?_ h
    clear h
    exact ⟨_, _, l_pt14, k_pt14, rfl, rfl, rfl⟩)
theorem get_ok (A : Option Addr) (b : List UInt8) (cp at_ n : Nat) (hn : 1 ≤ n) (hn' : n ≤ 8) (hb : b.length ≤ cp) (hb' : b.length ≤ 200000000000000) (h : at_ + n ≤ b.length) : Ct Tryz.prog 91 [.slice A b.length cp, .int .i64 (at_ : Int), .int .i64 (n : Int)] [] [Pers.row Kd.u8 A b]
    (fun u G Q => u = .tuple #[.int .u64 ((valN (seg b at_ (at_ + n)) : Nat) : Int), .int .i64 ((at_ + n : Nat) : Int), .int .i64 0] ∧ G = [] ∧ Q = []) := by
 have hsl : (seg b at_ (at_ + n)).length = n := by rw [seg_length h]; omega
 refine Ct.intro Tryz.func91 rfl rfl rfl (fun c hc => ?_)
 refine GC.sr_ ?_
 iterate 3 refine GL.as_ rfl rfl ?_
 refine GL.nl_ ?_; refine GC.seq' ?_; refine GC.block ?_; refine GC.sr_ ?_; refine GL.mv_ rfl rfl ?_; refine GL.step rfl (t_call rfl fn_117 rfl (is := []) (js := []) rfl rfl (by exact sized_ok n hn hn')) (GL.ret ?_)
 rintro _ _ _ ⟨rfl, rfl, rfl⟩
 refine GL.pure rfl (p_not rfl) ?_; refine GL.as_ rfl rfl ?_; refine GL.nl_ ?_; refine GC.cond_false rfl ?_; refine GC.sr_ ?_; refine GL.mv_ rfl rfl ?_; refine GL.pure rfl (p_lss rfl rfl) ?_; refine GL.mv_ rfl rfl ?_; refine GL.split (i := 19) rfl (fun h1 => ?_) (fun h1 => ?_)
 ·try simp only [tst_] at h1
  first
  | (exfalso; omega)
  |(skip
    iterate 4 refine GL.pass (s := 19) rfl rfl rfl ?_
    refine GL.pure rfl (p_pick_true rfl rfl) ?_; refine GL.as_ rfl rfl ?_; refine GL.nl_ ?_; refine GC.cond_true rfl ?_; refine GC.sr_ ?_
    iterate 3 refine GL.as_ rfl rfl ?_
    refine GL.nl_ ?_; refine GC.ret ?_
    refine fun a w h => Fin.back (rs := [.tmp 6, .tmp 7, .tmp 8]) (vs := [_, _, _]) (is := []) (js := []) rfl ⟨rfl, rfl, rfl, trivial⟩ rfl rfl ?_ h
    clear h
    obtain rfl : k = (seg b at_ (at_ + n)).length := by omega
    rw [List.take_length]
    exact ⟨rfl, rfl, rfl⟩)
 ·try simp only [tst_] at h1
  first
  | (exfalso; omega)
  |(skip
    iterate 2 refine GL.pureG (s := 19) rfl rfl rfl (p_move rfl) ?_
    refine GL.pureG (s := 19) rfl rfl rfl (p_len Tryz.underlying25 rfl) ?_; refine GL.pureG (s := 19) rfl rfl rfl (p_gtr rfl rfl) ?_; refine GL.pure rfl (p_pick_false rfl rfl) ?_; refine GL.as_ rfl rfl ?_; refine GL.nl_ ?_
    refine GC.cond rfl (fun h2 => ?_) (fun h2 => ?_)
    ·try simp only [tst_] at h2
     first
     | (exfalso; omega)
     |(skip
       refine GC.sr_ ?_
       iterate 3 refine GL.as_ rfl rfl ?_
       refine GL.nl_ ?_; refine GC.ret ?_
       refine fun a w h => Fin.back (rs := [.tmp 6, .tmp 7, .tmp 8]) (vs := [_, _, _]) (is := []) (js := []) rfl ⟨rfl, rfl, rfl, trivial⟩ rfl rfl ?_ h
       clear h
       obtain rfl : k = (seg b at_ (at_ + n)).length := by omega
       rw [List.take_length]
       exact ⟨rfl, rfl, rfl⟩)
    ·try simp only [tst_] at h2
     first
     | (exfalso; omega)
     |(skip
       refine GC.sr_ ?_
       iterate 2 refine GL.mv_ rfl rfl ?_
       refine GL.pure rfl (p_len Tryz.underlying25 rfl) ?_; refine GL.mv_ rfl rfl ?_; refine GL.pure rfl (p_sub rfl rfl (w64 (by omega) (by omega))) ?_; refine GL.pure rfl (p_gtr rfl rfl) ?_; refine GL.as_ rfl rfl ?_; refine GL.nl_ ?_
       refine GC.cond rfl (fun h3 => ?_) (fun h3 => ?_)
       ·try simp only [tst_] at h3
        first
        | (exfalso; omega)
        |(skip
          refine GC.sr_ ?_
          iterate 3 refine GL.as_ rfl rfl ?_
          refine GL.nl_ ?_; refine GC.ret ?_
          refine fun a w h => Fin.back (rs := [.tmp 6, .tmp 7, .tmp 8]) (vs := [_, _, _]) (is := []) (js := []) rfl ⟨rfl, rfl, rfl, trivial⟩ rfl rfl ?_ h
          clear h
          obtain rfl : k = (seg b at_ (at_ + n)).length := by omega
          rw [List.take_length]
          exact ⟨rfl, rfl, rfl⟩)
       ·try simp only [tst_] at h3
        first
        | (exfalso; omega)
        |(skip
          refine GC.skip (?_ : GC _ _ _ _)
          refine GC.sr_ ?_; refine GL.as_ rfl rfl ?_; refine GL.nl_ ?_; refine GC.seq' ?_; refine GC.sr_ ?_
          iterate 4 refine GL.mv_ rfl rfl ?_
          refine GL.pure rfl (p_add rfl rfl (w64 (by omega) (by omega))) ?_; refine GL.step rfl (t_cut_lh (j := 0) rfl rfl rfl rfl rfl Tryz.underlying25 sz_5 (by omega) (by omega) (by omega) (by omega)) ?_
          rw [show ((at_ : Int)).toNat = at_ from rfl, show ((at_ : Int) + (n : Int)).toNat = at_ + n from rfl]
          refine GL.pure rfl (p_len Tryz.underlying25 rfl) ?_; refine GL.mv_ rfl rfl ?_; refine GL.nl_ ?_; refine GC.block ?_; refine GC.loopK1 (ks := [1, 2, 37, 38]) (is := []) (js := [0, 1]) (fun (k : Nat) => k ≤ n) (fun (k : Nat) => [(9, .int .u64 ((valN ((seg b at_ (at_ + n)).take k) : Nat) : Int)), (39, .int .i64 (k : Int))]) (fun (k : Nat) => []) (fun (k : Nat) => []) (fun (k : Nat) => n - k) (0) rfl rfl rfl (fun a w h => ⟨by omega, h.cutK (is := []) (js := [0, 1]) (ks := [1, 2, 37, 38]) ⟨rfl, rfl, trivial⟩ rfl rfl rfl⟩) ?_
          intro k hk
          try dsimp only [List.cons_append, List.nil_append] at hk ⊢
          refine GC.sr_ ?_; refine GL.pure rfl (p_lss rfl rfl) ?_; refine GL.nl_ ?_; refine GC.seq' ?_; refine GC.cond rfl (fun h4 => ?_) (fun h4 => ?_)
          ·try simp only [tst_] at h4
           first
           | (exfalso; omega)
           |(skip
             refine GC.skip (?_ : GC _ _ _ _)
             refine GC.seq' ?_; refine GC.block ?_; refine GC.sr_ ?_; refine GL.mv_ rfl rfl ?_; refine GL.step rfl (t_index (i := 0) rfl rfl rfl rfl Tryz.underlying25 sz_5 (by omega) (gt_ok (by omega) (by omega))) (GL.ex fun p_x42 => GL.ex fun r_x42 => GL.and fun ok_x42 => ?_)
             rcases r_x42 with _
             refine GL.step rfl (t_mem rfl (m_loadP (i := 0) rfl rfl ag_5 rfl)) ?_
             iterate 2 refine GL.as_ rfl rfl ?_
             refine GL.nl_ ?_; refine GC.region ?_
             iterate 2 refine GL.mv_ rfl rfl ?_
             refine GL.pure rfl (p_convR (t := 5) (r := (((gt (seg b at_ (at_ + n)) (k : Int)).toNat : Nat) : Int)) (by rw [Tryz.underlying5]; simp) Tryz.underlying23 rfl (cvU (by omega) (by have := (gt (seg b at_ (at_ + n)) (k : Int)).toNat_lt; omega))) ?_
             refine GL.mv_ rfl rfl ?_; refine GL.pure rfl (p_mul rfl rfl (w64 (by omega) (by omega))) ?_; refine GL.pure rfl (p_convR (t := 3) (r := ((8 * k : Nat) : Int)) (by rw [Tryz.underlying3]; simp) Tryz.underlying146 rfl (by rw [cvU (by omega) (by omega)]; omega)) ?_
             refine GL.pure rfl (p_shlR (r := (((gt (seg b at_ (at_ + n)) (k : Int)).toNat * 256 ^ k : Nat) : Int)) rfl rfl (by omega) (shl8 (by omega) (gt (seg b at_ (at_ + n)) (k : Int)).toNat_lt)) ?_; refine GL.pure rfl (p_orR (r := ((valN ((seg b at_ (at_ + n)).take k) + (gt (seg b at_ (at_ + n)) (k : Int)).toNat * 256 ^ k : Nat) : Int)) rfl rfl (or8 (by omega) (by have := valN_lt ((seg b at_ (at_ + n)).take k); rwa [List.length_take, Nat.min_eq_left (by omega)] at this) (gt (seg b at_ (at_ + n)) (k : Int)).toNat_lt)) ?_
             refine GL.as_ rfl rfl ?_
             refine GL.nil (?_ : GC _ _ _ _)
             refine GC.region ?_; refine GL.pure rfl (p_add rfl rfl (w64 (by omega) (by omega))) ?_; refine GL.mv_ rfl rfl ?_; refine GL.nil ?_
             exact fun a w h => ⟨(k + 1), (by omega), by omega, by rw [take_gt (by omega), valN_snoc, List.length_take, Nat.min_eq_left (by omega)]; exact h.cut (is := []) (js := [1, 2]) ⟨rfl, rfl, rfl, rfl, rfl, rfl, trivial⟩ rfl rfl⟩)
          ·try simp only [tst_] at h4
           first
           | (exfalso; omega)
           |(skip
             refine GC.exit (?_ : GC _ _ _ _)
             refine GC.sr_ ?_
             iterate 3 refine GL.mv_ rfl rfl ?_
             refine GL.pure rfl (p_add rfl rfl (w64 (by omega) (by omega))) ?_
             iterate 3 refine GL.as_ rfl rfl ?_
             refine GL.nl_ ?_; refine GC.ret ?_
             refine fun a w h => Fin.back (rs := [.tmp 6, .tmp 7, .tmp 8]) (vs := [_, _, _]) (is := []) (js := []) rfl ⟨rfl, rfl, rfl, trivial⟩ rfl rfl ?_ h
             clear h
             obtain rfl : k = (seg b at_ (at_ + n)).length := by omega
             rw [List.take_length]
             exact ⟨rfl, rfl, rfl⟩))))
end Go.Proofs.YtdhdmbmknpjhbaaGreat
namespace Go.Proofs.YtdhdmbmknpjhbaaGreat
open Go Go.Sx Go.Proofs
theorem bequal_ct (A : Option Addr) (x : List UInt8) (cp : Nat) (B : Option Addr) (y : List UInt8) (cq : Nat) (hl : x.length ≤ 140737488355328) : Ct Tryz.prog 128 [.slice A x.length cp, .slice B y.length cq] [] [Pers.row Kd.u8 A x, Pers.row Kd.u8 B y] (fun u G Q => u = .bool (decide (x = y)) ∧ G = [] ∧ Q = []) := by
 refine Ct.intro Tryz.func128 rfl rfl rfl (fun c hc => ?_)
 refine GC.sr_ ?_; refine GL.as_ rfl rfl ?_; refine GL.nl_ ?_; refine GC.seq' ?_; refine GC.sr_ ?_; refine GL.mv_ rfl rfl ?_; refine GL.pure rfl (p_len Tryz.underlying25 rfl) ?_; refine GL.mv_ rfl rfl ?_; refine GL.pure rfl (p_len Tryz.underlying25 rfl) ?_
 refine GL.pure rfl (p_neq rfl rfl) ?_; refine GL.nl_ ?_; refine GC.cond rfl (fun h1 => ?_) (fun h1 => ?_)
 ·try simp only [tst_] at h1
  refine GC.sr_ ?_; refine GL.as_ rfl rfl ?_; refine GL.nl_ ?_; refine GC.ret ?_
  refine fun a w h => Fin.back (rs := [.tmp 4]) (vs := [_]) (is := []) (js := []) rfl ⟨rfl, trivial⟩ rfl rfl ?_ h
  clear h
  exact ⟨congrArg Value.bool (decide_eq_false fun e => by subst e; omega).symm, rfl, rfl⟩
 ·try simp only [tst_] at h1
  refine GC.skip (?_ : GC _ _ _ _)
  refine GC.seq' ?_; refine GC.sr_ ?_; refine GL.mv_ rfl rfl ?_; refine GL.pure rfl (p_len Tryz.underlying25 rfl) ?_; refine GL.mv_ rfl rfl ?_; refine GL.nl_ ?_; refine GC.block ?_; refine GC.loopK1 (ks := [0, 1, 12]) (is := []) (js := [0, 1]) (fun (k : Nat) => k ≤ x.length ∧ ∀ j : Nat, j < k → gt x (j : Int) = gt y (j : Int)) (fun (k : Nat) => [(13, .int .i64 (k : Int))]) (fun (k : Nat) => []) (fun (k : Nat) => []) (fun (k : Nat) => x.length - k) (0) rfl rfl rfl (fun a w h => ⟨⟨by omega, fun j hj => by omega⟩, h.cutK (is := []) (js := [0, 1]) (ks := [0, 1, 12]) ⟨rfl, trivial⟩ rfl rfl rfl⟩) ?_
  intro k hk
  try dsimp only [List.cons_append, List.nil_append] at hk ⊢
  obtain ⟨hk, he⟩ := hk
  refine GC.sr_ ?_; refine GL.pure rfl (p_lss rfl rfl) ?_; refine GL.nl_ ?_; refine GC.seq' ?_; refine GC.cond rfl (fun h2 => ?_) (fun h2 => ?_)
  ·try simp only [tst_] at h2
   refine GC.skip (?_ : GC _ _ _ _)
   refine GC.seq' ?_; refine GC.block ?_; refine GC.sr_ ?_; refine GL.mv_ rfl rfl ?_; refine GL.as_ rfl rfl ?_; refine GL.nl_ ?_; refine GC.seq' ?_; refine GC.layQ (y := .tmp 5) (j := 0) rfl rfl (by omega) (gt_ok (by omega) (by omega)) (fun p_x18 r_x18 hA_x18 ok_x18 => ?_)
   rcases r_x18 with _
   refine GC.layQ (y := .tmp 5) (j := 2) rfl rfl (by omega) (gt_ok (by omega) (by omega)) (fun p_x22 r_x22 hA_x22 ok_x22 => ?_)
   rcases r_x22 with _
   refine GC.regionQ wide_ (by kernel_rfl) ?_
   iterate 2 refine GQ.step rfl (q_pure (p_move rfl)) ?_
   refine GQ.step rfl (q_pure (p_indexL hA_x18 rfl rfl Tryz.underlying25 sz_5 (by omega) (by omega))) ?_; refine GQ.step rfl (q_mem (m_loadP (i := 1) rfl rfl ag_5 rfl)) ?_
   iterate 2 refine GQ.step rfl (q_pure (p_move rfl)) ?_
   refine GQ.step rfl (q_pure (p_indexL hA_x22 rfl rfl Tryz.underlying25 sz_5 (by omega) (by omega))) ?_; refine GQ.step rfl (q_mem (m_loadP (i := 0) rfl rfl ag_5 rfl)) ?_; refine GQ.step rfl (q_pure (p_neq rfl rfl)) ?_
   refine GQ.nil (?_ : GC _ _ _ _)
   refine GC.cond rfl (fun h3 => ?_) (fun h3 => ?_)
   ·try simp only [tst_] at h3
    refine GC.sr_ ?_; refine GL.as_ rfl rfl ?_; refine GL.nl_ ?_; refine GC.ret ?_
    refine fun a w h => Fin.back (rs := [.tmp 4]) (vs := [_]) (is := []) (js := []) rfl ⟨rfl, trivial⟩ rfl rfl ?_ h
    clear h
    exact ⟨congrArg Value.bool (decide_eq_false (fun e => by subst e; omega)).symm, rfl, rfl⟩
   ·try simp only [tst_] at h3
    refine GC.skip (?_ : GC _ _ _ _)
    refine GC.region ?_; refine GL.pure rfl (p_add rfl rfl (w64 (by omega) (by omega))) ?_; refine GL.mv_ rfl rfl ?_; refine GL.nil ?_
    exact fun a w h => ⟨(k + 1), (by omega), ⟨by omega, fun j hj => (Nat.lt_succ_iff_lt_or_eq.1 hj).elim (he j) (fun e => by subst e; exact UInt8.toNat_inj.1 (by omega))⟩, h.cut (is := []) (js := [2, 3]) ⟨rfl, rfl, rfl, rfl, trivial⟩ rfl rfl⟩
  ·try simp only [tst_] at h2
   refine GC.exit (?_ : GC _ _ _ _)
   refine GC.sr_ ?_; refine GL.as_ rfl rfl ?_; refine GL.nl_ ?_; refine GC.ret ?_
   refine fun a w h => Fin.back (rs := [.tmp 4]) (vs := [_]) (is := []) (js := []) rfl ⟨rfl, trivial⟩ rfl rfl ?_ h
   clear h
   exact ⟨congrArg Value.bool (decide_eq_true (ext_gtI (by omega) fun j hj => he j (by omega))).symm, rfl, rfl⟩
theorem leN4 (v : Nat) : leN 4 v = [UInt8.ofNat (v % 256), UInt8.ofNat (v / 256 ^ 1 % 256), UInt8.ofNat (v / 256 ^ 2 % 256), UInt8.ofNat (v / 256 ^ 3 % 256)] := by
  simp [leN, Nat.div_div_eq_div_mul]
abbrev crcB (b : List UInt8) : BitVec 32 := moreB 0#32 b
def sealB (b : List UInt8) : List UInt8 := b ++ leN 4 (crcB b).toNat
theorem sealB_len (b : List UInt8) : (sealB b).length = b.length + 4 := by simp [sealB, leN_length]
theorem shr1 (v : Nat) : (v : Int).fdiv (2 ^ (min (8 : Int).toNat IntKind.u32.bits)) = ((v / 256 ^ 1 : Nat) : Int) := by
  rw [show min (8 : Int).toNat IntKind.u32.bits = 8 from rfl, ← fdivN]; rfl
theorem shr2 (v : Nat) : (v : Int).fdiv (2 ^ (min (16 : Int).toNat IntKind.u32.bits)) = ((v / 256 ^ 2 : Nat) : Int) := by
  rw [show min (16 : Int).toNat IntKind.u32.bits = 16 from rfl, ← fdivN]; rfl
theorem shr3 (v : Nat) : (v : Int).fdiv (2 ^ (min (24 : Int).toNat IntKind.u32.bits)) = ((v / 256 ^ 3 : Nat) : Int) := by
  rw [show min (24 : Int).toNat IntKind.u32.bits = 24 from rfl, ← fdivN]; rfl
theorem cseal_ct (A : Option Addr) (b : List UInt8) (cp : Nat) (s : BitVec 32) (hb : b.length ≤ 10000000000000) : Ct Tryz.prog 124 [.slice A b.length cp, w32 s] [] [Pers.row Kd.u8 A b]
    (fun u G Q => ∃ A' cp', (b ++ leN 4 s.toNat).length ≤ cp' ∧ cp' ≤ 9223372036854775807 ∧ u = .slice A' (b ++ leN 4 s.toNat).length cp' ∧ G = [rowOf A' cp' (b ++ leN 4 s.toNat)] ∧ Q = []) := by
 refine Ct.intro Tryz.func124 rfl rfl rfl (fun c hc => ?_)
 refine GC.sr_ ?_; refine GL.as_ rfl rfl ?_; refine GL.nl_ ?_; refine GC.sr_ ?_; refine GL.mv_ rfl rfl ?_; refine GL.step rfl (t_call rfl fn_118 rfl (is := []) (js := [0]) rfl rfl (by exact bclone_ct _ _ _ (by first | assumption | omega))) (GL.ret ?_)
 rintro _ _ _ ⟨A6, cp6, l6, k6, rfl, rfl, rfl⟩
 refine GL.mv_ rfl rfl ?_; refine GL.pure rfl (p_convR (t := 144) (by rw [Tryz.underlying144]; simp) Tryz.underlying5 rfl (wrapB _)) ?_
 refine GL.mv_ rfl rfl ?_; refine GL.pure rfl (p_shrR rfl rfl (by decide) (shr1 _)) ?_; refine GL.pure rfl (p_convR (t := 144) (by rw [Tryz.underlying144]; simp) Tryz.underlying5 rfl (wrapB _)) ?_
 refine GL.mv_ rfl rfl ?_; refine GL.pure rfl (p_shrR rfl rfl (by decide) (shr2 _)) ?_; refine GL.pure rfl (p_convR (t := 144) (by rw [Tryz.underlying144]; simp) Tryz.underlying5 rfl (wrapB _)) ?_
 refine GL.mv_ rfl rfl ?_; refine GL.pure rfl (p_shrR rfl rfl (by decide) (shr3 _)) ?_; refine GL.pure rfl (p_convR (t := 144) (by rw [Tryz.underlying144]; simp) Tryz.underlying5 rfl (wrapB _)) ?_
 refine GL.step rfl (t_buildSlice rfl Tryz.underlying25 sz_5 ze_5 rfl rfl rfl rfl rfl rfl) (GL.ex fun b_t18 => ?_); refine GL.step rfl (t_append (i := 1) (k := 0) rfl el_25 rfl rfl rfl rfl rfl (allOne_mem rfl) (by simp; omega) (fun _ => rfl)) (GL.ex fun v19 => ?_)
 refine GL.rowIs (i := 1) (m' := ((b ++ leN 4 s.toNat)).length) (cs' := ((b ++ leN 4 s.toNat)).map u8v) rfl (by first | (simp only [List.length_append, List.length_cons, List.length_nil, List.append_assoc]; done) | (simp only [List.length_append, List.length_cons, List.length_nil, List.append_assoc]; omega) | (simp [leN4]; done) | (simp [leN4]; omega) | rfl) (by first | (simp only [List.map_append, List.map_cons, List.map_nil, List.append_assoc]; done) | (simp [leN4]; done) | rfl) rfl ?_
 refine GL.shape (i := 1) rfl (fun A_cl6 c_cl6 e_cl6 l_cl6 k_cl6 => ?_)
 subst e_cl6
 refine GL.as_ rfl rfl ?_; refine GL.nl_ ?_; refine GC.ret ?_
 refine fun a w h => Fin.back (rs := [.tmp 4]) (vs := [_]) (is := [1]) (js := []) rfl ⟨rfl, trivial⟩ rfl rfl ?_ h
 clear h
 exact ⟨_, _, l_cl6, k_cl6, rfl, rfl, rfl⟩
theorem lendF {bL cp e : Nat} {A : Option Addr} {b : List UInt8} {Q : List Pers} {j : Nat} (hj : nthO Q j = some (Pers.row Kd.u8 A b)) (h : b.length ≤ cp) (h' : cp ≤ 9223372036854775807) : ∀ (w : World) (S : Blocks), (∀ o ∈ [Own.cells bL [.slice A b.length cp] e], o.holds w) → (∀ k ∈ keysOf [Own.cells bL [.slice A b.length cp] e], S k) → (∀ q ∈ Q, q.h w S) → ∀ q ∈ [Pers.row kBytes (some ⟨bL, 0, none⟩) [b]], q.h w S := fun w S ho hS hQ q hq => by
  rw [List.mem_singleton.1 hq]
  have hL := ho _ (List.mem_cons_self ..)
  have h1 : S bL := hS _ (by simp [keysOf, Own.keys])
  have hb := hQ _ (nthO_mem hj)
  refine .inr ⟨⟨bL, 0, none⟩, rfl, h1, (Array.getElem?_eq_some_iff.1 hL).1, fun i x hx => ?_⟩
  cases i with
  | succ i => simp at hx
  | zero =>
    simp only [List.getElem?_cons_zero, Option.some.injEq] at hx
    subst hx
    refine ⟨[.slice A b.length cp], ⟨(A, cp), ⟨h, h'⟩, rfl, fun q hq => ?_⟩, ?_⟩
    · rw [List.mem_singleton.1 hq]; exact hb
    · rw [Nat.zero_mul, add_zero]
      exact cellsAt_blk hL (fun j u hj => by simpa using hj)
theorem cSeal_ct (A : Option Addr) (b : List UInt8) (cp : Nat) (hb : b.length ≤ 10000000000000) (hcp : b.length ≤ cp) (hcp' : cp ≤ 9223372036854775807) : Ct Tryz.prog 83 [.slice A b.length cp] [] [Pers.row Kd.u8 A b]
    (fun u G Q => ∃ A' cp', (sealB b).length ≤ cp' ∧ cp' ≤ 9223372036854775807 ∧ u = .slice A' (sealB b).length cp' ∧ G = [rowOf A' cp' (sealB b)] ∧ Q = []) := by
 refine Ct.intro Tryz.func83 rfl rfl rfl (fun c hc => ?_)
 refine GC.sr_ ?_; refine GL.as_ rfl rfl ?_; refine GL.nl_ ?_; refine GC.sr_ ?_
 iterate 2 refine GL.mv_ rfl rfl ?_
 refine GL.step rfl (t_buildSlice rfl Tryz.underlying188 sz_25 ze_25 rfl rfl rfl rfl rfl rfl) (GL.ex fun b_t5 => ?_); refine GL.step rfl (t_lend rfl fn_125 rfl (is := []) (ls := [0]) (js := []) rfl rfl rfl (lendF (A := A) (b := b) (cp := cp) (j := 0) (by exact rfl) hcp hcp') (by exact csum_ct _ b _ (by omega)) (by rintro _ _ _ ⟨rfl, rfl, rfl⟩; rfl)) (GL.retL ?_)
 rintro _ _ ⟨rfl, rfl, _⟩
 refine GL.step rfl (t_call rfl fn_124 rfl (is := []) (js := [0]) rfl rfl (by exact cseal_ct _ b _ (crcB b) hb)) (GL.ret ?_)
 rintro _ _ _ ⟨A7, cp7, l7, k7, rfl, rfl, rfl⟩
 refine GL.as_ rfl rfl ?_; refine GL.nl_ ?_; refine GC.ret ?_
 refine fun a w h => Fin.back (rs := [.tmp 2]) (vs := [_]) (is := [0]) (js := []) rfl ⟨rfl, trivial⟩ rfl rfl ?_ h
 clear h
 exact ⟨_, _, l7, k7, rfl, rfl, rfl⟩
theorem copen_ok (A : Option Addr) (b : List UInt8) (cp : Nat) (hb : b.length ≤ 10000000000000) (hcp : b.length ≤ cp) (hcp' : cp ≤ 9223372036854775807) (h4 : 4 ≤ b.length) (ho : sealB (seg b 0 (b.length - 4)) = b) : Ct Tryz.prog 92 [.slice A b.length cp] [] [Pers.row Kd.u8 A b]
    (fun u G Q => ∃ A' cp', (seg b 0 (b.length - 4)).length ≤ cp' ∧ cp' ≤ 9223372036854775807 ∧ u = .tuple #[.slice A' (seg b 0 (b.length - 4)).length cp', .int .i64 0] ∧ G = [rowOf A' cp' (seg b 0 (b.length - 4))] ∧ Q = []) := by
 have hsl : (seg b 0 (b.length - 4)).length = b.length - 4 := by rw [seg_length (by omega)]; omega
 have e4 : ((b.length : Int) - 4).toNat = b.length - 4 := by omega
 refine Ct.intro Tryz.func92 rfl rfl rfl (fun c hc => ?_)
 refine GC.sr_ ?_
 iterate 2 refine GL.as_ rfl rfl ?_
 refine GL.nl_ ?_; refine GC.seq' ?_; refine GC.sr_ ?_; refine GL.mv_ rfl rfl ?_; refine GL.pure rfl (p_len Tryz.underlying25 rfl) ?_; refine GL.pure rfl (p_lss rfl rfl) ?_; refine GL.nl_ ?_; refine GC.cond rfl (fun h1 => ?_) (fun h1 => ?_)
 ·try simp only [tst_] at h1
  first
  | (exfalso; omega)
  |(skip
    refine GC.sr_ ?_
    iterate 2 refine GL.as_ rfl rfl ?_
    refine GL.nl_ ?_; refine GC.ret ?_
    refine fun a w h => Fin.back (rs := [.tmp 2, .tmp 3]) (vs := [_, _]) (is := []) (js := []) rfl ⟨rfl, rfl, trivial⟩ rfl rfl ?_ h
    clear h
    skip)
 ·try simp only [tst_] at h1
  first
  | (exfalso; omega)
  |(skip
    refine GC.skip (?_ : GC _ _ _ _)
    refine GC.sr_ ?_
    iterate 2 refine GL.mv_ rfl rfl ?_
    refine GL.pure rfl (p_len Tryz.underlying25 rfl) ?_; refine GL.pure rfl (p_sub rfl rfl (w64 (by omega) (by omega))) ?_; refine GL.step rfl (t_cut_h (j := 0) rfl rfl rfl rfl Tryz.underlying25 sz_5 (by omega) (by omega) (by omega)) ?_
    rw [e4]
    refine GL.as_ rfl rfl ?_; refine GL.nl_ ?_; refine GC.seq' ?_; refine GC.sr_ ?_; refine GL.mv_ rfl rfl ?_; refine GL.step rfl (t_call rfl fn_83 rfl (is := []) (js := [0]) rfl rfl (by exact cSeal_ct _ (seg b 0 (b.length - 4)) _ (by omega) (by omega) (by omega))) (GL.ret ?_)
    rintro _ _ _ ⟨A14, cp14, l14, k14, rfl, rfl, rfl⟩
    refine GL.freezeB (i := 0) rfl ?_; refine GL.mv_ rfl rfl ?_; refine GL.step rfl (t_call rfl fn_128 rfl (is := []) (js := [0, 2]) rfl rfl (by exact bequal_ct _ (sealB (seg b 0 (b.length - 4))) _ _ b _ (by rw [sealB_len]; omega))) (GL.ret ?_)
    rintro _ _ _ ⟨rfl, rfl, rfl⟩
    refine GL.pure rfl (p_not rfl) ?_; refine GL.nl_ ?_; refine GC.cond rfl (fun h2 => ?_) (fun h2 => ?_)
    ·try simp only [tst_] at h2
     first
     | (exfalso; omega)
     |(skip
       refine GC.sr_ ?_
       iterate 2 refine GL.as_ rfl rfl ?_
       refine GL.nl_ ?_; refine GC.ret ?_
       refine fun a w h => Fin.back (rs := [.tmp 2, .tmp 3]) (vs := [_, _]) (is := []) (js := []) rfl ⟨rfl, rfl, trivial⟩ rfl rfl ?_ h
       clear h
       exact absurd ho (by assumption))
    ·try simp only [tst_] at h2
     first
     | (exfalso; omega)
     |(skip
       refine GC.skip (?_ : GC _ _ _ _)
       refine GC.sr_ ?_; refine GL.mv_ rfl rfl ?_; refine GL.step rfl (t_call rfl fn_118 rfl (is := []) (js := [1]) rfl rfl (by exact bclone_ct _ (seg b 0 (b.length - 4)) _ (by omega))) (GL.ret ?_)
       rintro _ _ _ ⟨A19, cp19, l19, k19, rfl, rfl, rfl⟩
       iterate 2 refine GL.as_ rfl rfl ?_
       refine GL.nl_ ?_; refine GC.ret ?_
       refine fun a w h => Fin.back (rs := [.tmp 2, .tmp 3]) (vs := [_, _]) (is := [0]) (js := []) rfl ⟨rfl, rfl, trivial⟩ rfl rfl ?_ h
       clear h
       exact ⟨_, _, l19, k19, rfl, rfl, rfl⟩))
theorem copen_bad (A : Option Addr) (b : List UInt8) (cp : Nat) (hb : b.length ≤ 10000000000000) (hcp : b.length ≤ cp) (hcp' : cp ≤ 9223372036854775807) (h4 : 4 ≤ b.length) (ho : ¬ sealB (seg b 0 (b.length - 4)) = b) : Ct Tryz.prog 92 [.slice A b.length cp] [] [Pers.row Kd.u8 A b]
    (fun u G Q => u = .tuple #[.slice none 0 0, .int .i64 31] ∧ G = [] ∧ Q = []) := by
 have hsl : (seg b 0 (b.length - 4)).length = b.length - 4 := by rw [seg_length (by omega)]; omega
 have e4 : ((b.length : Int) - 4).toNat = b.length - 4 := by omega
 refine Ct.intro Tryz.func92 rfl rfl rfl (fun c hc => ?_)
 refine GC.sr_ ?_
 iterate 2 refine GL.as_ rfl rfl ?_
 refine GL.nl_ ?_; refine GC.seq' ?_; refine GC.sr_ ?_; refine GL.mv_ rfl rfl ?_; refine GL.pure rfl (p_len Tryz.underlying25 rfl) ?_; refine GL.pure rfl (p_lss rfl rfl) ?_; refine GL.nl_ ?_; refine GC.cond rfl (fun h1 => ?_) (fun h1 => ?_)
 ·try simp only [tst_] at h1
  first
  | (exfalso; omega)
  |(skip
    refine GC.sr_ ?_
    iterate 2 refine GL.as_ rfl rfl ?_
    refine GL.nl_ ?_; refine GC.ret ?_
    refine fun a w h => Fin.back (rs := [.tmp 2, .tmp 3]) (vs := [_, _]) (is := []) (js := []) rfl ⟨rfl, rfl, trivial⟩ rfl rfl ?_ h
    clear h
    skip)
 ·try simp only [tst_] at h1
  first
  | (exfalso; omega)
  |(skip
    refine GC.skip (?_ : GC _ _ _ _)
    refine GC.sr_ ?_
    iterate 2 refine GL.mv_ rfl rfl ?_
    refine GL.pure rfl (p_len Tryz.underlying25 rfl) ?_; refine GL.pure rfl (p_sub rfl rfl (w64 (by omega) (by omega))) ?_; refine GL.step rfl (t_cut_h (j := 0) rfl rfl rfl rfl Tryz.underlying25 sz_5 (by omega) (by omega) (by omega)) ?_
    rw [e4]
    refine GL.as_ rfl rfl ?_; refine GL.nl_ ?_; refine GC.seq' ?_; refine GC.sr_ ?_; refine GL.mv_ rfl rfl ?_; refine GL.step rfl (t_call rfl fn_83 rfl (is := []) (js := [0]) rfl rfl (by exact cSeal_ct _ (seg b 0 (b.length - 4)) _ (by omega) (by omega) (by omega))) (GL.ret ?_)
    rintro _ _ _ ⟨A14, cp14, l14, k14, rfl, rfl, rfl⟩
    refine GL.freezeB (i := 0) rfl ?_; refine GL.mv_ rfl rfl ?_; refine GL.step rfl (t_call rfl fn_128 rfl (is := []) (js := [0, 2]) rfl rfl (by exact bequal_ct _ (sealB (seg b 0 (b.length - 4))) _ _ b _ (by rw [sealB_len]; omega))) (GL.ret ?_)
    rintro _ _ _ ⟨rfl, rfl, rfl⟩
    refine GL.pure rfl (p_not rfl) ?_; refine GL.nl_ ?_; refine GC.cond rfl (fun h2 => ?_) (fun h2 => ?_)
    ·try simp only [tst_] at h2
     first
     | (exfalso; omega)
     |(skip
       refine GC.sr_ ?_
       iterate 2 refine GL.as_ rfl rfl ?_
       refine GL.nl_ ?_; refine GC.ret ?_
       refine fun a w h => Fin.back (rs := [.tmp 2, .tmp 3]) (vs := [_, _]) (is := []) (js := []) rfl ⟨rfl, rfl, trivial⟩ rfl rfl ?_ h
       clear h
       exact ⟨rfl, rfl, rfl⟩)
    ·try simp only [tst_] at h2
     first
     | (exfalso; omega)
     |(skip
       refine GC.skip (?_ : GC _ _ _ _)
       refine GC.sr_ ?_; refine GL.mv_ rfl rfl ?_; refine GL.step rfl (t_call rfl fn_118 rfl (is := []) (js := [1]) rfl rfl (by exact bclone_ct _ (seg b 0 (b.length - 4)) _ (by omega))) (GL.ret ?_)
       rintro _ _ _ ⟨A19, cp19, l19, k19, rfl, rfl, rfl⟩
       iterate 2 refine GL.as_ rfl rfl ?_
       refine GL.nl_ ?_; refine GC.ret ?_
       refine fun a w h => Fin.back (rs := [.tmp 2, .tmp 3]) (vs := [_, _]) (is := []) (js := []) rfl ⟨rfl, rfl, trivial⟩ rfl rfl ?_ h
       clear h
       exact absurd (by assumption) ho))
def headB (body : List UInt8) : List UInt8 := [80, 76, 4, 0] ++ leN 8 0 ++ leN 4 body.length ++ body
def frameB (body : List UInt8) : List UInt8 := sealB (headB body)
theorem headB_len (body : List UInt8) : (headB body).length = body.length + 16 := by simp [headB, leN_length]; omega
theorem frameB_len (body : List UInt8) : (frameB body).length = body.length + 20 := by rw [frameB, sealB_len, headB_len]
theorem fwrite_ct (A : Option Addr) (b : List UInt8) (cp : Nat) (hb : b.length ≤ 16777216) : Ct Tryz.prog 46 [.agg #[.int .u8 4, .int .u64 0, .slice A b.length cp]] [] [Pers.row Kd.u8 A b]
    (fun u G Q => ∃ A' cp', (frameB b).length ≤ cp' ∧ cp' ≤ 9223372036854775807 ∧ u = .tuple #[.slice A' (frameB b).length cp', .int .i64 0] ∧ G = [rowOf A' cp' (frameB b)] ∧ Q = []) := by
 refine Ct.intro Tryz.func46 rfl rfl rfl (fun c hc => ?_)
 refine GC.sr_ ?_; refine GL.step rfl (t_box rfl rfl rfl) (GL.ex fun b_t1 => ?_)
 iterate 2 refine GL.as_ rfl rfl ?_
 refine GL.nl_ ?_; refine GC.sr_ ?_; refine GL.pure rfl (p_fieldAddr fo_55_0 rfl) ?_; refine GL.step rfl (t_mem rfl (m_load (i := 0) rfl rfl ag_5 rfl)) ?_; refine GL.step rfl (t_buildSlice rfl Tryz.underlying25 sz_5 ze_5 rfl rfl rfl rfl rfl rfl) (GL.ex fun b_t10 => ?_)
 refine GL.freezeC (enc := u8v) (xs := [(80 : UInt8), 76, 4, 0]) (h1 := fun _ => rfl) (i := 0) rfl ?_; refine GL.pure rfl (p_fieldAddr fo_55_1 rfl) ?_; refine GL.step rfl (t_mem rfl (m_load (i := 0) rfl rfl ag_23 rfl)) ?_
 refine GL.step rfl (t_call rfl fn_80 rfl (is := []) (js := [0]) rfl rfl (by exact oput_ct _ [(80 : UInt8), 76, 4, 0] _ 0 8 (by omega) (by omega) (by simp) (by decide))) (GL.ret ?_)
 rintro _ _ _ ⟨A13, cp13, l13, k13, rfl, rfl, rfl⟩
 refine GL.mv_ rfl rfl ?_
 iterate 2 refine GL.pure rfl (p_extract rfl rfl) ?_
 iterate 2 refine GL.as_ rfl rfl ?_
 refine GL.nl_ ?_; refine GC.sr_ ?_; refine GL.mv_ rfl rfl ?_; refine GL.pure rfl (p_fieldAddr fo_55_2 rfl) ?_; refine GL.step rfl (t_mem rfl (m_load (i := 1) rfl rfl ag_25 rfl)) ?_; refine GL.freezeB (i := 0) rfl ?_; refine GL.step rfl (t_call rfl fn_82 rfl (is := []) (js := [0, 2]) rfl rfl (by exact otext_ct _ ([(80 : UInt8), 76, 4, 0] ++ leN 8 0) _ _ b _ (by simp [leN_length]) hb)) (GL.ret ?_)
 rintro _ _ _ ⟨A20, cp20, l20, k20, rfl, rfl, rfl⟩
 refine GL.mv_ rfl rfl ?_
 iterate 2 refine GL.pure rfl (p_extract rfl rfl) ?_
 iterate 2 refine GL.as_ rfl rfl ?_
 refine GL.nl_ ?_; refine GC.seq' ?_; refine GC.sr_ ?_; refine GL.mv_ rfl rfl ?_; refine GL.pure rfl (p_neq rfl rfl) ?_; refine GL.nl_ ?_; refine GC.cond_false rfl ?_
 refine GC.skip (?_ : GC _ _ _ _)
 refine GC.sr_ ?_; refine GL.freezeB (i := 0) rfl ?_; refine GL.mv_ rfl rfl ?_; refine GL.step rfl (t_call rfl fn_83 rfl (is := []) (js := [0]) rfl rfl (by exact cSeal_ct _ (headB b) _ (by rw [headB_len]; omega) l20 k20)) (GL.ret ?_)
 rintro _ _ _ ⟨A27, cp27, l27, k27, rfl, rfl, rfl⟩
 iterate 2 refine GL.as_ rfl rfl ?_
 refine GL.nl_ ?_; refine GC.ret ?_
 refine fun a w h => Fin.back (rs := [.tmp 2, .tmp 3]) (vs := [_, _]) (is := [0]) (js := []) rfl ⟨rfl, rfl, trivial⟩ rfl rfl ?_ h
 clear h
 exact ⟨_, _, l27, k27, rfl, rfl, rfl⟩
end Go.Proofs.YtdhdmbmknpjhbaaGreat
namespace Go.Proofs.YtdhdmbmknpjhbaaGreat
open Go Go.Sx Go.Proofs
theorem seg_seg {α : Type} {b : List α} {m l h : Nat} (hh : h ≤ m) : seg (seg b 0 m) l h = seg b l h := by
  simp only [seg, List.drop_zero, List.take_take, Nat.min_eq_left hh]
theorem gt_seg {b : List UInt8} {m : Nat} {i : Nat} (hi : i < m) : gt (seg b 0 m) (i : Int) = gt b (i : Int) := by
  simp only [gt, seg, List.drop_zero, Int.toNat_natCast, List.getD_eq_getElem?_getD, List.getElem?_take, if_pos hi]
abbrev rdN (b : List UInt8) : Nat := valN (seg b 12 (12 + 4))
def rdE (b : List UInt8) : Int :=
  if b.length < 16 then 10
  else if ¬ ((gt b 0).toNat = 80 ∧ (gt b 1).toNat = 76 ∧ (gt b 3).toNat = 0 ∧ rdN b ≤ 16777216) then 30
  else if b.length < rdN b + 20 then 10
  else if ¬ sealB (seg b 0 (rdN b + 16)) = seg b 0 (rdN b + 20) then 31 else 0
theorem rd1 {b : List UInt8} (h : b.length < 16) : rdE b = 10 := if_pos h
theorem rd2 {b : List UInt8} (h : ¬ b.length < 16) (h2 : ¬ ((gt b 0).toNat = 80 ∧ (gt b 1).toNat = 76 ∧ (gt b 3).toNat = 0 ∧ rdN b ≤ 16777216)) : rdE b = 30 := by rw [rdE, if_neg h, if_pos h2]
theorem rd3 {b : List UInt8} (h : ¬ b.length < 16) (h2 : (gt b 0).toNat = 80 ∧ (gt b 1).toNat = 76 ∧ (gt b 3).toNat = 0 ∧ rdN b ≤ 16777216) (h3 : b.length < rdN b + 20) : rdE b = 10 := by rw [rdE, if_neg h, if_neg (not_not_intro h2), if_pos h3]
theorem rd4 {b : List UInt8} (h : ¬ b.length < 16) (h2 : (gt b 0).toNat = 80 ∧ (gt b 1).toNat = 76 ∧ (gt b 3).toNat = 0 ∧ rdN b ≤ 16777216) (h3 : ¬ b.length < rdN b + 20) (h4 : ¬ sealB (seg b 0 (rdN b + 16)) = seg b 0 (rdN b + 20)) : rdE b = 31 := by rw [rdE, if_neg h, if_neg (not_not_intro h2), if_neg h3, if_pos h4]
theorem rd5 {b : List UInt8} (h : ¬ b.length < 16) (h2 : (gt b 0).toNat = 80 ∧ (gt b 1).toNat = 76 ∧ (gt b 3).toNat = 0 ∧ rdN b ≤ 16777216) (h3 : ¬ b.length < rdN b + 20) (h4 : sealB (seg b 0 (rdN b + 16)) = seg b 0 (rdN b + 20)) : rdE b = 0 := by rw [rdE, if_neg h, if_neg (not_not_intro h2), if_neg h3, if_neg (not_not_intro h4)]
theorem copen_ok' (A : Option Addr) (b : List UInt8) (cp : Nat) (y : List UInt8) (hy : seg b 0 (b.length - 4) = y) (hb : b.length ≤ 10000000000000) (hcp : b.length ≤ cp) (hcp' : cp ≤ 9223372036854775807) (h4 : 4 ≤ b.length) (ho : sealB y = b) : Ct Tryz.prog 92 [.slice A b.length cp] [] [Pers.row Kd.u8 A b]
    (fun u G Q => ∃ A' cp', y.length ≤ cp' ∧ cp' ≤ 9223372036854775807 ∧ u = .tuple #[.slice A' y.length cp', .int .i64 0] ∧ G = [rowOf A' cp' y] ∧ Q = []) := by
  subst hy; exact copen_ok A b cp hb hcp hcp' h4 ho
def rdR (b : List UInt8) (k s : Int) (bd : List UInt8) (n : Int) : Prop := rdE b = 0 → k = ((gt b 2).toNat : Int) ∧ s = ((valN (seg b 4 12) : Nat) : Int) ∧ bd = seg b 16 (rdN b + 16) ∧ n = ((rdN b + 20 : Nat) : Int) ∧ rdN b + 20 ≤ b.length
theorem fread_ct (A : Option Addr) (b : List UInt8) (cp : Nat) (hb : b.length ≤ 200000000000000) (hcp : b.length ≤ cp) (hcp' : cp ≤ 9223372036854775807) : Ct Tryz.prog 48 [.slice A b.length cp, .int .i64 0] [] [Pers.row Kd.u8 A b]
    (fun u G Q => ∃ k s A' bd c' n, bd.length ≤ c' ∧ c' ≤ 9223372036854775807 ∧ rdR b k s bd n ∧ u = .tuple #[.agg #[.int .u8 k, .int .u64 s, .slice A' bd.length c'], .int .i64 n, .int .i64 (rdE b)] ∧ G = [] ∧ Q = [Pers.row Kd.u8 A' bd]) := by
 have hrd : valN (seg b 12 (12 + 4)) = rdN b := rfl
 refine Ct.intro Tryz.func48 rfl rfl rfl (fun c hc => ?_)
 refine GC.sr_ ?_; refine GL.step rfl (t_alloc rfl ze_55) (GL.ex fun b_t4 => ?_)
 iterate 2 refine GL.as_ rfl rfl ?_
 refine GL.nl_ ?_; refine GC.seq' ?_; refine GC.sr_ ?_; refine GL.mv_ rfl rfl ?_; refine GL.pure rfl (p_lss rfl rfl) ?_; refine GL.mv_ rfl rfl ?_; refine GL.split (i := 19) rfl (fun h1 => ?_) (fun h1 => ?_)
 ·try simp only [tst_] at h1
  first
  | (exfalso; omega)
  |(skip
    iterate 4 refine GL.pass (s := 19) rfl rfl rfl ?_
    refine GL.pure rfl (p_pick_true rfl rfl) ?_; refine GL.nl_ ?_; refine GC.cond_true rfl ?_; refine GC.sr_ ?_; refine GL.pure rfl (p_build ze_55 of_55 rfl rfl) ?_; refine GL.step rfl (t_storeN (i := 0) rfl rfl rfl sz_55 rfl rfl rfl) ?_
    iterate 2 refine GL.as_ rfl rfl ?_
    refine GL.nl_ ?_
    skip
    refine GC.ret ?_
    refine fun a w h => Fin.back (rs := [.cell 4 55, .tmp 5, .tmp 6]) (vs := [_, _, _]) (is := []) (js := [0]) rfl ⟨⟨0, _, _, _, _, rfl, rfl, .inr ⟨[_, _, _], rfl, ag_55, sz_55, ⟨rfl, rfl, rfl, trivial⟩⟩⟩, rfl, rfl, trivial⟩ rfl rfl ?_ h
    clear h
    skip)
 ·try simp only [tst_] at h1
  first
  | (exfalso; omega)
  |(skip
    iterate 2 refine GL.pureG (s := 19) rfl rfl rfl (p_move rfl) ?_
    refine GL.pureG (s := 19) rfl rfl rfl (p_len Tryz.underlying25 rfl) ?_; refine GL.pureG (s := 19) rfl rfl rfl (p_gtr rfl rfl) ?_; refine GL.pure rfl (p_pick_false rfl rfl) ?_; refine GL.nl_ ?_; refine GC.cond rfl (fun h2 => ?_) (fun h2 => ?_)
    ·try simp only [tst_] at h2
     first
     | (exfalso; omega)
     |(skip
       refine GC.sr_ ?_; refine GL.pure rfl (p_build ze_55 of_55 rfl rfl) ?_; refine GL.step rfl (t_storeN (i := 0) rfl rfl rfl sz_55 rfl rfl rfl) ?_
       iterate 2 refine GL.as_ rfl rfl ?_
       refine GL.nl_ ?_
       skip
       refine GC.ret ?_
       refine fun a w h => Fin.back (rs := [.cell 4 55, .tmp 5, .tmp 6]) (vs := [_, _, _]) (is := []) (js := [0]) rfl ⟨⟨0, _, _, _, _, rfl, rfl, .inr ⟨[_, _, _], rfl, ag_55, sz_55, ⟨rfl, rfl, rfl, trivial⟩⟩⟩, rfl, rfl, trivial⟩ rfl rfl ?_ h
       clear h
       skip)
    ·try simp only [tst_] at h2
     first
     | (exfalso; omega)
     |(skip
       refine GC.skip (?_ : GC _ _ _ _)
       refine GC.sr_ ?_
       iterate 2 refine GL.mv_ rfl rfl ?_
       refine GL.step rfl (t_cut_l (j := 0) rfl rfl rfl rfl Tryz.underlying25 sz_5 (by omega) (by omega) (by omega)) ?_
       rw [show (0 : Int).toNat = 0 from rfl, seg_all]
       refine GL.as_ rfl rfl ?_; refine GL.nl_ ?_; refine GC.seq' ?_; refine GC.sr_ ?_; refine GL.mv_ rfl rfl ?_; refine GL.pure rfl (p_len Tryz.underlying25 rfl) ?_; refine GL.pure rfl (p_lss rfl rfl) ?_; refine GL.nl_ ?_
       refine GC.cond rfl (fun h3 => ?_) (fun h3 => ?_)
       ·try simp only [tst_] at h3
        first
        | (exfalso; omega)
        |(skip
          refine GC.sr_ ?_; refine GL.pure rfl (p_build ze_55 of_55 rfl rfl) ?_; refine GL.step rfl (t_storeN (i := 0) rfl rfl rfl sz_55 rfl rfl rfl) ?_
          iterate 2 refine GL.as_ rfl rfl ?_
          refine GL.nl_ ?_; refine GC.know (q := Pers.row Kd.u8 none []) (fun _ _ _ => .inl rfl) ?_; refine GC.ret ?_
          refine fun a w h => Fin.back (rs := [.cell 4 55, .tmp 5, .tmp 6]) (vs := [_, _, _]) (is := []) (js := [0]) rfl ⟨⟨0, _, _, _, _, rfl, rfl, .inr ⟨[_, _, _], rfl, ag_55, sz_55, ⟨rfl, rfl, rfl, trivial⟩⟩⟩, rfl, rfl, trivial⟩ rfl rfl ?_ h
          clear h
          have e := rd1 (b := b) (by omega)
          exact ⟨0, 0, none, [], 0, 0, by simp, by simp, fun h => by omega, by rw [e]; rfl, rfl, rfl⟩)
       ·try simp only [tst_] at h3
        first
        | (exfalso; omega)
        |(skip
          refine GC.skip (?_ : GC _ _ _ _)
          refine GC.sr_ ?_; refine GL.mv_ rfl rfl ?_; refine GL.step rfl (t_call rfl fn_91 rfl (is := []) (js := [0]) rfl rfl (by exact get_ok _ b _ 12 4 (by omega) (by omega) (by omega) (by omega) (by omega))) (GL.ret ?_)
          rintro _ _ _ ⟨rfl, rfl, rfl⟩
          refine GL.mv_ rfl rfl ?_
          iterate 3 refine GL.pure rfl (p_extract rfl rfl) ?_
          iterate 3 refine GL.as_ rfl rfl ?_
          refine GL.nl_ ?_; refine GC.seq' ?_; refine GC.sr_ ?_; refine GL.mv_ rfl rfl ?_; refine GL.step rfl (t_index (i := 0) rfl rfl rfl rfl Tryz.underlying25 sz_5 (by omega) (gt_ok (by omega) (by omega))) (GL.ex fun p_x40 => GL.ex fun r_x40 => GL.and fun ok_x40 => ?_)
          rcases r_x40 with _
          refine GL.step rfl (t_mem rfl (m_loadP (i := 0) rfl rfl ag_5 rfl)) ?_; refine GL.pure rfl (p_neq rfl rfl) ?_; refine GL.mv_ rfl rfl ?_; refine GL.split (i := 43) rfl (fun h4 => ?_) (fun h4 => ?_)
          ·try simp only [tst_] at h4
           first
           | (exfalso; omega)
           |(skip
             iterate 4 refine GL.pass (s := 43) rfl rfl rfl ?_
             refine GL.pure rfl (p_pick_true rfl rfl) ?_; refine GL.mv_ rfl rfl ?_
             iterate 4 refine GL.pass (s := 49) rfl rfl rfl ?_
             refine GL.pure rfl (p_pick_true rfl rfl) ?_; refine GL.mv_ rfl rfl ?_
             iterate 2 refine GL.pass (s := 55) rfl rfl rfl ?_
             refine GL.pure rfl (p_pick_true rfl rfl) ?_; refine GL.nl_ ?_; refine GC.cond_true rfl ?_; refine GC.sr_ ?_; refine GL.pure rfl (p_build ze_55 of_55 rfl rfl) ?_; refine GL.step rfl (t_storeN (i := 0) rfl rfl rfl sz_55 rfl rfl rfl) ?_
             iterate 2 refine GL.as_ rfl rfl ?_
             refine GL.nl_ ?_; refine GC.know (q := Pers.row Kd.u8 none []) (fun _ _ _ => .inl rfl) ?_; refine GC.ret ?_
             refine fun a w h => Fin.back (rs := [.cell 4 55, .tmp 5, .tmp 6]) (vs := [_, _, _]) (is := []) (js := [0]) rfl ⟨⟨0, _, _, _, _, rfl, rfl, .inr ⟨[_, _, _], rfl, ag_55, sz_55, ⟨rfl, rfl, rfl, trivial⟩⟩⟩, rfl, rfl, trivial⟩ rfl rfl ?_ h
             clear h
             have e := rd2 (b := b) (by omega) (by omega)
             exact ⟨0, 0, none, [], 0, 0, by simp, by simp, fun h => by omega, by rw [e]; rfl, rfl, rfl⟩)
          ·try simp only [tst_] at h4
           first
           | (exfalso; omega)
           |(skip
             refine GL.pureG (s := 43) rfl rfl rfl (p_move rfl) ?_; refine GL.stepG rfl (s := 43) rfl rfl (t_index (i := 1) rfl rfl rfl rfl Tryz.underlying25 sz_5 (by omega) (gt_ok (by omega) (by omega))) (GL.ex fun p_x45 => GL.ex fun r_x45 => GL.and fun ok_x45 => ?_)
             rcases r_x45 with _
             refine GL.stepG rfl (s := 43) rfl rfl (t_mem rfl (m_loadP (i := 0) rfl rfl ag_5 rfl)) ?_; refine GL.pureG (s := 43) rfl rfl rfl (p_neq rfl rfl) ?_; refine GL.pure rfl (p_pick_false rfl rfl) ?_; refine GL.mv_ rfl rfl ?_
             refine GL.split (i := 49) rfl (fun h5 => ?_) (fun h5 => ?_)
             ·try simp only [tst_] at h5
              first
              | (exfalso; omega)
              |(skip
                iterate 4 refine GL.pass (s := 49) rfl rfl rfl ?_
                refine GL.pure rfl (p_pick_true rfl rfl) ?_; refine GL.mv_ rfl rfl ?_
                iterate 2 refine GL.pass (s := 55) rfl rfl rfl ?_
                refine GL.pure rfl (p_pick_true rfl rfl) ?_; refine GL.nl_ ?_; refine GC.cond_true rfl ?_; refine GC.sr_ ?_; refine GL.pure rfl (p_build ze_55 of_55 rfl rfl) ?_; refine GL.step rfl (t_storeN (i := 0) rfl rfl rfl sz_55 rfl rfl rfl) ?_
                iterate 2 refine GL.as_ rfl rfl ?_
                refine GL.nl_ ?_; refine GC.know (q := Pers.row Kd.u8 none []) (fun _ _ _ => .inl rfl) ?_; refine GC.ret ?_
                refine fun a w h => Fin.back (rs := [.cell 4 55, .tmp 5, .tmp 6]) (vs := [_, _, _]) (is := []) (js := [0]) rfl ⟨⟨0, _, _, _, _, rfl, rfl, .inr ⟨[_, _, _], rfl, ag_55, sz_55, ⟨rfl, rfl, rfl, trivial⟩⟩⟩, rfl, rfl, trivial⟩ rfl rfl ?_ h
                clear h
                have e := rd2 (b := b) (by omega) (by omega)
                exact ⟨0, 0, none, [], 0, 0, by simp, by simp, fun h => by omega, by rw [e]; rfl, rfl, rfl⟩)
             ·try simp only [tst_] at h5
              first
              | (exfalso; omega)
              |(skip
                refine GL.pureG (s := 49) rfl rfl rfl (p_move rfl) ?_; refine GL.stepG rfl (s := 49) rfl rfl (t_index (i := 2) rfl rfl rfl rfl Tryz.underlying25 sz_5 (by omega) (gt_ok (by omega) (by omega))) (GL.ex fun p_x51 => GL.ex fun r_x51 => GL.and fun ok_x51 => ?_)
                rcases r_x51 with _
                refine GL.stepG rfl (s := 49) rfl rfl (t_mem rfl (m_loadP (i := 0) rfl rfl ag_5 rfl)) ?_; refine GL.pureG (s := 49) rfl rfl rfl (p_neq rfl rfl) ?_; refine GL.pure rfl (p_pick_false rfl rfl) ?_; refine GL.mv_ rfl rfl ?_
                refine GL.split (i := 55) rfl (fun h6 => ?_) (fun h6 => ?_)
                ·try simp only [tst_] at h6
                 first
                 | (exfalso; omega)
                 |(skip
                   iterate 2 refine GL.pass (s := 55) rfl rfl rfl ?_
                   refine GL.pure rfl (p_pick_true rfl rfl) ?_; refine GL.nl_ ?_; refine GC.cond_true rfl ?_; refine GC.sr_ ?_; refine GL.pure rfl (p_build ze_55 of_55 rfl rfl) ?_; refine GL.step rfl (t_storeN (i := 0) rfl rfl rfl sz_55 rfl rfl rfl) ?_
                   iterate 2 refine GL.as_ rfl rfl ?_
                   refine GL.nl_ ?_; refine GC.know (q := Pers.row Kd.u8 none []) (fun _ _ _ => .inl rfl) ?_; refine GC.ret ?_
                   refine fun a w h => Fin.back (rs := [.cell 4 55, .tmp 5, .tmp 6]) (vs := [_, _, _]) (is := []) (js := [0]) rfl ⟨⟨0, _, _, _, _, rfl, rfl, .inr ⟨[_, _, _], rfl, ag_55, sz_55, ⟨rfl, rfl, rfl, trivial⟩⟩⟩, rfl, rfl, trivial⟩ rfl rfl ?_ h
                   clear h
                   have e := rd2 (b := b) (by omega) (by omega)
                   exact ⟨0, 0, none, [], 0, 0, by simp, by simp, fun h => by omega, by rw [e]; rfl, rfl, rfl⟩)
                ·try simp only [tst_] at h6
                 first
                 | (exfalso; omega)
                 |(skip
                   refine GL.pureG (s := 55) rfl rfl rfl (p_move rfl) ?_; refine GL.pureG (s := 55) rfl rfl rfl (p_gtr rfl rfl) ?_; refine GL.pure rfl (p_pick_false rfl rfl) ?_; refine GL.nl_ ?_; refine GC.cond rfl (fun h7 => ?_) (fun h7 => ?_)
                   ·try simp only [tst_] at h7
                    first
                    | (exfalso; omega)
                    |(skip
                      refine GC.sr_ ?_; refine GL.pure rfl (p_build ze_55 of_55 rfl rfl) ?_; refine GL.step rfl (t_storeN (i := 0) rfl rfl rfl sz_55 rfl rfl rfl) ?_
                      iterate 2 refine GL.as_ rfl rfl ?_
                      refine GL.nl_ ?_; refine GC.know (q := Pers.row Kd.u8 none []) (fun _ _ _ => .inl rfl) ?_; refine GC.ret ?_
                      refine fun a w h => Fin.back (rs := [.cell 4 55, .tmp 5, .tmp 6]) (vs := [_, _, _]) (is := []) (js := [0]) rfl ⟨⟨0, _, _, _, _, rfl, rfl, .inr ⟨[_, _, _], rfl, ag_55, sz_55, ⟨rfl, rfl, rfl, trivial⟩⟩⟩, rfl, rfl, trivial⟩ rfl rfl ?_ h
                      clear h
                      have e := rd2 (b := b) (by omega) (by omega)
                      exact ⟨0, 0, none, [], 0, 0, by simp, by simp, fun h => by omega, by rw [e]; rfl, rfl, rfl⟩)
                   ·try simp only [tst_] at h7
                    first
                    | (exfalso; omega)
                    |(skip
                      refine GC.skip (?_ : GC _ _ _ _)
                      refine GC.sr_ ?_; refine GL.mv_ rfl rfl ?_
                      have hnn : rdN b ≤ 16777216 := by omega
                      refine GL.pure rfl (p_convR (t := 23) (r := ((rdN b : Nat) : Int)) (by rw [Tryz.underlying23]; simp) Tryz.underlying3 rfl (cvI (by omega) (by omega))) ?_; refine GL.pure rfl (p_add rfl rfl (w64 (by omega) (by omega))) ?_
                      refine GL.as_ rfl rfl ?_; refine GL.nl_ ?_; refine GC.seq' ?_; refine GC.sr_ ?_; refine GL.mv_ rfl rfl ?_; refine GL.pure rfl (p_len Tryz.underlying25 rfl) ?_; refine GL.mv_ rfl rfl ?_; refine GL.pure rfl (p_lss rfl rfl) ?_
                      refine GL.nl_ ?_; refine GC.cond rfl (fun h8 => ?_) (fun h8 => ?_)
                      ·try simp only [tst_] at h8
                       first
                       | (exfalso; omega)
                       |(skip
                         refine GC.sr_ ?_; refine GL.pure rfl (p_build ze_55 of_55 rfl rfl) ?_; refine GL.step rfl (t_storeN (i := 0) rfl rfl rfl sz_55 rfl rfl rfl) ?_
                         iterate 2 refine GL.as_ rfl rfl ?_
                         refine GL.nl_ ?_; refine GC.know (q := Pers.row Kd.u8 none []) (fun _ _ _ => .inl rfl) ?_; refine GC.ret ?_
                         refine fun a w h => Fin.back (rs := [.cell 4 55, .tmp 5, .tmp 6]) (vs := [_, _, _]) (is := []) (js := [0]) rfl ⟨⟨0, _, _, _, _, rfl, rfl, .inr ⟨[_, _, _], rfl, ag_55, sz_55, ⟨rfl, rfl, rfl, trivial⟩⟩⟩, rfl, rfl, trivial⟩ rfl rfl ?_ h
                         clear h
                         have e := rd3 (b := b) (by omega) (by omega) (by omega)
                         exact ⟨0, 0, none, [], 0, 0, by simp, by simp, fun h => by omega, by rw [e]; rfl, rfl, rfl⟩)
                      ·try simp only [tst_] at h8
                       first
                       | (exfalso; omega)
                       |(skip
                         refine GC.skip (?_ : GC _ _ _ _)
                         refine GC.seq' ?_
                         have hsl : (seg b 0 (rdN b + 20)).length = rdN b + 20 := by rw [seg_length (by omega)]; omega
                         have hbl : (seg b 0 (rdN b + 16)).length = rdN b + 16 := by rw [seg_length (by omega)]; omega
                         have hsg : seg (seg b 0 (rdN b + 20)) 0 ((seg b 0 (rdN b + 20)).length - 4) = seg b 0 (rdN b + 16) := by rw [hsl]; exact seg_seg (by omega)
                         by_cases ho : sealB (seg b 0 (rdN b + 16)) = seg b 0 (rdN b + 20)
                         ·skip
                          refine GC.region ?_
                          iterate 2 refine GL.mv_ rfl rfl ?_
                          refine GL.step rfl (t_cut_h (j := 3) rfl rfl rfl rfl Tryz.underlying25 sz_5 (by omega) (by omega) (by omega)) ?_
                          rw [show (((rdN b : Nat) : Int) + 20).toNat = rdN b + 20 from rfl]
                          refine GL.step rfl (t_call rfl fn_92 rfl (is := []) (js := [0]) rfl rfl (by exact copen_ok' _ (seg b 0 (rdN b + 20)) _ (seg b 0 (rdN b + 16)) hsg (by omega) (by omega) (by omega) (by omega) ho)) (GL.ret ?_)
                          rintro _ _ _ ⟨A72, cp72, l72, k72, rfl, rfl, rfl⟩
                          refine GL.mv_ rfl rfl ?_
                          iterate 2 refine GL.pure rfl (p_extract rfl rfl) ?_
                          iterate 2 refine GL.as_ rfl rfl ?_
                          refine GL.nil (?_ : GC _ _ _ _)
                          refine GC.seq' ?_; refine GC.sr_ ?_; refine GL.mv_ rfl rfl ?_; refine GL.pure rfl (p_neq rfl rfl) ?_; refine GL.nl_ ?_; refine GC.cond_false rfl ?_
                          refine GC.skip (?_ : GC _ _ _ _)
                          refine GC.seq' ?_; refine GC.freezeB (i := 0) rfl ?_; refine GC.region ?_; refine GL.mv_ rfl rfl ?_; refine GL.step rfl (t_call rfl fn_91 rfl (is := []) (js := [0]) rfl rfl (by exact get_ok _ (seg b 0 (rdN b + 16)) _ 4 8 (by omega) (by omega) l72 (by omega) (by omega))) (GL.ret ?_)
                          rintro _ _ _ ⟨rfl, rfl, rfl⟩
                          refine GL.mv_ rfl rfl ?_
                          iterate 3 refine GL.pure rfl (p_extract rfl rfl) ?_
                          iterate 3 refine GL.as_ rfl rfl ?_
                          refine GL.nil (?_ : GC _ _ _ _)
                          refine GC.seq' ?_; refine GC.layQ (y := .const (.int .i64 (2))) (j := 0) rfl rfl (by omega) (gt_ok (by omega) (by omega)) (fun p_x85 r_x85 hA_x85 ok_x85 => ?_)
                          rcases r_x85 with _
                          refine GC.regionC (m := 13) (is := []) (js := [0, 1, 2, 3, 4, 5, 6, 7]) wide_ rfl rfl rfl ?_; refine GA.take 0 rfl (by kernel_rfl) (by kernel_rfl) (by kernel_rfl) rfl (fun a w h => h.mem (is := []) (js := [0, 1, 2, 3, 4, 5, 6, 7]) rfl rfl) (i_pure (p_move rfl)) ?_
                          refine GA.take 1 rfl (by kernel_rfl) (by kernel_rfl) (by kernel_rfl) rfl (fun a w h => h.mem (is := []) (js := [0, 1, 2, 3, 4, 5, 6, 7]) rfl rfl) (i_pure (p_indexL hA_x85 rfl rfl Tryz.underlying25 sz_5 (by omega) (by omega))) ?_
                          refine GA.take 2 rfl (by kernel_rfl) (by kernel_rfl) (by kernel_rfl) rfl (fun a w h => h.mem (is := []) (js := [0, 1, 2, 3, 4, 5, 6, 7]) rfl rfl) (i_mem (m_loadP (i := 0) rfl rfl ag_5 rfl)) ?_; refine GA.take 3 rfl (by kernel_rfl) (by kernel_rfl) (by kernel_rfl) rfl (fun a w h => h.mem (is := []) (js := [0, 1, 2, 3, 4, 5, 6, 7]) rfl rfl) (i_pure (p_move rfl)) ?_
                          refine GA.take 4 rfl (by kernel_rfl) (by kernel_rfl) (by kernel_rfl) rfl (fun a w h => h.mem (is := []) (js := [0, 1, 2, 3, 4, 5, 6, 7]) rfl rfl) (i_pure (p_move rfl)) ?_; refine GA.take 7 rfl (by kernel_rfl) (by kernel_rfl) (by kernel_rfl) rfl (fun a w h => h.mem (is := []) (js := [0, 1, 2, 3, 4, 5, 6, 7]) rfl rfl) (i_pure (p_move rfl)) ?_
                          refine GA.take 8 rfl (by kernel_rfl) (by kernel_rfl) (by kernel_rfl) rfl (fun a w h => h.mem (is := []) (js := [0, 1, 2, 3, 4, 5, 6, 7]) rfl rfl) (i_pure (p_move rfl)) ?_; refine GA.take 9 rfl (by kernel_rfl) (by kernel_rfl) (by kernel_rfl) rfl (fun a w h => h.mem (is := []) (js := [0, 1, 2, 3, 4, 5, 6, 7]) rfl rfl) (i_pure (p_add rfl rfl (w64 (by omega) (by omega)))) ?_
                          refine GA.all (rs := [5]) (by kernel_rfl) (by simp) ?_
                          refine GAs.cons (i := 5) rfl rfl (t_cut_l (j := 1) rfl rfl rfl rfl Tryz.underlying25 sz_5 (by omega) (by omega) (by omega)) (by rintro a w h; exact h.mem (is := []) (js := [1, 2, 3, 4, 5, 6, 7, 8]) rfl rfl) ?_ ?_
                          ·refine GA.take 6 rfl (by kernel_rfl) (by kernel_rfl) (by kernel_rfl) rfl (fun a w h => h.mem (is := []) (js := [1, 2, 3, 4, 5, 6, 7, 8]) rfl rfl) (i_pure (p_build ze_55 of_55 rfl rfl)) ?_; refine GA.all (rs := [10]) (by kernel_rfl) (by simp) ?_
                           refine GAs.cons (i := 10) rfl rfl (t_storeN (i := 0) rfl rfl rfl sz_55 rfl rfl rfl) (by rintro a w h; exact h.mem (is := []) (js := [1, 2, 3, 4, 5, 6, 7, 8]) rfl rfl) ?_ ?_
                           ·refine GA.take 11 rfl (by kernel_rfl) (by kernel_rfl) (by kernel_rfl) rfl (fun a w h => h.mem (is := []) (js := [1, 2, 3, 4, 5, 6, 7, 8]) rfl rfl) (i_pure (p_assign rfl)) ?_; refine GA.take 12 rfl (by kernel_rfl) (by kernel_rfl) (by kernel_rfl) rfl (fun a w h => h.mem (is := []) (js := [1, 2, 3, 4, 5, 6, 7, 8]) rfl rfl) (i_pure (p_assign rfl)) ?_
                            refine GA.done (by kernel_rfl) (?_ : GC _ _ _ _)
                            refine GC.ret ?_
                            refine fun a w h => Fin.back (rs := [.cell 4 55, .tmp 5, .tmp 6]) (vs := [_, _, _]) (is := []) (js := [0]) rfl ⟨⟨0, _, _, _, _, rfl, rfl, .inr ⟨[_, _, _], rfl, ag_55, sz_55, ⟨rfl, rfl, rfl, trivial⟩⟩⟩, rfl, rfl, trivial⟩ rfl rfl ?_ h
                            clear h
                            have e := rd5 (b := b) (by omega) (by omega) (by omega) ho
                            refine ⟨_, _, _, _, _, _, ?_, ?_, ?_, by rw [e]; rfl, rfl, rfl⟩
                            ·rw [seg_length (by omega), hbl]; show rdN b + 16 - 16 ≤ cp72 - 16; omega
                            ·show cp72 - 16 ≤ _; omega
                            ·exact fun h => ⟨by rw [show (2 : Int) = ((2 : Nat) : Int) from rfl, gt_seg (by omega)], by rw [seg_seg (by omega)], by rw [hbl]; exact seg_seg (by omega), by omega, by omega⟩
                           exact GAs.nil
                          exact GAs.nil
                         ·skip
                          refine GC.region ?_
                          iterate 2 refine GL.mv_ rfl rfl ?_
                          refine GL.step rfl (t_cut_h (j := 3) rfl rfl rfl rfl Tryz.underlying25 sz_5 (by omega) (by omega) (by omega)) ?_
                          rw [show (((rdN b : Nat) : Int) + 20).toNat = rdN b + 20 from rfl]
                          refine GL.step rfl (t_call rfl fn_92 rfl (is := []) (js := [0]) rfl rfl (by exact copen_bad _ (seg b 0 (rdN b + 20)) _ (by omega) (by omega) (by omega) (by omega) (by rw [hsg]; exact ho))) (GL.ret ?_)
                          rintro _ _ _ ⟨rfl, rfl, rfl⟩
                          refine GL.mv_ rfl rfl ?_
                          iterate 2 refine GL.pure rfl (p_extract rfl rfl) ?_
                          iterate 2 refine GL.as_ rfl rfl ?_
                          refine GL.nil (?_ : GC _ _ _ _)
                          refine GC.seq' ?_; refine GC.sr_ ?_; refine GL.mv_ rfl rfl ?_; refine GL.pure rfl (p_neq rfl rfl) ?_; refine GL.nl_ ?_; refine GC.cond_true rfl ?_; refine GC.sr_ ?_; refine GL.pure rfl (p_build ze_55 of_55 rfl rfl) ?_
                          refine GL.step rfl (t_storeN (i := 0) rfl rfl rfl sz_55 rfl rfl rfl) ?_
                          iterate 2 refine GL.as_ rfl rfl ?_
                          refine GL.nl_ ?_; refine GC.know (q := Pers.row Kd.u8 none []) (fun _ _ _ => .inl rfl) ?_; refine GC.ret ?_
                          refine fun a w h => Fin.back (rs := [.cell 4 55, .tmp 5, .tmp 6]) (vs := [_, _, _]) (is := []) (js := [0]) rfl ⟨⟨0, _, _, _, _, rfl, rfl, .inr ⟨[_, _, _], rfl, ag_55, sz_55, ⟨rfl, rfl, rfl, trivial⟩⟩⟩, rfl, rfl, trivial⟩ rfl rfl ?_ h
                          clear h
                          have e := rd4 (b := b) (by omega) (by omega) (by omega) ho
                          exact ⟨0, 0, none, [], 0, 0, by simp, by simp, fun h => by omega, by rw [e]; rfl, rfl, rfl⟩))))))))
end Go.Proofs.YtdhdmbmknpjhbaaGreat
namespace Go.Sx
open Go
section
variable {P : Program} {c : Cx} {n : Nat} {env env' : List (Nat × Value)} {G G' Gr : List Own} {Q Q' : List Pers} {d : Nat} {ty : TypeId} {pos : String} {aft : Array Edge} {x y : Operand} {a a' : Act} {w w' : World}
abbrev Cx.def_ (c : Cx) (f : FuncId) (us : List Value) : Cx := ⟨c.w0, c.S0, c.L0, [⟨.fn (.func f) us.toArray, #[]⟩]⟩
def FinD (P : Program) (fn : Func) (c : Cx) (R : Value → List Own → List Pers → Prop) : Exit → Asr := bodyPostD P fn (retOf c R)
theorem Ct.introD {f : FuncId} {fn : Func} {code : Code} {args : List Value} {R : Value → List Own → List Pers → Prop} (hf : P.funcs[f]? = some fn) (hb : fn.body = some code) (hn : fn.ntmps = n) (hl : Nat.ble args.length n = true)
    (h : ∀ c : Cx, c.L0 = keysOf G → c.D = [] → GC P (FinD P fn c R) code (St c n (enum 0 args) G Q)) : Ct P f args G Q R := by
  intro w S hh
  refine calls_of_wp_defers hf hb ?_
  have hl := Nat.le_of_ble_eq_true hl
  let c : Cx := ⟨w, S, keysOf G, []⟩
  refine Code.wp_mono ?_ (h c rfl rfl _ w ⟨S, ?_, hh, ?_⟩)
  · intro e a w' he
    exact he
  · refine ⟨⟨by simp [hn]; omega, fun i v hi => ?_⟩, rfl⟩
    obtain ⟨k, rfl, hk⟩ := look_enum args 0 i v hi
    rw [Nat.zero_add]
    have hlt : k < args.length := (List.getElem?_eq_some_iff.1 hk).1
    simp only [List.size_toArray]
    rw [Array.getElem?_append_left (by simpa using hlt)]
    simpa using hk
  · exact ⟨Fr.refl _ _, fun _ _ _ => Iff.rfl, fun k hk => .inl hk⟩
theorem FinD.of {fn : Func} {R : Value → List Own → List Pers → Prop} (hD : c.D = []) (h : Fin P fn c R .ret a w) : FinD P fn c R .ret a w := by
  obtain ⟨h1, h2⟩ := h hD
  show Leaves P fn a.tmps (retOf c R) a.defers .returning w
  rw [h1]
  exact h2
theorem FinD.back (hD : c.D = []) {fn : Func} {rs : List ResultVar} {vs : List Value} {is js : List Nat} {R : Value → List Own → List Pers → Prop} (hr : fn.results = rs.toArray) (hv : resV P env G rs vs) (hsel : sel G is = some (G', Gr)) (hq : pickQ Q js = some Q') (hR : R (tupV vs) G' Q') (h : St c n env G Q a w) : FinD P fn c R .ret a w :=
  FinD.of hD (Fin.back hr hv hsel hq hR h)
theorem GL.defer {ops : Array Oper} {X : Exit → Asr} {rest : List Oper} {f : FuncId} {us : List Value} {ts : Array TypeId} (hD : c.D = []) (hx : ev env x = some (.func (.func f) #[] us.toArray))
    (k : GL P ops X rest (St (c.def_ f us) n env G Q)) : GL P ops X (⟨none, .defer { callee := .value x, args := #[], argTypes := ts }, ty, pos, aft, none⟩ :: rest) (St c n env G Q) := by
  intro a w h
  refine wpList_plain rfl fun K hK => ?_
  unfold Oper.wp
  obtain ⟨S, he, hh, hrel⟩ := h
  have hrun : (execOp a.eval ⟨none, .defer { callee := .value x, args := #[], argTypes := ts }, ty, pos, aft, none⟩).run P w = .ok (.defer ⟨.fn (.func f) us.toArray, #[]⟩) w := by
    simp [execOp, resolve, he.eval hx, Deferred.ofValue]
  rw [hrun, Oper.upon_defer]
  refine hK _ _ (k _ w ⟨S, ⟨⟨he.size, he.has⟩, ?_⟩, hh, ⟨hrel.fr, hrel.old, hrel.key⟩⟩)
  show _ :: a.defers = _
  rw [he.defers, hD]
theorem FinD.back1 {f : FuncId} {us : List Value} (hf : Ent P f) (hi : ∀ w, CallsD P f us.toArray .returning w fun e u' w' => e = .returned (.tuple #[]) ∧ u' = .returning ∧ w' = w) {fn : Func} {rs : List ResultVar} {vs : List Value} {is js : List Nat} {R : Value → List Own → List Pers → Prop} (hr : fn.results = rs.toArray) (hv : resV P env G rs vs) (hsel : sel G is = some (G', Gr)) (hq : pickQ Q js = some Q') (hR : R (tupV vs) G' Q') (h : St (c.def_ f us) n env G Q a w) : FinD P fn c R .ret a w := by
  obtain ⟨S, he, hh, hrel⟩ := h
  have h0 : St ⟨c.w0, c.S0, c.L0, []⟩ n env G Q { a with defers := [] } w := ⟨S, ⟨⟨he.size, he.has⟩, rfl⟩, hh, ⟨hrel.fr, hrel.old, hrel.key⟩⟩
  obtain ⟨_, v, hrun, hret⟩ := Fin.back hr hv hsel hq hR h0 rfl
  show Leaves P fn a.tmps (retOf c R) a.defers .returning w
  have hd : a.defers = [⟨.fn (.func f) us.toArray, #[]⟩] := he.defers
  rw [hd]
  refine ⟨by simp, .func f, us.toArray, f, us.toArray, rfl, ?_, ?_⟩
  · have := hf us.toArray w
    simp only [invoke, Array.empty_append, this]
  · refine (hi w).mono ?_
    rintro e u' w' ⟨rfl, rfl, rfl⟩
    exact ⟨v, hrun, hret⟩
end
end Go.Sx
namespace Go.Proofs.YtdhdmbmknpjhbaaGreat
open Go Go.Sx Go.Proofs
def awM : Msg := ⟨5, 0, -5, 0, 3, 0, 0, 0, 0, 0, 0, zop, rz, zgr, zst, []⟩
abbrev lie0 : Lie := ⟨none, 0, none, 0, none, 0, none, 0, none, 0, none, 0, none, 0, none, 0⟩
abbrev awV : Value := .agg #[.int .u8 5, .int .i64 0, .int .i64 (-5), .int .i64 0, .int .i64 3, .int .i64 0, .int .i64 0, .int .i64 0, .int .u64 0, .int .i64 0, .int .i64 0, .int .u8 0, .int .i64 0, .int .i64 0, .slice none 0 0, .slice none 0 0, .int .u8 0, .slice none 0 0, .int .i64 0, .slice none 0 0, .int .i64 0, .int .i64 0, .int .i64 0, .slice none 0 0, .slice none 0 0, .int .i64 0, .slice none 0 0, .slice none 0 0]
theorem awM_len : MsgLen awM := ⟨by decide, by decide, by decide, by decide, ⟨by decide, by decide, by decide, by simp [awM, zst], by simp [awM, zst]⟩, by decide, by simp [awM]⟩
theorem nilq {q : Pers} (h : q ∈ msgQ awM lie0) : ∀ w S, q.h w S := by
  intro w S
  simp only [List.mem_cons, List.not_mem_nil, or_false] at h
  rcases h with rfl | rfl | rfl | rfl | rfl | rfl | rfl | rfl <;> exact .inl rfl
theorem parts_aw : Ct Tryz.prog 59 [awV] [] [] (fun u G Q => u = .int .u8 0 ∧ G = [] ∧ Q = []) :=
  Ct.qperm (Ct.mono (parts_ct awM lie0 awM_len) fun u G Q h => ⟨h.1.trans (congrArg (Value.int .u8) (by decide +kernel)), h.2⟩) fun q hq => .inr (nilq hq)
theorem wchk_aw : Ct Tryz.prog 12 [awV] [] [] (fun u G Q => u = .int .i64 0 ∧ G = [] ∧ Q = []) :=
  Ct.qperm (Ct.mono (wchk_ct awM lie0 awM_len) fun u G Q h => ⟨h.1.trans (congrArg (Value.int .i64) (by decide +kernel)), h.2⟩) fun q hq => .inr (nilq hq)
theorem wsame_aw : Ct Tryz.prog 14 [awV, awV] [] [] (fun u G Q => u = .bool true ∧ G = [] ∧ Q = []) :=
  Ct.qperm (Ct.mono (wsame_ct awM awM lie0 lie0 awM_len) fun u G Q h => ⟨h.1.trans (by simp), h.2⟩) fun q hq => by
    rcases List.mem_append.1 hq with hq | hq <;> exact .inr (nilq hq)
def awB : List UInt8 := [5] ++ flI 8 [0, 18446744073709551611, 0, 3, 0, 0, 0, 0, 0, 0] ++ [0] ++ leN 4 0
def awF : List UInt8 := frameB awB
theorem awB_len : awB.length = 86 := by decide
theorem awF_len : awF.length = 106 := by rw [awF, frameB_len, awB_len]
theorem body_aw : Ct Tryz.prog 45 [awV] [] [] (fun u G Q => ∃ A cp, awB.length ≤ cp ∧ cp ≤ 9223372036854775807 ∧ u = .tuple #[.slice A awB.length cp, .bool true] ∧ G = [rowOf A cp awB] ∧ Q = []) := by
 refine Ct.intro Tryz.func45 rfl rfl rfl (fun c hc => ?_)
 refine GC.sr_ ?_; refine GL.step rfl (t_box rfl rfl rfl) (GL.ex fun b_t1 => ?_)
 iterate 2 refine GL.as_ rfl rfl ?_
 refine GL.nl_ ?_; refine GC.sr_ ?_; refine GL.step rfl (t_mem rfl (m_loadN (i := 0) rfl rfl ag_42 (vs := [_, _, _, _, _, _, _, _, _, _, _, _, _, _, _, _, _, _, _, _, _, _, _, _, _, _, _, _]) sz_42 ⟨rfl, rfl, rfl, rfl, rfl, rfl, rfl, rfl, rfl, rfl, rfl, rfl, rfl, rfl, rfl, rfl, rfl, rfl, rfl, rfl, rfl, rfl, rfl, rfl, rfl, rfl, rfl, rfl, trivial⟩)) ?_
 refine GL.step rfl (t_call rfl fn_59 rfl (is := []) (js := []) rfl rfl (by exact parts_aw)) (GL.ret ?_)
 rintro _ _ _ ⟨rfl, rfl, rfl⟩
 refine GL.as_ rfl rfl ?_; refine GL.nl_ ?_; refine GC.sr_ ?_; refine GL.pure rfl (p_fieldAddr fo_42_0 rfl) ?_; refine GL.step rfl (t_mem rfl (m_load (i := 0) rfl rfl ag_22 rfl)) ?_; refine GL.step rfl (t_buildSlice rfl Tryz.underlying25 sz_5 ze_5 rfl rfl rfl rfl rfl rfl) (GL.ex fun b_t19 => ?_)
 refine GL.pure rfl (p_fieldAddr fo_42_1 rfl) ?_; refine GL.step rfl (t_mem rfl (m_load (i := 1) rfl rfl ag_3 rfl)) ?_; refine GL.pure rfl (p_convR (t := 3) (r := ((0 : Nat) : Int)) (by rw [Tryz.underlying3]; simp) Tryz.underlying23 rfl (by decide)) ?_
 refine GL.pure rfl (p_fieldAddr fo_42_2 rfl) ?_; refine GL.step rfl (t_mem rfl (m_load (i := 1) rfl rfl ag_3 rfl)) ?_; refine GL.pure rfl (p_convR (t := 3) (r := ((18446744073709551611 : Nat) : Int)) (by rw [Tryz.underlying3]; simp) Tryz.underlying23 rfl (by decide)) ?_
 refine GL.pure rfl (p_fieldAddr fo_42_3 rfl) ?_; refine GL.step rfl (t_mem rfl (m_load (i := 1) rfl rfl ag_3 rfl)) ?_; refine GL.pure rfl (p_convR (t := 3) (r := ((0 : Nat) : Int)) (by rw [Tryz.underlying3]; simp) Tryz.underlying23 rfl (by decide)) ?_
 refine GL.pure rfl (p_fieldAddr fo_42_4 rfl) ?_; refine GL.step rfl (t_mem rfl (m_load (i := 1) rfl rfl ag_3 rfl)) ?_; refine GL.pure rfl (p_convR (t := 3) (r := ((3 : Nat) : Int)) (by rw [Tryz.underlying3]; simp) Tryz.underlying23 rfl (by decide)) ?_
 refine GL.pure rfl (p_fieldAddr fo_42_5 rfl) ?_; refine GL.step rfl (t_mem rfl (m_load (i := 1) rfl rfl ag_3 rfl)) ?_; refine GL.pure rfl (p_convR (t := 3) (r := ((0 : Nat) : Int)) (by rw [Tryz.underlying3]; simp) Tryz.underlying23 rfl (by decide)) ?_
 refine GL.pure rfl (p_fieldAddr fo_42_6 rfl) ?_; refine GL.step rfl (t_mem rfl (m_load (i := 1) rfl rfl ag_3 rfl)) ?_; refine GL.pure rfl (p_convR (t := 3) (r := ((0 : Nat) : Int)) (by rw [Tryz.underlying3]; simp) Tryz.underlying23 rfl (by decide)) ?_
 refine GL.pure rfl (p_fieldAddr fo_42_7 rfl) ?_; refine GL.step rfl (t_mem rfl (m_load (i := 1) rfl rfl ag_3 rfl)) ?_; refine GL.pure rfl (p_convR (t := 3) (r := ((0 : Nat) : Int)) (by rw [Tryz.underlying3]; simp) Tryz.underlying23 rfl (by decide)) ?_
 refine GL.pure rfl (p_fieldAddr fo_42_8 rfl) ?_; refine GL.step rfl (t_mem rfl (m_load (i := 1) rfl rfl ag_23 rfl)) ?_; refine GL.pure rfl (p_fieldAddr fo_42_9 rfl) ?_; refine GL.step rfl (t_mem rfl (m_load (i := 1) rfl rfl ag_3 rfl)) ?_
 refine GL.pure rfl (p_convR (t := 3) (r := ((0 : Nat) : Int)) (by rw [Tryz.underlying3]; simp) Tryz.underlying23 rfl (by decide)) ?_; refine GL.pure rfl (p_fieldAddr fo_42_10 rfl) ?_; refine GL.step rfl (t_mem rfl (m_load (i := 1) rfl rfl ag_3 rfl)) ?_
 refine GL.pure rfl (p_convR (t := 3) (r := ((0 : Nat) : Int)) (by rw [Tryz.underlying3]; simp) Tryz.underlying23 rfl (by decide)) ?_; refine GL.freezeC (enc := u8v) (xs := [(5 : UInt8)]) (h1 := fun _ => rfl) (i := 0) rfl ?_
 refine GL.step rfl (t_buildSlice rfl Tryz.underlying126 sz_23 ze_23 rfl rfl rfl rfl rfl rfl) (GL.ex fun b_t49 => ?_); refine GL.freezeC (enc := uv) (xs := [0, 18446744073709551611, 0, 3, 0, 0, 0, 0, 0, 0]) (h1 := fun _ => rfl) (i := 0) rfl ?_
 refine GL.step rfl (t_call rfl fn_76 rfl (is := []) (js := [1, 0]) rfl rfl (by exact putall_ct _ [(5 : UInt8)] _ 8 _ [0, 18446744073709551611, 0, 3, 0, 0, 0, 0, 0, 0] _ (by omega) (by omega) (by simp) (by decide))) (GL.ret ?_)
 rintro _ _ _ ⟨A50, cp50, l50, k50, rfl, rfl, rfl⟩
 refine GL.mv_ rfl rfl ?_
 iterate 2 refine GL.pure rfl (p_extract rfl rfl) ?_
 iterate 2 refine GL.as_ rfl rfl ?_
 refine GL.nl_ ?_; refine GC.sr_ ?_
 iterate 2 refine GL.mv_ rfl rfl ?_
 refine GL.step rfl (t_buildSlice rfl Tryz.underlying25 sz_5 ze_5 rfl rfl rfl rfl rfl rfl) (GL.ex fun b_t55 => ?_); refine GL.step rfl (t_append (i := 1) (k := 0) rfl el_25 rfl rfl rfl rfl rfl (allOne_mem rfl) (by simp [leN_length, flI_length]) (fun _ => rfl)) (GL.ex fun v56 => ?_)
 refine GL.as_ rfl rfl ?_; refine GL.nl_ ?_; refine GC.sr_ ?_; refine GL.as_ rfl rfl ?_; refine GL.nl_ ?_; refine GC.seq' ?_; refine GC.sr_ ?_; refine GL.mv_ rfl rfl ?_; refine GL.pure rfl (p_and rfl rfl) ?_; refine GL.pure rfl (p_neq rfl rfl) ?_
 refine GL.nl_ ?_; refine GC.cond rfl (fun h1 => ?_) (fun h1 => ?_)
 ·try simp only [tst_] at h1
  exfalso; first | exact h1 (by decide) | exact absurd h1 (by decide)
 ·try simp only [tst_] at h1
  refine GC.skip (?_ : GC _ _ _ _)
  refine GC.seq' ?_; refine GC.sr_ ?_; refine GL.mv_ rfl rfl ?_; refine GL.pure rfl (p_and rfl rfl) ?_; refine GL.pure rfl (p_neq rfl rfl) ?_; refine GL.nl_ ?_; refine GC.cond rfl (fun h2 => ?_) (fun h2 => ?_)
  ·try simp only [tst_] at h2
   exfalso; first | exact h2 (by decide) | exact absurd h2 (by decide)
  ·try simp only [tst_] at h2
   refine GC.skip (?_ : GC _ _ _ _)
   refine GC.seq' ?_; refine GC.sr_ ?_; refine GL.mv_ rfl rfl ?_; refine GL.pure rfl (p_and rfl rfl) ?_; refine GL.pure rfl (p_neq rfl rfl) ?_; refine GL.nl_ ?_; refine GC.cond rfl (fun h3 => ?_) (fun h3 => ?_)
   ·try simp only [tst_] at h3
    exfalso; first | exact h3 (by decide) | exact absurd h3 (by decide)
   ·try simp only [tst_] at h3
    refine GC.skip (?_ : GC _ _ _ _)
    refine GC.seq' ?_; refine GC.sr_ ?_; refine GL.mv_ rfl rfl ?_; refine GL.pure rfl (p_and rfl rfl) ?_; refine GL.pure rfl (p_neq rfl rfl) ?_; refine GL.nl_ ?_; refine GC.cond rfl (fun h4 => ?_) (fun h4 => ?_)
    ·try simp only [tst_] at h4
     exfalso; first | exact h4 (by decide) | exact absurd h4 (by decide)
    ·try simp only [tst_] at h4
     refine GC.skip (?_ : GC _ _ _ _)
     refine GC.sr_ ?_; refine GL.mv_ rfl rfl ?_; refine GL.pure rfl (p_fieldAddr fo_42_15 rfl) ?_; refine GL.step rfl (t_mem rfl (m_load (i := 2) rfl rfl ag_40 rfl)) ?_; refine GL.pure rfl (p_len Tryz.underlying40 rfl) ?_
     refine GL.pure rfl (p_convR (t := 3) (r := ((0 : Nat) : Int)) (by rw [Tryz.underlying3]; simp) Tryz.underlying23 rfl (by decide)) ?_; refine GL.rowIs (i := 1) (m' := (([(5 : UInt8)] ++ flI 8 [0, 18446744073709551611, 0, 3, 0, 0, 0, 0, 0, 0] ++ [0])).length) (cs' := (([(5 : UInt8)] ++ flI 8 [0, 18446744073709551611, 0, 3, 0, 0, 0, 0, 0, 0] ++ [0])).map u8v) rfl (by first | (simp only [List.length_append, List.length_cons, List.length_nil, List.append_assoc]; done) | (simp only [List.length_append, List.length_cons, List.length_nil, List.append_assoc]; omega) | (simp [leN_length, flI_length]; done) | (simp [leN_length, flI_length]; omega) | rfl) (by first | (simp only [List.map_append, List.map_cons, List.map_nil, List.append_assoc]; done) | (simp [leN_length, flI_length]; done) | rfl) rfl ?_
     refine GL.shape (i := 1) rfl (fun A_pa50 c_pa50 e_pa50 l_pa50 k_pa50 => ?_)
     subst e_pa50
     refine GL.freezeB (i := 1) rfl ?_; refine GL.step rfl (t_call rfl fn_80 rfl (is := []) (js := [0]) rfl rfl (by exact oput_ct _ ([(5 : UInt8)] ++ flI 8 [0, 18446744073709551611, 0, 3, 0, 0, 0, 0, 0, 0] ++ [0]) _ 0 4 (by omega) (by omega) (by simp [flI_length]) (by decide))) (GL.ret ?_)
     rintro _ _ _ ⟨A137, cp137, l137, k137, rfl, rfl, rfl⟩
     refine GL.mv_ rfl rfl ?_
     iterate 2 refine GL.pure rfl (p_extract rfl rfl) ?_
     refine GL.as_ rfl rfl ?_; refine GL.nl_ ?_; refine GC.seq' ?_; refine GC.sr_ ?_; refine GL.pure rfl (p_fieldAddr fo_42_15 rfl) ?_; refine GL.step rfl (t_mem rfl (m_load (i := 2) rfl rfl ag_40 rfl)) ?_; refine GL.pure rfl (p_len Tryz.underlying40 rfl) ?_
     refine GL.mv_ rfl rfl ?_; refine GL.nl_ ?_; refine GC.block ?_; refine GC.loopK1 (ks := [141, 142]) (is := [0, 1, 2]) (js := [0, 1, 2]) (fun (u_ : Unit) => True) (fun (u_ : Unit) => [(5, .slice A137 ([(5 : UInt8)] ++ flI 8 [0, 18446744073709551611, 0, 3, 0, 0, 0, 0, 0, 0] ++ [0] ++ leN 4 0).length cp137), (143, .int .i64 0)]) (fun (u_ : Unit) => []) (fun (u_ : Unit) => []) (fun (u_ : Unit) => 0) (()) rfl rfl rfl (fun a w h => ⟨trivial, h.cutK (is := [0, 0, 0]) (js := [0, 1, 2]) (ks := [141, 142]) ⟨rfl, rfl, trivial⟩ rfl rfl rfl⟩) ?_
     intro u_ hI1
     try dsimp only [List.cons_append, List.nil_append] at hI1 ⊢
     refine GC.sr_ ?_; refine GL.pure rfl (p_lss rfl rfl) ?_; refine GL.nl_ ?_; refine GC.seq' ?_; refine GC.cond rfl (fun h5 => ?_) (fun h5 => ?_)
     ·try simp only [tst_] at h5
      exfalso; first | exact h5 (by decide) | exact absurd h5 (by decide)
     ·try simp only [tst_] at h5
      refine GC.exit (?_ : GC _ _ _ _)
      refine GC.sr_ ?_
      iterate 2 refine GL.mv_ rfl rfl ?_
      refine GL.pure rfl (p_len Tryz.underlying25 rfl) ?_; refine GL.pure rfl (p_leq rfl rfl) ?_
      iterate 2 refine GL.as_ rfl rfl ?_
      refine GL.nl_ ?_; refine GC.ret ?_
      refine fun a w h => Fin.back (rs := [.tmp 2, .tmp 3]) (vs := [_, _]) (is := [0]) (js := []) rfl ⟨rfl, rfl, trivial⟩ rfl rfl ?_ h
      clear h
      exact ⟨_, _, l137, k137, congrArg (fun b => Value.tuple #[.slice _ _ _, .bool b]) (decide_eq_true (by decide +kernel)), rfl, rfl⟩
theorem enc_aw : Ct Tryz.prog 16 [awV] [] [] (fun u G Q => ∃ A cp, awF.length ≤ cp ∧ cp ≤ 9223372036854775807 ∧ u = .tuple #[.slice A awF.length cp, .int .i64 0] ∧ G = [rowOf A cp awF] ∧ Q = []) := by
 refine Ct.intro Tryz.func16 rfl rfl rfl (fun c hc => ?_)
 refine GC.sr_ ?_; refine GL.step rfl (t_box rfl rfl rfl) (GL.ex fun b_t1 => ?_)
 iterate 2 refine GL.as_ rfl rfl ?_
 refine GL.nl_ ?_; refine GC.seq' ?_; refine GC.sr_ ?_; refine GL.step rfl (t_mem rfl (m_loadN (i := 0) rfl rfl ag_42 (vs := [_, _, _, _, _, _, _, _, _, _, _, _, _, _, _, _, _, _, _, _, _, _, _, _, _, _, _, _]) sz_42 ⟨rfl, rfl, rfl, rfl, rfl, rfl, rfl, rfl, rfl, rfl, rfl, rfl, rfl, rfl, rfl, rfl, rfl, rfl, rfl, rfl, rfl, rfl, rfl, rfl, rfl, rfl, rfl, rfl, trivial⟩)) ?_
 refine GL.step rfl (t_call rfl fn_12 rfl (is := []) (js := []) rfl rfl (by exact wchk_aw)) (GL.ret ?_)
 rintro _ _ _ ⟨rfl, rfl, rfl⟩
 refine GL.as_ rfl rfl ?_; refine GL.nl_ ?_; refine GC.sr_ ?_; refine GL.mv_ rfl rfl ?_; refine GL.pure rfl (p_neq rfl rfl) ?_; refine GL.nl_ ?_; refine GC.cond_false rfl ?_
 refine GC.skip (?_ : GC _ _ _ _)
 refine GC.sr_ ?_; refine GL.step rfl (t_mem rfl (m_loadN (i := 0) rfl rfl ag_42 (vs := [_, _, _, _, _, _, _, _, _, _, _, _, _, _, _, _, _, _, _, _, _, _, _, _, _, _, _, _]) sz_42 ⟨rfl, rfl, rfl, rfl, rfl, rfl, rfl, rfl, rfl, rfl, rfl, rfl, rfl, rfl, rfl, rfl, rfl, rfl, rfl, rfl, rfl, rfl, rfl, rfl, rfl, rfl, rfl, rfl, trivial⟩)) ?_
 refine GL.step rfl (t_call rfl fn_45 rfl (is := []) (js := []) rfl rfl (by exact body_aw)) (GL.ret ?_)
 rintro _ _ _ ⟨A14, cp14, l14, k14, rfl, rfl, rfl⟩
 refine GL.mv_ rfl rfl ?_
 iterate 2 refine GL.pure rfl (p_extract rfl rfl) ?_
 iterate 2 refine GL.as_ rfl rfl ?_
 refine GL.nl_ ?_; refine GC.seq' ?_; refine GC.sr_ ?_; refine GL.mv_ rfl rfl ?_; refine GL.pure rfl (p_not rfl) ?_; refine GL.nl_ ?_; refine GC.cond_false rfl ?_
 refine GC.skip (?_ : GC _ _ _ _)
 refine GC.sr_ ?_; refine GL.freezeB (i := 0) rfl ?_; refine GL.mv_ rfl rfl ?_; refine GL.pure rfl (p_build ze_55 of_55 rfl rfl) ?_; refine GL.step rfl (t_call rfl fn_46 rfl (is := []) (js := [0]) rfl rfl (by exact fwrite_ct _ awB _ (by rw [awB_len]; omega))) (GL.ret ?_)
 rintro _ _ _ ⟨A21, cp21, l21, k21, rfl, rfl, rfl⟩
 iterate 2 refine GL.pure rfl (p_extract rfl rfl) ?_
 iterate 2 refine GL.as_ rfl rfl ?_
 refine GL.nl_ ?_; refine GC.ret ?_
 refine fun a w h => Fin.back (rs := [.tmp 2, .tmp 3]) (vs := [_, _]) (is := [0]) (js := []) rfl ⟨rfl, rfl, trivial⟩ rfl rfl ?_ h
 clear h
 exact ⟨_, _, l21, k21, rfl, rfl, rfl⟩
end Go.Proofs.YtdhdmbmknpjhbaaGreat
namespace Go.Proofs.YtdhdmbmknpjhbaaGreat
open Go Go.Sx Go.Proofs
theorem seg_drop {α : Type} (b : List α) (n : Nat) : seg b n b.length = b.drop n := by simp [seg]
abbrev leftG (p e : Nat) (A : Option Addr) (b : List UInt8) (cp : Nat) : List Own := [.cells p [.slice A b.length cp] e]
theorem wtake_ok (p e_ : Nat) (A : Option Addr) (b : List UInt8) (cp n : Nat) (hn : n ≤ b.length) (hcp : b.length ≤ cp) : Ct Tryz.prog 97 [.pointer (some ⟨p, 0, none⟩), .int .i64 (n : Int), .int .i64 0] (leftG p e_ A b cp) [Pers.row Kd.u8 A b]
    (fun u G Q => ∃ A', u = .tuple #[] ∧ G = leftG p e_ A' (b.drop n) (cp - n) ∧ Q = [Pers.row Kd.u8 A' (b.drop n)]) := by
 refine Ct.intro Tryz.func97 rfl rfl rfl (fun c hc => ?_)
 refine GC.seq' ?_; refine GC.sr_ ?_; refine GL.mv_ rfl rfl ?_; refine GL.pure rfl (p_neq rfl rfl) ?_; refine GL.nl_ ?_; refine GC.cond_false rfl ?_
 refine GC.skip (?_ : GC _ _ _ _)
 refine GC.region ?_
 iterate 2 refine GL.mv_ rfl rfl ?_
 refine GL.pure rfl (p_nilCheck rfl) ?_; refine GL.pure rfl (p_fieldAddr fo_94_0 rfl) ?_; refine GL.step rfl (t_mem rfl (m_load (i := 0) rfl rfl ag_25 rfl)) ?_; refine GL.mv_ rfl rfl ?_; refine GL.step rfl (t_cut_l (j := 0) rfl rfl rfl rfl Tryz.underlying25 sz_5 (by omega) (by omega) (by omega)) ?_
 rw [show ((n : Int)).toNat = n from rfl, seg_drop]
 refine GL.pure rfl (p_nilCheck rfl) ?_; refine GL.pure rfl (p_fieldAddr fo_94_0 rfl) ?_; refine GL.step rfl (t_store (i := 0) rfl rfl rfl rfl sz_25 rfl rfl rfl) ?_; refine GL.nil ?_
 refine fun a w h => Fin.back0 rfl (is := [0]) (js := [0]) rfl rfl ?_ h
 clear h
 exact ⟨_, rfl, rfl, rfl⟩
theorem number_ok (p e_ : Nat) (A : Option Addr) (b : List UInt8) (cp n : Nat) (hn : 1 ≤ n) (hn' : n ≤ 8) (h : n ≤ b.length) (hcp : b.length ≤ cp) (hb : b.length ≤ 140737488355328) : Ct Tryz.prog 93 [.pointer (some ⟨p, 0, none⟩), .int .i64 (n : Int)] (leftG p e_ A b cp) [Pers.row Kd.u8 A b]
    (fun u G Q => ∃ A', u = .int .u64 ((valN (seg b 0 n) : Nat) : Int) ∧ G = leftG p e_ A' (b.drop n) (cp - n) ∧ Q = [Pers.row Kd.u8 A' (b.drop n)]) := by
 refine Ct.intro Tryz.func93 rfl rfl rfl (fun c hc => ?_)
 refine GC.sr_ ?_; refine GL.as_ rfl rfl ?_; refine GL.nl_ ?_; refine GC.sr_ ?_; refine GL.mv_ rfl rfl ?_; refine GL.pure rfl (p_nilCheck rfl) ?_; refine GL.pure rfl (p_fieldAddr fo_94_0 rfl) ?_; refine GL.step rfl (t_mem rfl (m_load (i := 0) rfl rfl ag_25 rfl)) ?_
 refine GL.mv_ rfl rfl ?_; refine GL.step rfl (t_call rfl fn_91 rfl (is := []) (js := [0]) rfl rfl (by exact get_ok _ b _ 0 n hn hn' hcp (by omega) (by omega))) (GL.ret ?_)
 rintro _ _ _ ⟨rfl, rfl, rfl⟩
 rw [Nat.zero_add]
 refine GL.mv_ rfl rfl ?_
 iterate 3 refine GL.pure rfl (p_extract rfl rfl) ?_
 iterate 3 refine GL.as_ rfl rfl ?_
 refine GL.nl_ ?_; refine GC.sr_ ?_
 iterate 3 refine GL.mv_ rfl rfl ?_
 refine GL.step rfl (t_call rfl fn_97 rfl (is := [0]) (js := [0]) rfl rfl (by exact wtake_ok _ _ _ b _ n h hcp)) (GL.ret ?_)
 rintro _ _ _ ⟨A21, rfl, rfl, rfl⟩
 refine GL.nl_ ?_; refine GC.sr_ ?_; refine GL.mv_ rfl rfl ?_; refine GL.as_ rfl rfl ?_; refine GL.nl_ ?_; refine GC.ret ?_
 refine fun a w h => Fin.back (rs := [.tmp 4]) (vs := [_]) (is := [0]) (js := [0]) rfl ⟨rfl, trivial⟩ rfl rfl ?_ h
 clear h
 exact ⟨_, rfl, rfl, rfl⟩
theorem num_aw (p e_ : Nat) (A : Option Addr) (cp i n v : Nat) (hv : valN (seg (awB.drop i) 0 n) = v) (h : 1 ≤ n ∧ n ≤ 8 ∧ i + n ≤ 86) (hcp : 86 ≤ cp + i) : Ct Tryz.prog 93 [.pointer (some ⟨p, 0, none⟩), .int .i64 (n : Int)] (leftG p e_ A (awB.drop i) cp) [Pers.row Kd.u8 A (awB.drop i)]
    (fun u G Q => ∃ A', u = .int .u64 (v : Int) ∧ G = leftG p e_ A' (awB.drop (i + n)) (cp - n) ∧ Q = [Pers.row Kd.u8 A' (awB.drop (i + n))]) := by
  have hl : (awB.drop i).length = 86 - i := by rw [List.length_drop, awB_len]
  have := number_ok p e_ A (awB.drop i) cp n (by omega) (by omega) (by omega) (by omega) (by omega)
  rw [hv, List.drop_drop] at this
  exact this
theorem small_aw (p e_ : Nat) (A : Option Addr) (cp i v : Nat) (hv : valN (seg (awB.drop i) 0 8) = v) (h : i + 8 ≤ 86) (hcp : 86 ≤ cp + i) (hs : v ≤ 4611686018427387904) : Ct Tryz.prog 94 [.pointer (some ⟨p, 0, none⟩)] (leftG p e_ A (awB.drop i) cp) [Pers.row Kd.u8 A (awB.drop i)]
    (fun u G Q => ∃ A', u = .int .i64 (v : Int) ∧ G = leftG p e_ A' (awB.drop (i + 8)) (cp - 8) ∧ Q = [Pers.row Kd.u8 A' (awB.drop (i + 8))]) := by
 refine Ct.intro Tryz.func94 rfl rfl rfl (fun c hc => ?_)
 refine GC.sr_ ?_; refine GL.as_ rfl rfl ?_; refine GL.nl_ ?_; refine GC.sr_ ?_; refine GL.mv_ rfl rfl ?_; refine GL.step rfl (t_call rfl fn_93 rfl (is := [0]) (js := [0]) rfl rfl (by exact num_aw _ _ _ _ i 8 v hv ⟨by omega, by omega, h⟩ hcp)) (GL.ret ?_)
 rintro _ _ _ ⟨A5, rfl, rfl, rfl⟩
 refine GL.as_ rfl rfl ?_; refine GL.nl_ ?_; refine GC.seq' ?_; refine GC.sr_ ?_; refine GL.mv_ rfl rfl ?_; refine GL.pure rfl (p_gtr rfl rfl) ?_; refine GL.nl_ ?_; refine GC.cond rfl (fun h1 => ?_) (fun h1 => ?_)
 ·try simp only [tst_] at h1
  exfalso; omega
 ·try simp only [tst_] at h1
  refine GC.skip (?_ : GC _ _ _ _)
  refine GC.sr_ ?_; refine GL.mv_ rfl rfl ?_; refine GL.pure rfl (p_convR (t := 23) (r := (v : Int)) (by rw [Tryz.underlying23]; simp) Tryz.underlying3 rfl (cvI (by omega) (by omega))) ?_
  refine GL.as_ rfl rfl ?_; refine GL.nl_ ?_; refine GC.ret ?_
  refine fun a w h => Fin.back (rs := [.tmp 2]) (vs := [_]) (is := [0]) (js := [0]) rfl ⟨rfl, trivial⟩ rfl rfl ?_ h
  clear h
  exact ⟨_, rfl, rfl, rfl⟩
theorem rparts_aw (p e_ q_ f_ : Nat) (A : Option Addr) (cp : Nat) (hcp : 86 ≤ cp + 81) (L : List Value) : Ct Tryz.prog 95 [.pointer (some ⟨p, 0, none⟩), .pointer (some ⟨q_, 0, none⟩)] (leftG p e_ A (awB.drop 81) cp ++ [.cells q_ L f_]) [Pers.row Kd.u8 A (awB.drop 81)]
    (fun u G Q => ∃ A', u = .tuple #[] ∧ G = leftG p e_ A' (awB.drop 82) (cp - 1) ++ [.cells q_ L f_] ∧ Q = [Pers.row Kd.u8 A' (awB.drop 82)]) := by
 refine Ct.intro Tryz.func95 rfl rfl rfl (fun c hc => ?_)
 refine GC.sr_ ?_; refine GL.mv_ rfl rfl ?_; refine GL.pure rfl (p_nilCheck rfl) ?_; refine GL.pure rfl (p_fieldAddr fo_96_0 rfl) ?_; refine GL.step rfl (t_call rfl fn_93 rfl (is := [0]) (js := [0]) rfl rfl (by exact num_aw _ _ _ _ 81 1 0 (by decide +kernel) (by decide) hcp)) (GL.ret ?_)
 rintro _ _ _ ⟨A17, rfl, rfl, rfl⟩
 refine GL.pure rfl (p_conv (t := 23) (by rw [Tryz.underlying23]; simp) Tryz.underlying5 rfl) ?_; refine GL.as_ rfl rfl ?_; refine GL.nl_ ?_; refine GC.seq' ?_; refine GC.sr_ ?_; refine GL.mv_ rfl rfl ?_; refine GL.pure rfl (p_and rfl rfl) ?_
 refine GL.pure rfl (p_neq rfl rfl) ?_; refine GL.nl_ ?_; refine GC.cond rfl (fun h1 => ?_) (fun h1 => ?_)
 ·try simp only [tst_] at h1
  exfalso; first | exact h1 (by decide) | exact absurd h1 (by decide)
 ·try simp only [tst_] at h1
  refine GC.skip (?_ : GC _ _ _ _)
  refine GC.seq' ?_; refine GC.sr_ ?_; refine GL.mv_ rfl rfl ?_; refine GL.pure rfl (p_and rfl rfl) ?_; refine GL.pure rfl (p_neq rfl rfl) ?_; refine GL.nl_ ?_; refine GC.cond rfl (fun h2 => ?_) (fun h2 => ?_)
  ·try simp only [tst_] at h2
   exfalso; first | exact h2 (by decide) | exact absurd h2 (by decide)
  ·try simp only [tst_] at h2
   refine GC.skip (?_ : GC _ _ _ _)
   refine GC.seq' ?_; refine GC.sr_ ?_; refine GL.mv_ rfl rfl ?_; refine GL.pure rfl (p_and rfl rfl) ?_; refine GL.pure rfl (p_neq rfl rfl) ?_; refine GL.nl_ ?_; refine GC.cond rfl (fun h3 => ?_) (fun h3 => ?_)
   ·try simp only [tst_] at h3
    exfalso; first | exact h3 (by decide) | exact absurd h3 (by decide)
   ·try simp only [tst_] at h3
    refine GC.skip (?_ : GC _ _ _ _)
    refine GC.sr_ ?_; refine GL.mv_ rfl rfl ?_; refine GL.pure rfl (p_and rfl rfl) ?_; refine GL.pure rfl (p_neq rfl rfl) ?_; refine GL.nl_ ?_; refine GC.cond rfl (fun h4 => ?_) (fun h4 => ?_)
    ·try simp only [tst_] at h4
     exfalso; first | exact h4 (by decide) | exact absurd h4 (by decide)
    ·try simp only [tst_] at h4
     refine GC.skip ?_
     refine fun a w h => Fin.back0 rfl (is := [0, 0]) (js := [0]) rfl rfl ?_ h
     clear h
     exact ⟨_, rfl, rfl, rfl⟩
end Go.Proofs.YtdhdmbmknpjhbaaGreat
