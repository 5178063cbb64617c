/- Texts of this claim, in one: what the law leans on (part 2). -/
import Derived.Test.YtdhdmbmknpjhbaaGreatQ1
set_option linter.unusedVariables false
set_option linter.unusedSimpArgs false
set_option maxRecDepth 100000
namespace Go.Proofs.YtdhdmbmknpjhbaaGreat
open Go Go.Sx Go.Proofs
theorem formR_ct (kind a_ n : Int) (A : Option Addr) (dl cp : Nat) (B : Option Addr) (ol cq : Nat) (hdl : dl ≤ 140737488355328) (hol : ol ≤ 140737488355328) : Ct Tryz.prog 28 [opV kind a_ n A dl cp B ol cq] [] [] (fun v G Q => v = .int .i64 (formE kind a_ n dl ol) ∧ G = [] ∧ Q = []) := by
 refine Ct.intro Tryz.func28 rfl rfl rfl (fun c hc => ?_)
 refine GC.seq' ?_
 refine GC.region ?_
 refine GL.step rfl (t_box rfl rfl rfl) (GL.ex fun b_t1 => ?_)
 refine GL.pure rfl (p_assign rfl) ?_
 refine GL.nil (?_ : GC _ _ _ _)
 refine GC.seq' ?_
 refine GC.seq' ?_
 refine GC.region ?_
 refine GL.pure rfl (p_fieldAddr fo_27_1 rfl) ?_
 refine GL.step rfl (t_mem rfl (m_load (i := 0) rfl rfl ag_3 rfl)) ?_
 refine GL.pure rfl (p_lss rfl rfl) ?_
 refine GL.pure rfl (p_move rfl) ?_
 refine GL.split (i := 7) rfl (fun h1 => ?_) (fun h1 => ?_)
 ·try simp only [tst_] at h1
  refine GL.pass (s := 7) rfl rfl rfl ?_
  refine GL.pass (s := 7) rfl rfl rfl ?_
  refine GL.pass (s := 7) rfl rfl rfl ?_
  refine GL.pure rfl (p_pick_true rfl rfl) ?_
  refine GL.pure rfl (p_move rfl) ?_
  refine GL.pass (s := 12) rfl rfl rfl ?_
  refine GL.pass (s := 12) rfl rfl rfl ?_
  refine GL.pass (s := 12) rfl rfl rfl ?_
  refine GL.pure rfl (p_pick_true rfl rfl) ?_
  refine GL.pure rfl (p_move rfl) ?_
  refine GL.pass (s := 17) rfl rfl rfl ?_
  refine GL.pass (s := 17) rfl rfl rfl ?_
  refine GL.pass (s := 17) rfl rfl rfl ?_
  refine GL.pure rfl (p_pick_true rfl rfl) ?_
  refine GL.pure rfl (p_move rfl) ?_
  refine GL.pass (s := 22) rfl rfl rfl ?_
  refine GL.pass (s := 22) rfl rfl rfl ?_
  refine GL.pass (s := 22) rfl rfl rfl ?_
  refine GL.pass (s := 22) rfl rfl rfl ?_
  refine GL.pure rfl (p_pick_true rfl rfl) ?_
  refine GL.pure rfl (p_move rfl) ?_
  refine GL.pass (s := 28) rfl rfl rfl ?_
  refine GL.pass (s := 28) rfl rfl rfl ?_
  refine GL.pass (s := 28) rfl rfl rfl ?_
  refine GL.pass (s := 28) rfl rfl rfl ?_
  refine GL.pure rfl (p_pick_true rfl rfl) ?_
  refine GL.nil (?_ : GC _ _ _ _)
  refine GC.cond_true rfl ?_
  refine GC.seq' ?_
  refine GC.region ?_
  refine GL.pure rfl (p_assign rfl) ?_
  refine GL.nil (?_ : GC _ _ _ _)
  refine GC.ret ?_
  refine fun a w h => Fin.back (rs := [.tmp 2]) (vs := [_]) (is := []) (js := []) rfl ⟨rfl, trivial⟩ rfl rfl ?_ h
  clear h
  refine ⟨congrArg (Value.int .i64) ?_, rfl, rfl⟩; first | (exfalso; omega) | (unfold formE; first | rw [if_pos (by simp only [formP, bareP] at *; omega)] | rw [if_neg (by simp only [formP, bareP] at *; omega)])
 ·try simp only [tst_] at h1
  refine GL.pureG (s := 7) rfl rfl rfl (p_fieldAddr fo_27_1 rfl) ?_
  refine GL.stepG rfl (s := 7) rfl rfl (t_mem rfl (m_load (i := 0) rfl rfl ag_3 rfl)) ?_
  refine GL.pureG (s := 7) rfl rfl rfl (p_gtr rfl rfl) ?_
  refine GL.pure rfl (p_pick_false rfl rfl) ?_
  refine GL.pure rfl (p_move rfl) ?_
  refine GL.split (i := 12) rfl (fun h2 => ?_) (fun h2 => ?_)
  ·try simp only [tst_] at h2
   refine GL.pass (s := 12) rfl rfl rfl ?_
   refine GL.pass (s := 12) rfl rfl rfl ?_
   refine GL.pass (s := 12) rfl rfl rfl ?_
   refine GL.pure rfl (p_pick_true rfl rfl) ?_
   refine GL.pure rfl (p_move rfl) ?_
   refine GL.pass (s := 17) rfl rfl rfl ?_
   refine GL.pass (s := 17) rfl rfl rfl ?_
   refine GL.pass (s := 17) rfl rfl rfl ?_
   refine GL.pure rfl (p_pick_true rfl rfl) ?_
   refine GL.pure rfl (p_move rfl) ?_
   refine GL.pass (s := 22) rfl rfl rfl ?_
   refine GL.pass (s := 22) rfl rfl rfl ?_
   refine GL.pass (s := 22) rfl rfl rfl ?_
   refine GL.pass (s := 22) rfl rfl rfl ?_
   refine GL.pure rfl (p_pick_true rfl rfl) ?_
   refine GL.pure rfl (p_move rfl) ?_
   refine GL.pass (s := 28) rfl rfl rfl ?_
   refine GL.pass (s := 28) rfl rfl rfl ?_
   refine GL.pass (s := 28) rfl rfl rfl ?_
   refine GL.pass (s := 28) rfl rfl rfl ?_
   refine GL.pure rfl (p_pick_true rfl rfl) ?_
   refine GL.nil (?_ : GC _ _ _ _)
   refine GC.cond_true rfl ?_
   refine GC.seq' ?_
   refine GC.region ?_
   refine GL.pure rfl (p_assign rfl) ?_
   refine GL.nil (?_ : GC _ _ _ _)
   refine GC.ret ?_
   refine fun a w h => Fin.back (rs := [.tmp 2]) (vs := [_]) (is := []) (js := []) rfl ⟨rfl, trivial⟩ rfl rfl ?_ h
   clear h
   refine ⟨congrArg (Value.int .i64) ?_, rfl, rfl⟩; first | (exfalso; omega) | (unfold formE; first | rw [if_pos (by simp only [formP, bareP] at *; omega)] | rw [if_neg (by simp only [formP, bareP] at *; omega)])
  ·try simp only [tst_] at h2
   refine GL.pureG (s := 12) rfl rfl rfl (p_fieldAddr fo_27_2 rfl) ?_
   refine GL.stepG rfl (s := 12) rfl rfl (t_mem rfl (m_load (i := 0) rfl rfl ag_3 rfl)) ?_
   refine GL.pureG (s := 12) rfl rfl rfl (p_lss rfl rfl) ?_
   refine GL.pure rfl (p_pick_false rfl rfl) ?_
   refine GL.pure rfl (p_move rfl) ?_
   refine GL.split (i := 17) rfl (fun h3 => ?_) (fun h3 => ?_)
   ·try simp only [tst_] at h3
    refine GL.pass (s := 17) rfl rfl rfl ?_
    refine GL.pass (s := 17) rfl rfl rfl ?_
    refine GL.pass (s := 17) rfl rfl rfl ?_
    refine GL.pure rfl (p_pick_true rfl rfl) ?_
    refine GL.pure rfl (p_move rfl) ?_
    refine GL.pass (s := 22) rfl rfl rfl ?_
    refine GL.pass (s := 22) rfl rfl rfl ?_
    refine GL.pass (s := 22) rfl rfl rfl ?_
    refine GL.pass (s := 22) rfl rfl rfl ?_
    refine GL.pure rfl (p_pick_true rfl rfl) ?_
    refine GL.pure rfl (p_move rfl) ?_
    refine GL.pass (s := 28) rfl rfl rfl ?_
    refine GL.pass (s := 28) rfl rfl rfl ?_
    refine GL.pass (s := 28) rfl rfl rfl ?_
    refine GL.pass (s := 28) rfl rfl rfl ?_
    refine GL.pure rfl (p_pick_true rfl rfl) ?_
    refine GL.nil (?_ : GC _ _ _ _)
    refine GC.cond_true rfl ?_
    refine GC.seq' ?_
    refine GC.region ?_
    refine GL.pure rfl (p_assign rfl) ?_
    refine GL.nil (?_ : GC _ _ _ _)
    refine GC.ret ?_
    refine fun a w h => Fin.back (rs := [.tmp 2]) (vs := [_]) (is := []) (js := []) rfl ⟨rfl, trivial⟩ rfl rfl ?_ h
    clear h
    refine ⟨congrArg (Value.int .i64) ?_, rfl, rfl⟩; first | (exfalso; omega) | (unfold formE; first | rw [if_pos (by simp only [formP, bareP] at *; omega)] | rw [if_neg (by simp only [formP, bareP] at *; omega)])
   ·try simp only [tst_] at h3
    refine GL.pureG (s := 17) rfl rfl rfl (p_fieldAddr fo_27_2 rfl) ?_
    refine GL.stepG rfl (s := 17) rfl rfl (t_mem rfl (m_load (i := 0) rfl rfl ag_3 rfl)) ?_
    refine GL.pureG (s := 17) rfl rfl rfl (p_gtr rfl rfl) ?_
    refine GL.pure rfl (p_pick_false rfl rfl) ?_
    refine GL.pure rfl (p_move rfl) ?_
    refine GL.split (i := 22) rfl (fun h4 => ?_) (fun h4 => ?_)
    ·try simp only [tst_] at h4
     refine GL.pass (s := 22) rfl rfl rfl ?_
     refine GL.pass (s := 22) rfl rfl rfl ?_
     refine GL.pass (s := 22) rfl rfl rfl ?_
     refine GL.pass (s := 22) rfl rfl rfl ?_
     refine GL.pure rfl (p_pick_true rfl rfl) ?_
     refine GL.pure rfl (p_move rfl) ?_
     refine GL.pass (s := 28) rfl rfl rfl ?_
     refine GL.pass (s := 28) rfl rfl rfl ?_
     refine GL.pass (s := 28) rfl rfl rfl ?_
     refine GL.pass (s := 28) rfl rfl rfl ?_
     refine GL.pure rfl (p_pick_true rfl rfl) ?_
     refine GL.nil (?_ : GC _ _ _ _)
     refine GC.cond_true rfl ?_
     refine GC.seq' ?_
     refine GC.region ?_
     refine GL.pure rfl (p_assign rfl) ?_
     refine GL.nil (?_ : GC _ _ _ _)
     refine GC.ret ?_
     refine fun a w h => Fin.back (rs := [.tmp 2]) (vs := [_]) (is := []) (js := []) rfl ⟨rfl, trivial⟩ rfl rfl ?_ h
     clear h
     refine ⟨congrArg (Value.int .i64) ?_, rfl, rfl⟩; first | (exfalso; omega) | (unfold formE; first | rw [if_pos (by simp only [formP, bareP] at *; omega)] | rw [if_neg (by simp only [formP, bareP] at *; omega)])
    ·try simp only [tst_] at h4
     refine GL.pureG (s := 22) rfl rfl rfl (p_fieldAddr fo_27_3 rfl) ?_
     refine GL.stepG rfl (s := 22) rfl rfl (t_mem rfl (m_load (i := 0) rfl rfl ag_25 rfl)) ?_
     refine GL.pureG (s := 22) rfl rfl rfl (p_len Tryz.underlying25 rfl) ?_
     refine GL.pureG (s := 22) rfl rfl rfl (p_gtr rfl rfl) ?_
     refine GL.pure rfl (p_pick_false rfl rfl) ?_
     refine GL.pure rfl (p_move rfl) ?_
     refine GL.split (i := 28) rfl (fun h5 => ?_) (fun h5 => ?_)
     ·try simp only [tst_] at h5
      refine GL.pass (s := 28) rfl rfl rfl ?_
      refine GL.pass (s := 28) rfl rfl rfl ?_
      refine GL.pass (s := 28) rfl rfl rfl ?_
      refine GL.pass (s := 28) rfl rfl rfl ?_
      refine GL.pure rfl (p_pick_true rfl rfl) ?_
      refine GL.nil (?_ : GC _ _ _ _)
      refine GC.cond_true rfl ?_
      refine GC.seq' ?_
      refine GC.region ?_
      refine GL.pure rfl (p_assign rfl) ?_
      refine GL.nil (?_ : GC _ _ _ _)
      refine GC.ret ?_
      refine fun a w h => Fin.back (rs := [.tmp 2]) (vs := [_]) (is := []) (js := []) rfl ⟨rfl, trivial⟩ rfl rfl ?_ h
      clear h
      refine ⟨congrArg (Value.int .i64) ?_, rfl, rfl⟩; first | (exfalso; omega) | (unfold formE; first | rw [if_pos (by simp only [formP, bareP] at *; omega)] | rw [if_neg (by simp only [formP, bareP] at *; omega)])
     ·try simp only [tst_] at h5
      refine GL.pureG (s := 28) rfl rfl rfl (p_fieldAddr fo_27_4 rfl) ?_
      refine GL.stepG rfl (s := 28) rfl rfl (t_mem rfl (m_load (i := 0) rfl rfl ag_25 rfl)) ?_
      refine GL.pureG (s := 28) rfl rfl rfl (p_len Tryz.underlying25 rfl) ?_
      refine GL.pureG (s := 28) rfl rfl rfl (p_gtr rfl rfl) ?_
      refine GL.pure rfl (p_pick_false rfl rfl) ?_
      refine GL.nil (?_ : GC _ _ _ _)
      refine GC.cond rfl (fun h6 => ?_) (fun h6 => ?_)
      ·try simp only [tst_] at h6
       refine GC.seq' ?_
       refine GC.region ?_
       refine GL.pure rfl (p_assign rfl) ?_
       refine GL.nil (?_ : GC _ _ _ _)
       refine GC.ret ?_
       refine fun a w h => Fin.back (rs := [.tmp 2]) (vs := [_]) (is := []) (js := []) rfl ⟨rfl, trivial⟩ rfl rfl ?_ h
       clear h
       refine ⟨congrArg (Value.int .i64) ?_, rfl, rfl⟩; first | (exfalso; omega) | (unfold formE; first | rw [if_pos (by simp only [formP, bareP] at *; omega)] | rw [if_neg (by simp only [formP, bareP] at *; omega)])
      ·try simp only [tst_] at h6
       refine GC.skip (?_ : GC _ _ _ _)
       refine GC.seq' ?_
       refine GC.region ?_
       refine GL.pure rfl (p_assign rfl) ?_
       refine GL.nil (?_ : GC _ _ _ _)
       refine GC.seq' ?_
       refine GC.seq' ?_
       refine GC.region ?_
       refine GL.pure rfl (p_fieldAddr fo_27_0 rfl) ?_
       refine GL.step rfl (t_mem rfl (m_load (i := 0) rfl rfl ag_24 rfl)) ?_
       refine GL.nil (?_ : GC _ _ _ _)
       refine GC.block ?_
       refine GC.seq' ?_
       refine GC.seq' ?_
       refine GC.region ?_
       refine GL.pure rfl (p_eql rfl rfl) ?_
       refine GL.pure rfl (p_assign rfl) ?_
       refine GL.nil (?_ : GC _ _ _ _)
       refine GC.cond rfl (fun h7 => ?_) (fun h7 => ?_)
       ·try simp only [tst_] at h7
        refine GC.skip (?_ : GC _ _ _ _)
        refine GC.cond rfl (fun h8 => ?_) (fun h8 => ?_)
        ·try simp only [tst_] at h8
         refine GC.region ?_
         refine GL.pure rfl (p_fieldAddr fo_27_3 rfl) ?_
         refine GL.step rfl (t_mem rfl (m_load (i := 0) rfl rfl ag_25 rfl)) ?_
         refine GL.pure rfl (p_len Tryz.underlying25 rfl) ?_
         refine GL.pure rfl (p_fieldAddr fo_27_4 rfl) ?_
         refine GL.step rfl (t_mem rfl (m_load (i := 0) rfl rfl ag_25 rfl)) ?_
         refine GL.pure rfl (p_len Tryz.underlying25 rfl) ?_
         refine GL.pure rfl (p_add rfl rfl (w64 (by omega) (by omega))) ?_
         refine GL.pure rfl (p_eql rfl rfl) ?_
         refine GL.pure rfl (p_assign rfl) ?_
         refine GL.nil (?_ : GC _ _ _ _)
         refine GC.seq' ?_
         refine GC.seq' ?_
         refine GC.region ?_
         refine GL.pure rfl (p_move rfl) ?_
         refine GL.pure rfl (p_not rfl) ?_
         refine GL.nil (?_ : GC _ _ _ _)
         refine GC.cond rfl (fun h9 => ?_) (fun h9 => ?_)
         ·try simp only [tst_] at h9
          refine GC.seq' ?_
          refine GC.region ?_
          refine GL.pure rfl (p_assign rfl) ?_
          refine GL.nil (?_ : GC _ _ _ _)
          refine GC.ret ?_
          refine fun a w h => Fin.back (rs := [.tmp 2]) (vs := [_]) (is := []) (js := []) rfl ⟨rfl, trivial⟩ rfl rfl ?_ h
          clear h
          refine ⟨congrArg (Value.int .i64) ?_, rfl, rfl⟩; first | (exfalso; omega) | (unfold formE; first | rw [if_pos (by simp only [formP, bareP] at *; omega)] | rw [if_neg (by simp only [formP, bareP] at *; omega)])
         ·try simp only [tst_] at h9
          refine GC.skip (?_ : GC _ _ _ _)
          refine GC.seq' ?_
          refine GC.region ?_
          refine GL.pure rfl (p_assign rfl) ?_
          refine GL.nil (?_ : GC _ _ _ _)
          refine GC.ret ?_
          refine fun a w h => Fin.back (rs := [.tmp 2]) (vs := [_]) (is := []) (js := []) rfl ⟨rfl, trivial⟩ rfl rfl ?_ h
          clear h
          refine ⟨congrArg (Value.int .i64) ?_, rfl, rfl⟩; first | (exfalso; omega) | (unfold formE; first | rw [if_pos (by simp only [formP, bareP] at *; omega)] | rw [if_neg (by simp only [formP, bareP] at *; omega)])
        ·try simp only [tst_] at h8
         refine GC.seq' ?_
         refine GC.region ?_
         refine GL.pure rfl (p_eql rfl rfl) ?_
         refine GL.pure rfl (p_assign rfl) ?_
         refine GL.nil (?_ : GC _ _ _ _)
         refine GC.cond rfl (fun h10 => ?_) (fun h10 => ?_)
         ·try simp only [tst_] at h10
          refine GC.region ?_
          refine GL.pure rfl (p_fieldAddr fo_27_4 rfl) ?_
          refine GL.step rfl (t_mem rfl (m_load (i := 0) rfl rfl ag_25 rfl)) ?_
          refine GL.pure rfl (p_len Tryz.underlying25 rfl) ?_
          refine GL.pure rfl (p_eql rfl rfl) ?_
          refine GL.pure rfl (p_assign rfl) ?_
          refine GL.nil (?_ : GC _ _ _ _)
          refine GC.seq' ?_
          refine GC.seq' ?_
          refine GC.region ?_
          refine GL.pure rfl (p_move rfl) ?_
          refine GL.pure rfl (p_not rfl) ?_
          refine GL.nil (?_ : GC _ _ _ _)
          refine GC.cond rfl (fun h11 => ?_) (fun h11 => ?_)
          ·try simp only [tst_] at h11
           refine GC.seq' ?_
           refine GC.region ?_
           refine GL.pure rfl (p_assign rfl) ?_
           refine GL.nil (?_ : GC _ _ _ _)
           refine GC.ret ?_
           refine fun a w h => Fin.back (rs := [.tmp 2]) (vs := [_]) (is := []) (js := []) rfl ⟨rfl, trivial⟩ rfl rfl ?_ h
           clear h
           refine ⟨congrArg (Value.int .i64) ?_, rfl, rfl⟩; first | (exfalso; omega) | (unfold formE; first | rw [if_pos (by simp only [formP, bareP] at *; omega)] | rw [if_neg (by simp only [formP, bareP] at *; omega)])
          ·try simp only [tst_] at h11
           refine GC.skip (?_ : GC _ _ _ _)
           refine GC.seq' ?_
           refine GC.region ?_
           refine GL.pure rfl (p_assign rfl) ?_
           refine GL.nil (?_ : GC _ _ _ _)
           refine GC.ret ?_
           refine fun a w h => Fin.back (rs := [.tmp 2]) (vs := [_]) (is := []) (js := []) rfl ⟨rfl, trivial⟩ rfl rfl ?_ h
           clear h
           refine ⟨congrArg (Value.int .i64) ?_, rfl, rfl⟩; first | (exfalso; omega) | (unfold formE; first | rw [if_pos (by simp only [formP, bareP] at *; omega)] | rw [if_neg (by simp only [formP, bareP] at *; omega)])
         ·try simp only [tst_] at h10
          refine GC.seq' ?_
          refine GC.region ?_
          refine GL.pure rfl (p_eql rfl rfl) ?_
          refine GL.pure rfl (p_assign rfl) ?_
          refine GL.nil (?_ : GC _ _ _ _)
          refine GC.cond rfl (fun h12 => ?_) (fun h12 => ?_)
          ·try simp only [tst_] at h12
           refine GC.region ?_
           refine GL.pure rfl (p_fieldAddr fo_27_2 rfl) ?_
           refine GL.step rfl (t_mem rfl (m_load (i := 0) rfl rfl ag_3 rfl)) ?_
           refine GL.pure rfl (p_eql rfl rfl) ?_
           refine GL.pure rfl (p_assign rfl) ?_
           refine GL.nil (?_ : GC _ _ _ _)
           refine GC.seq' ?_
           refine GC.seq' ?_
           refine GC.region ?_
           refine GL.pure rfl (p_move rfl) ?_
           refine GL.pure rfl (p_not rfl) ?_
           refine GL.nil (?_ : GC _ _ _ _)
           refine GC.cond rfl (fun h13 => ?_) (fun h13 => ?_)
           ·try simp only [tst_] at h13
            refine GC.seq' ?_
            refine GC.region ?_
            refine GL.pure rfl (p_assign rfl) ?_
            refine GL.nil (?_ : GC _ _ _ _)
            refine GC.ret ?_
            refine fun a w h => Fin.back (rs := [.tmp 2]) (vs := [_]) (is := []) (js := []) rfl ⟨rfl, trivial⟩ rfl rfl ?_ h
            clear h
            refine ⟨congrArg (Value.int .i64) ?_, rfl, rfl⟩; first | (exfalso; omega) | (unfold formE; first | rw [if_pos (by simp only [formP, bareP] at *; omega)] | rw [if_neg (by simp only [formP, bareP] at *; omega)])
           ·try simp only [tst_] at h13
            refine GC.skip (?_ : GC _ _ _ _)
            refine GC.seq' ?_
            refine GC.region ?_
            refine GL.pure rfl (p_assign rfl) ?_
            refine GL.nil (?_ : GC _ _ _ _)
            refine GC.ret ?_
            refine fun a w h => Fin.back (rs := [.tmp 2]) (vs := [_]) (is := []) (js := []) rfl ⟨rfl, trivial⟩ rfl rfl ?_ h
            clear h
            refine ⟨congrArg (Value.int .i64) ?_, rfl, rfl⟩; first | (exfalso; omega) | (unfold formE; first | rw [if_pos (by simp only [formP, bareP] at *; omega)] | rw [if_neg (by simp only [formP, bareP] at *; omega)])
          ·try simp only [tst_] at h12
           refine GC.seq' ?_
           refine GC.region ?_
           refine GL.pure rfl (p_eql rfl rfl) ?_
           refine GL.pure rfl (p_assign rfl) ?_
           refine GL.nil (?_ : GC _ _ _ _)
           refine GC.cond rfl (fun h14 => ?_) (fun h14 => ?_)
           ·try simp only [tst_] at h14
            refine GC.region ?_
            refine GL.pure rfl (p_fieldAddr fo_27_1 rfl) ?_
            refine GL.step rfl (t_mem rfl (m_load (i := 0) rfl rfl ag_3 rfl)) ?_
            refine GL.pure rfl (p_eql rfl rfl) ?_
            refine GL.pure rfl (p_move rfl) ?_
            refine GL.split (i := 63) rfl (fun h15 => ?_) (fun h15 => ?_)
            ·try simp only [tst_] at h15
             refine GL.pureG (s := 63) rfl rfl rfl (p_fieldAddr fo_27_2 rfl) ?_
             refine GL.stepG rfl (s := 63) rfl rfl (t_mem rfl (m_load (i := 0) rfl rfl ag_3 rfl)) ?_
             refine GL.pureG (s := 63) rfl rfl rfl (p_eql rfl rfl) ?_
             refine GL.pure rfl (p_pick_true rfl rfl) ?_
             refine GL.pure rfl (p_move rfl) ?_
             refine GL.split (i := 68) rfl (fun h16 => ?_) (fun h16 => ?_)
             ·try simp only [tst_] at h16
              refine GL.pureG (s := 68) rfl rfl rfl (p_fieldAddr fo_27_3 rfl) ?_
              refine GL.stepG rfl (s := 68) rfl rfl (t_mem rfl (m_load (i := 0) rfl rfl ag_25 rfl)) ?_
              refine GL.pureG (s := 68) rfl rfl rfl (p_len Tryz.underlying25 rfl) ?_
              refine GL.pureG (s := 68) rfl rfl rfl (p_fieldAddr fo_27_4 rfl) ?_
              refine GL.stepG rfl (s := 68) rfl rfl (t_mem rfl (m_load (i := 0) rfl rfl ag_25 rfl)) ?_
              refine GL.pureG (s := 68) rfl rfl rfl (p_len Tryz.underlying25 rfl) ?_
              refine GL.pureG (s := 68) rfl rfl rfl (p_add rfl rfl (w64 (by omega) (by omega))) ?_
              refine GL.pureG (s := 68) rfl rfl rfl (p_eql rfl rfl) ?_
              refine GL.pure rfl (p_pick_true rfl rfl) ?_
              refine GL.pure rfl (p_assign rfl) ?_
              refine GL.nil (?_ : GC _ _ _ _)
              refine GC.seq' ?_
              refine GC.seq' ?_
              refine GC.region ?_
              refine GL.pure rfl (p_move rfl) ?_
              refine GL.pure rfl (p_not rfl) ?_
              refine GL.nil (?_ : GC _ _ _ _)
              refine GC.cond rfl (fun h17 => ?_) (fun h17 => ?_)
              ·try simp only [tst_] at h17
               refine GC.seq' ?_
               refine GC.region ?_
               refine GL.pure rfl (p_assign rfl) ?_
               refine GL.nil (?_ : GC _ _ _ _)
               refine GC.ret ?_
               refine fun a w h => Fin.back (rs := [.tmp 2]) (vs := [_]) (is := []) (js := []) rfl ⟨rfl, trivial⟩ rfl rfl ?_ h
               clear h
               refine ⟨congrArg (Value.int .i64) ?_, rfl, rfl⟩; first | (exfalso; omega) | (unfold formE; first | rw [if_pos (by simp only [formP, bareP] at *; omega)] | rw [if_neg (by simp only [formP, bareP] at *; omega)])
              ·try simp only [tst_] at h17
               refine GC.skip (?_ : GC _ _ _ _)
               refine GC.seq' ?_
               refine GC.region ?_
               refine GL.pure rfl (p_assign rfl) ?_
               refine GL.nil (?_ : GC _ _ _ _)
               refine GC.ret ?_
               refine fun a w h => Fin.back (rs := [.tmp 2]) (vs := [_]) (is := []) (js := []) rfl ⟨rfl, trivial⟩ rfl rfl ?_ h
               clear h
               refine ⟨congrArg (Value.int .i64) ?_, rfl, rfl⟩; first | (exfalso; omega) | (unfold formE; first | rw [if_pos (by simp only [formP, bareP] at *; omega)] | rw [if_neg (by simp only [formP, bareP] at *; omega)])
             ·try simp only [tst_] at h16
              refine GL.pass (s := 68) rfl rfl rfl ?_
              refine GL.pass (s := 68) rfl rfl rfl ?_
              refine GL.pass (s := 68) rfl rfl rfl ?_
              refine GL.pass (s := 68) rfl rfl rfl ?_
              refine GL.pass (s := 68) rfl rfl rfl ?_
              refine GL.pass (s := 68) rfl rfl rfl ?_
              refine GL.pass (s := 68) rfl rfl rfl ?_
              refine GL.pass (s := 68) rfl rfl rfl ?_
              refine GL.pure rfl (p_pick_false rfl rfl) ?_
              refine GL.pure rfl (p_assign rfl) ?_
              refine GL.nil (?_ : GC _ _ _ _)
              refine GC.seq' ?_
              refine GC.seq' ?_
              refine GC.region ?_
              refine GL.pure rfl (p_move rfl) ?_
              refine GL.pure rfl (p_not rfl) ?_
              refine GL.nil (?_ : GC _ _ _ _)
              refine GC.cond_true rfl ?_
              refine GC.seq' ?_
              refine GC.region ?_
              refine GL.pure rfl (p_assign rfl) ?_
              refine GL.nil (?_ : GC _ _ _ _)
              refine GC.ret ?_
              refine fun a w h => Fin.back (rs := [.tmp 2]) (vs := [_]) (is := []) (js := []) rfl ⟨rfl, trivial⟩ rfl rfl ?_ h
              clear h
              refine ⟨congrArg (Value.int .i64) ?_, rfl, rfl⟩; first | (exfalso; omega) | (unfold formE; first | rw [if_pos (by simp only [formP, bareP] at *; omega)] | rw [if_neg (by simp only [formP, bareP] at *; omega)])
            ·try simp only [tst_] at h15
             refine GL.pass (s := 63) rfl rfl rfl ?_
             refine GL.pass (s := 63) rfl rfl rfl ?_
             refine GL.pass (s := 63) rfl rfl rfl ?_
             refine GL.pure rfl (p_pick_false rfl rfl) ?_
             refine GL.pure rfl (p_move rfl) ?_
             refine GL.pass (s := 68) rfl rfl rfl ?_
             refine GL.pass (s := 68) rfl rfl rfl ?_
             refine GL.pass (s := 68) rfl rfl rfl ?_
             refine GL.pass (s := 68) rfl rfl rfl ?_
             refine GL.pass (s := 68) rfl rfl rfl ?_
             refine GL.pass (s := 68) rfl rfl rfl ?_
             refine GL.pass (s := 68) rfl rfl rfl ?_
             refine GL.pass (s := 68) rfl rfl rfl ?_
             refine GL.pure rfl (p_pick_false rfl rfl) ?_
             refine GL.pure rfl (p_assign rfl) ?_
             refine GL.nil (?_ : GC _ _ _ _)
             refine GC.seq' ?_
             refine GC.seq' ?_
             refine GC.region ?_
             refine GL.pure rfl (p_move rfl) ?_
             refine GL.pure rfl (p_not rfl) ?_
             refine GL.nil (?_ : GC _ _ _ _)
             refine GC.cond_true rfl ?_
             refine GC.seq' ?_
             refine GC.region ?_
             refine GL.pure rfl (p_assign rfl) ?_
             refine GL.nil (?_ : GC _ _ _ _)
             refine GC.ret ?_
             refine fun a w h => Fin.back (rs := [.tmp 2]) (vs := [_]) (is := []) (js := []) rfl ⟨rfl, trivial⟩ rfl rfl ?_ h
             clear h
             refine ⟨congrArg (Value.int .i64) ?_, rfl, rfl⟩; first | (exfalso; omega) | (unfold formE; first | rw [if_pos (by simp only [formP, bareP] at *; omega)] | rw [if_neg (by simp only [formP, bareP] at *; omega)])
           ·try simp only [tst_] at h14
            refine GC.region ?_
            refine GL.pure rfl (p_assign rfl) ?_
            refine GL.nil (?_ : GC _ _ _ _)
            refine GC.seq' ?_
            refine GC.seq' ?_
            refine GC.region ?_
            refine GL.pure rfl (p_move rfl) ?_
            refine GL.pure rfl (p_not rfl) ?_
            refine GL.nil (?_ : GC _ _ _ _)
            refine GC.cond_true rfl ?_
            refine GC.seq' ?_
            refine GC.region ?_
            refine GL.pure rfl (p_assign rfl) ?_
            refine GL.nil (?_ : GC _ _ _ _)
            refine GC.ret ?_
            refine fun a w h => Fin.back (rs := [.tmp 2]) (vs := [_]) (is := []) (js := []) rfl ⟨rfl, trivial⟩ rfl rfl ?_ h
            clear h
            refine ⟨congrArg (Value.int .i64) ?_, rfl, rfl⟩; first | (exfalso; omega) | (unfold formE; first | rw [if_pos (by simp only [formP, bareP] at *; omega)] | rw [if_neg (by simp only [formP, bareP] at *; omega)])
       ·try simp only [tst_] at h7
        refine GC.region ?_
        refine GL.pure rfl (p_eql rfl rfl) ?_
        refine GL.pure rfl (p_assign rfl) ?_
        refine GL.nil (?_ : GC _ _ _ _)
        refine GC.cond rfl (fun h18 => ?_) (fun h18 => ?_)
        ·try simp only [tst_] at h18
         refine GC.region ?_
         refine GL.pure rfl (p_fieldAddr fo_27_3 rfl) ?_
         refine GL.step rfl (t_mem rfl (m_load (i := 0) rfl rfl ag_25 rfl)) ?_
         refine GL.pure rfl (p_len Tryz.underlying25 rfl) ?_
         refine GL.pure rfl (p_fieldAddr fo_27_4 rfl) ?_
         refine GL.step rfl (t_mem rfl (m_load (i := 0) rfl rfl ag_25 rfl)) ?_
         refine GL.pure rfl (p_len Tryz.underlying25 rfl) ?_
         refine GL.pure rfl (p_add rfl rfl (w64 (by omega) (by omega))) ?_
         refine GL.pure rfl (p_eql rfl rfl) ?_
         refine GL.pure rfl (p_assign rfl) ?_
         refine GL.nil (?_ : GC _ _ _ _)
         refine GC.seq' ?_
         refine GC.seq' ?_
         refine GC.region ?_
         refine GL.pure rfl (p_move rfl) ?_
         refine GL.pure rfl (p_not rfl) ?_
         refine GL.nil (?_ : GC _ _ _ _)
         refine GC.cond rfl (fun h19 => ?_) (fun h19 => ?_)
         ·try simp only [tst_] at h19
          refine GC.seq' ?_
          refine GC.region ?_
          refine GL.pure rfl (p_assign rfl) ?_
          refine GL.nil (?_ : GC _ _ _ _)
          refine GC.ret ?_
          refine fun a w h => Fin.back (rs := [.tmp 2]) (vs := [_]) (is := []) (js := []) rfl ⟨rfl, trivial⟩ rfl rfl ?_ h
          clear h
          refine ⟨congrArg (Value.int .i64) ?_, rfl, rfl⟩; first | (exfalso; omega) | (unfold formE; first | rw [if_pos (by simp only [formP, bareP] at *; omega)] | rw [if_neg (by simp only [formP, bareP] at *; omega)])
         ·try simp only [tst_] at h19
          refine GC.skip (?_ : GC _ _ _ _)
          refine GC.seq' ?_
          refine GC.region ?_
          refine GL.pure rfl (p_assign rfl) ?_
          refine GL.nil (?_ : GC _ _ _ _)
          refine GC.ret ?_
          refine fun a w h => Fin.back (rs := [.tmp 2]) (vs := [_]) (is := []) (js := []) rfl ⟨rfl, trivial⟩ rfl rfl ?_ h
          clear h
          refine ⟨congrArg (Value.int .i64) ?_, rfl, rfl⟩; first | (exfalso; omega) | (unfold formE; first | rw [if_pos (by simp only [formP, bareP] at *; omega)] | rw [if_neg (by simp only [formP, bareP] at *; omega)])
        ·try simp only [tst_] at h18
         refine GC.seq' ?_
         refine GC.region ?_
         refine GL.pure rfl (p_eql rfl rfl) ?_
         refine GL.pure rfl (p_assign rfl) ?_
         refine GL.nil (?_ : GC _ _ _ _)
         refine GC.cond rfl (fun h20 => ?_) (fun h20 => ?_)
         ·try simp only [tst_] at h20
          refine GC.region ?_
          refine GL.pure rfl (p_fieldAddr fo_27_4 rfl) ?_
          refine GL.step rfl (t_mem rfl (m_load (i := 0) rfl rfl ag_25 rfl)) ?_
          refine GL.pure rfl (p_len Tryz.underlying25 rfl) ?_
          refine GL.pure rfl (p_eql rfl rfl) ?_
          refine GL.pure rfl (p_assign rfl) ?_
          refine GL.nil (?_ : GC _ _ _ _)
          refine GC.seq' ?_
          refine GC.seq' ?_
          refine GC.region ?_
          refine GL.pure rfl (p_move rfl) ?_
          refine GL.pure rfl (p_not rfl) ?_
          refine GL.nil (?_ : GC _ _ _ _)
          refine GC.cond rfl (fun h21 => ?_) (fun h21 => ?_)
          ·try simp only [tst_] at h21
           refine GC.seq' ?_
           refine GC.region ?_
           refine GL.pure rfl (p_assign rfl) ?_
           refine GL.nil (?_ : GC _ _ _ _)
           refine GC.ret ?_
           refine fun a w h => Fin.back (rs := [.tmp 2]) (vs := [_]) (is := []) (js := []) rfl ⟨rfl, trivial⟩ rfl rfl ?_ h
           clear h
           refine ⟨congrArg (Value.int .i64) ?_, rfl, rfl⟩; first | (exfalso; omega) | (unfold formE; first | rw [if_pos (by simp only [formP, bareP] at *; omega)] | rw [if_neg (by simp only [formP, bareP] at *; omega)])
          ·try simp only [tst_] at h21
           refine GC.skip (?_ : GC _ _ _ _)
           refine GC.seq' ?_
           refine GC.region ?_
           refine GL.pure rfl (p_assign rfl) ?_
           refine GL.nil (?_ : GC _ _ _ _)
           refine GC.ret ?_
           refine fun a w h => Fin.back (rs := [.tmp 2]) (vs := [_]) (is := []) (js := []) rfl ⟨rfl, trivial⟩ rfl rfl ?_ h
           clear h
           refine ⟨congrArg (Value.int .i64) ?_, rfl, rfl⟩; first | (exfalso; omega) | (unfold formE; first | rw [if_pos (by simp only [formP, bareP] at *; omega)] | rw [if_neg (by simp only [formP, bareP] at *; omega)])
         ·try simp only [tst_] at h20
          refine GC.seq' ?_
          refine GC.region ?_
          refine GL.pure rfl (p_eql rfl rfl) ?_
          refine GL.pure rfl (p_assign rfl) ?_
          refine GL.nil (?_ : GC _ _ _ _)
          refine GC.cond rfl (fun h22 => ?_) (fun h22 => ?_)
          ·try simp only [tst_] at h22
           refine GC.region ?_
           refine GL.pure rfl (p_fieldAddr fo_27_2 rfl) ?_
           refine GL.step rfl (t_mem rfl (m_load (i := 0) rfl rfl ag_3 rfl)) ?_
           refine GL.pure rfl (p_eql rfl rfl) ?_
           refine GL.pure rfl (p_assign rfl) ?_
           refine GL.nil (?_ : GC _ _ _ _)
           refine GC.seq' ?_
           refine GC.seq' ?_
           refine GC.region ?_
           refine GL.pure rfl (p_move rfl) ?_
           refine GL.pure rfl (p_not rfl) ?_
           refine GL.nil (?_ : GC _ _ _ _)
           refine GC.cond rfl (fun h23 => ?_) (fun h23 => ?_)
           ·try simp only [tst_] at h23
            refine GC.seq' ?_
            refine GC.region ?_
            refine GL.pure rfl (p_assign rfl) ?_
            refine GL.nil (?_ : GC _ _ _ _)
            refine GC.ret ?_
            refine fun a w h => Fin.back (rs := [.tmp 2]) (vs := [_]) (is := []) (js := []) rfl ⟨rfl, trivial⟩ rfl rfl ?_ h
            clear h
            refine ⟨congrArg (Value.int .i64) ?_, rfl, rfl⟩; first | (exfalso; omega) | (unfold formE; first | rw [if_pos (by simp only [formP, bareP] at *; omega)] | rw [if_neg (by simp only [formP, bareP] at *; omega)])
           ·try simp only [tst_] at h23
            refine GC.skip (?_ : GC _ _ _ _)
            refine GC.seq' ?_
            refine GC.region ?_
            refine GL.pure rfl (p_assign rfl) ?_
            refine GL.nil (?_ : GC _ _ _ _)
            refine GC.ret ?_
            refine fun a w h => Fin.back (rs := [.tmp 2]) (vs := [_]) (is := []) (js := []) rfl ⟨rfl, trivial⟩ rfl rfl ?_ h
            clear h
            refine ⟨congrArg (Value.int .i64) ?_, rfl, rfl⟩; first | (exfalso; omega) | (unfold formE; first | rw [if_pos (by simp only [formP, bareP] at *; omega)] | rw [if_neg (by simp only [formP, bareP] at *; omega)])
          ·try simp only [tst_] at h22
           refine GC.seq' ?_
           refine GC.region ?_
           refine GL.pure rfl (p_eql rfl rfl) ?_
           refine GL.pure rfl (p_assign rfl) ?_
           refine GL.nil (?_ : GC _ _ _ _)
           refine GC.cond rfl (fun h24 => ?_) (fun h24 => ?_)
           ·try simp only [tst_] at h24
            refine GC.region ?_
            refine GL.pure rfl (p_fieldAddr fo_27_1 rfl) ?_
            refine GL.step rfl (t_mem rfl (m_load (i := 0) rfl rfl ag_3 rfl)) ?_
            refine GL.pure rfl (p_eql rfl rfl) ?_
            refine GL.pure rfl (p_move rfl) ?_
            refine GL.split (i := 63) rfl (fun h25 => ?_) (fun h25 => ?_)
            ·try simp only [tst_] at h25
             refine GL.pureG (s := 63) rfl rfl rfl (p_fieldAddr fo_27_2 rfl) ?_
             refine GL.stepG rfl (s := 63) rfl rfl (t_mem rfl (m_load (i := 0) rfl rfl ag_3 rfl)) ?_
             refine GL.pureG (s := 63) rfl rfl rfl (p_eql rfl rfl) ?_
             refine GL.pure rfl (p_pick_true rfl rfl) ?_
             refine GL.pure rfl (p_move rfl) ?_
             refine GL.split (i := 68) rfl (fun h26 => ?_) (fun h26 => ?_)
             ·try simp only [tst_] at h26
              refine GL.pureG (s := 68) rfl rfl rfl (p_fieldAddr fo_27_3 rfl) ?_
              refine GL.stepG rfl (s := 68) rfl rfl (t_mem rfl (m_load (i := 0) rfl rfl ag_25 rfl)) ?_
              refine GL.pureG (s := 68) rfl rfl rfl (p_len Tryz.underlying25 rfl) ?_
              refine GL.pureG (s := 68) rfl rfl rfl (p_fieldAddr fo_27_4 rfl) ?_
              refine GL.stepG rfl (s := 68) rfl rfl (t_mem rfl (m_load (i := 0) rfl rfl ag_25 rfl)) ?_
              refine GL.pureG (s := 68) rfl rfl rfl (p_len Tryz.underlying25 rfl) ?_
              refine GL.pureG (s := 68) rfl rfl rfl (p_add rfl rfl (w64 (by omega) (by omega))) ?_
              refine GL.pureG (s := 68) rfl rfl rfl (p_eql rfl rfl) ?_
              refine GL.pure rfl (p_pick_true rfl rfl) ?_
              refine GL.pure rfl (p_assign rfl) ?_
              refine GL.nil (?_ : GC _ _ _ _)
              refine GC.seq' ?_
              refine GC.seq' ?_
              refine GC.region ?_
              refine GL.pure rfl (p_move rfl) ?_
              refine GL.pure rfl (p_not rfl) ?_
              refine GL.nil (?_ : GC _ _ _ _)
              refine GC.cond rfl (fun h27 => ?_) (fun h27 => ?_)
              ·try simp only [tst_] at h27
               refine GC.seq' ?_
               refine GC.region ?_
               refine GL.pure rfl (p_assign rfl) ?_
               refine GL.nil (?_ : GC _ _ _ _)
               refine GC.ret ?_
               refine fun a w h => Fin.back (rs := [.tmp 2]) (vs := [_]) (is := []) (js := []) rfl ⟨rfl, trivial⟩ rfl rfl ?_ h
               clear h
               refine ⟨congrArg (Value.int .i64) ?_, rfl, rfl⟩; first | (exfalso; omega) | (unfold formE; first | rw [if_pos (by simp only [formP, bareP] at *; omega)] | rw [if_neg (by simp only [formP, bareP] at *; omega)])
              ·try simp only [tst_] at h27
               refine GC.skip (?_ : GC _ _ _ _)
               refine GC.seq' ?_
               refine GC.region ?_
               refine GL.pure rfl (p_assign rfl) ?_
               refine GL.nil (?_ : GC _ _ _ _)
               refine GC.ret ?_
               refine fun a w h => Fin.back (rs := [.tmp 2]) (vs := [_]) (is := []) (js := []) rfl ⟨rfl, trivial⟩ rfl rfl ?_ h
               clear h
               refine ⟨congrArg (Value.int .i64) ?_, rfl, rfl⟩; first | (exfalso; omega) | (unfold formE; first | rw [if_pos (by simp only [formP, bareP] at *; omega)] | rw [if_neg (by simp only [formP, bareP] at *; omega)])
             ·try simp only [tst_] at h26
              refine GL.pass (s := 68) rfl rfl rfl ?_
              refine GL.pass (s := 68) rfl rfl rfl ?_
              refine GL.pass (s := 68) rfl rfl rfl ?_
              refine GL.pass (s := 68) rfl rfl rfl ?_
              refine GL.pass (s := 68) rfl rfl rfl ?_
              refine GL.pass (s := 68) rfl rfl rfl ?_
              refine GL.pass (s := 68) rfl rfl rfl ?_
              refine GL.pass (s := 68) rfl rfl rfl ?_
              refine GL.pure rfl (p_pick_false rfl rfl) ?_
              refine GL.pure rfl (p_assign rfl) ?_
              refine GL.nil (?_ : GC _ _ _ _)
              refine GC.seq' ?_
              refine GC.seq' ?_
              refine GC.region ?_
              refine GL.pure rfl (p_move rfl) ?_
              refine GL.pure rfl (p_not rfl) ?_
              refine GL.nil (?_ : GC _ _ _ _)
              refine GC.cond_true rfl ?_
              refine GC.seq' ?_
              refine GC.region ?_
              refine GL.pure rfl (p_assign rfl) ?_
              refine GL.nil (?_ : GC _ _ _ _)
              refine GC.ret ?_
              refine fun a w h => Fin.back (rs := [.tmp 2]) (vs := [_]) (is := []) (js := []) rfl ⟨rfl, trivial⟩ rfl rfl ?_ h
              clear h
              refine ⟨congrArg (Value.int .i64) ?_, rfl, rfl⟩; first | (exfalso; omega) | (unfold formE; first | rw [if_pos (by simp only [formP, bareP] at *; omega)] | rw [if_neg (by simp only [formP, bareP] at *; omega)])
            ·try simp only [tst_] at h25
             refine GL.pass (s := 63) rfl rfl rfl ?_
             refine GL.pass (s := 63) rfl rfl rfl ?_
             refine GL.pass (s := 63) rfl rfl rfl ?_
             refine GL.pure rfl (p_pick_false rfl rfl) ?_
             refine GL.pure rfl (p_move rfl) ?_
             refine GL.pass (s := 68) rfl rfl rfl ?_
             refine GL.pass (s := 68) rfl rfl rfl ?_
             refine GL.pass (s := 68) rfl rfl rfl ?_
             refine GL.pass (s := 68) rfl rfl rfl ?_
             refine GL.pass (s := 68) rfl rfl rfl ?_
             refine GL.pass (s := 68) rfl rfl rfl ?_
             refine GL.pass (s := 68) rfl rfl rfl ?_
             refine GL.pass (s := 68) rfl rfl rfl ?_
             refine GL.pure rfl (p_pick_false rfl rfl) ?_
             refine GL.pure rfl (p_assign rfl) ?_
             refine GL.nil (?_ : GC _ _ _ _)
             refine GC.seq' ?_
             refine GC.seq' ?_
             refine GC.region ?_
             refine GL.pure rfl (p_move rfl) ?_
             refine GL.pure rfl (p_not rfl) ?_
             refine GL.nil (?_ : GC _ _ _ _)
             refine GC.cond_true rfl ?_
             refine GC.seq' ?_
             refine GC.region ?_
             refine GL.pure rfl (p_assign rfl) ?_
             refine GL.nil (?_ : GC _ _ _ _)
             refine GC.ret ?_
             refine fun a w h => Fin.back (rs := [.tmp 2]) (vs := [_]) (is := []) (js := []) rfl ⟨rfl, trivial⟩ rfl rfl ?_ h
             clear h
             refine ⟨congrArg (Value.int .i64) ?_, rfl, rfl⟩; first | (exfalso; omega) | (unfold formE; first | rw [if_pos (by simp only [formP, bareP] at *; omega)] | rw [if_neg (by simp only [formP, bareP] at *; omega)])
           ·try simp only [tst_] at h24
            refine GC.region ?_
            refine GL.pure rfl (p_assign rfl) ?_
            refine GL.nil (?_ : GC _ _ _ _)
            refine GC.seq' ?_
            refine GC.seq' ?_
            refine GC.region ?_
            refine GL.pure rfl (p_move rfl) ?_
            refine GL.pure rfl (p_not rfl) ?_
            refine GL.nil (?_ : GC _ _ _ _)
            refine GC.cond_true rfl ?_
            refine GC.seq' ?_
            refine GC.region ?_
            refine GL.pure rfl (p_assign rfl) ?_
            refine GL.nil (?_ : GC _ _ _ _)
            refine GC.ret ?_
            refine fun a w h => Fin.back (rs := [.tmp 2]) (vs := [_]) (is := []) (js := []) rfl ⟨rfl, trivial⟩ rfl rfl ?_ h
            clear h
            refine ⟨congrArg (Value.int .i64) ?_, rfl, rfl⟩; first | (exfalso; omega) | (unfold formE; first | rw [if_pos (by simp only [formP, bareP] at *; omega)] | rw [if_neg (by simp only [formP, bareP] at *; omega)])
theorem shape_eq (bl sz e : Int) (h : shapeE bl sz = e) : Ct Tryz.prog 172 [shpV bl sz] [] [] (fun v G Q => v = .int .i64 e ∧ G = [] ∧ Q = []) := h ▸ shape_ct bl sz
theorem mulB {x a y b : Int} (h0 : 0 ≤ x) (h1 : x ≤ a) (h2 : 0 ≤ y) (h3 : y ≤ b) : 0 ≤ x * y ∧ x * y ≤ a * b :=
  ⟨Int.mul_nonneg h0 h2, Int.mul_le_mul h1 h3 h2 (by omega)⟩
theorem shapeE_iff (bl sz : Int) : (shapeE bl sz = 0) ↔ shapeOk bl sz := by unfold shapeE; split <;> simp [*]
theorem formE_iff (k a n : Int) (x y : Nat) : (formE k a n x y = 0) ↔ formP k a n x y := by unfold formE; split <;> simp [*]
end Go.Proofs.YtdhdmbmknpjhbaaGreat
namespace Go.Proofs.YtdhdmbmknpjhbaaGreat
open Go Go.Sx Go.Proofs
theorem clone_ct (A : Option Addr) (xs : List UInt8) (cp : Nat) (hx : xs.length ≤ 140737488355328) : Ct Tryz.prog 182 [.slice A xs.length cp] [] [Pers.row Kd.u8 A xs]
    (fun v G Q => ∃ A' cp', xs.length ≤ cp' ∧ cp' ≤ 9223372036854775807 ∧ v = .slice A' xs.length cp' ∧ G = [.row (.slice A' xs.length cp') 5 1 xs.length (xs.map u8v)] ∧ Q = []) := by
 cases A with
 | none =>
   refine Ct.pure (fun w S h => row_none (h.per _ (List.mem_singleton.2 rfl))) fun hx0 => ?_
   subst hx0
   refine Ct.intro Tryz.func182 rfl rfl rfl (fun c hc => ?_)
   refine GC.seq' ?_
   refine GC.region ?_
   refine GL.pure rfl (p_assign rfl) ?_
   refine GL.nil (?_ : GC _ _ _ _)
   refine GC.seq' ?_
   refine GC.seq' ?_
   refine GC.region ?_
   refine GL.pure rfl (p_move rfl) ?_
   refine GL.pure rfl (p_slnil_eql Tryz.underlying25 rfl rfl) ?_
   refine GL.nil (?_ : GC _ _ _ _)
   refine GC.cond_true rfl ?_
   refine GC.seq' ?_
   refine GC.region ?_
   refine GL.pure rfl (p_assign rfl) ?_
   refine GL.nil (?_ : GC _ _ _ _)
   refine GC.nilrow 5 1 ?_
   refine GC.ret ?_
   refine fun a w h => Fin.back (rs := [.tmp 2]) (vs := [_]) (is := [0]) (js := []) rfl ⟨rfl, trivial⟩ rfl rfl ?_ h
   clear h
   exact ⟨_, _, by simp, by simp, rfl, rfl, rfl⟩
 | some a =>
   refine Ct.intro Tryz.func182 rfl rfl rfl (fun c hc => ?_)
   refine GC.seq' ?_
   refine GC.region ?_
   refine GL.pure rfl (p_assign rfl) ?_
   refine GL.nil (?_ : GC _ _ _ _)
   refine GC.seq' ?_
   refine GC.seq' ?_
   refine GC.region ?_
   refine GL.pure rfl (p_move rfl) ?_
   refine GL.pure rfl (p_slnil_eql Tryz.underlying25 rfl rfl) ?_
   refine GL.nil (?_ : GC _ _ _ _)
   refine GC.cond_false rfl ?_
   refine GC.skip (?_ : GC _ _ _ _)
   refine GC.seq' ?_
   refine GC.region ?_
   refine GL.step rfl (t_buildSlice rfl Tryz.underlying25 sz_5 ze_5 rfl rfl rfl rfl rfl rfl) (GL.ex fun b_t5 => ?_)
   refine GL.pure rfl (p_move rfl) ?_
   refine GL.torow (i := 0) (m := 0) (sz := 1) rfl rfl (by decide) rfl ?_
   refine GL.step rfl (t_appendS (i := 0) (k := 0) rfl el_25 rfl rfl rfl rfl (by simp; omega) (fun _ => rfl)) (GL.ex fun v7 => ?_)
   refine GL.pure rfl (p_assign rfl) ?_
   refine GL.nil (?_ : GC _ _ _ _)
   refine GC.shape (i := 0) rfl (fun A1 c1 e1 l1 l2 => ?_)
   subst e1
   simp only [Nat.zero_add, List.nil_append] at l1 ⊢
   refine GC.ret ?_
   refine fun a w h => Fin.back (rs := [.tmp 2]) (vs := [_]) (is := [0]) (js := []) rfl ⟨rfl, trivial⟩ rfl rfl ?_ h
   clear h
   exact ⟨_, _, l1, l2, rfl, rfl, rfl⟩
theorem str_eq (x y : List UInt8) : ((⟨x.toArray⟩ : ByteArray) = ⟨y.toArray⟩) = (x = y) := by
  simp
theorem equal_ct (A : Option Addr) (xs : List UInt8) (cp : Nat) (B : Option Addr) (ys : List UInt8) (cq : Nat) : Ct Tryz.prog 35 [.slice A xs.length cp, .slice B ys.length cq] [] [Pers.row Kd.u8 A xs, Pers.row Kd.u8 B ys]
    (fun v G Q => v = .bool (decide (xs = ys)) ∧ G = [] ∧ Q = []) := by
 refine Ct.intro Tryz.func35 rfl rfl rfl (fun c hc => ?_)
 refine GC.seq' ?_
 refine GC.region ?_
 refine GL.pure rfl (p_assign rfl) ?_
 refine GL.nil (?_ : GC _ _ _ _)
 refine GC.seq' ?_
 refine GC.region ?_
 refine GL.pure rfl (p_move rfl) ?_
 refine GL.step rfl (t_mem rfl (m_str (i := 0) rfl rfl Tryz.underlying25 Tryz.underlying5 Tryz.underlying9)) ?_
 refine GL.pure rfl (p_move rfl) ?_
 refine GL.step rfl (t_mem rfl (m_str (i := 1) rfl rfl Tryz.underlying25 Tryz.underlying5 Tryz.underlying9)) ?_
 refine GL.pure rfl (p_seql rfl rfl) ?_
 refine GL.pure rfl (p_assign rfl) ?_
 refine GL.nil (?_ : GC _ _ _ _)
 refine GC.ret ?_
 refine fun a w h => Fin.back (rs := [.tmp 4]) (vs := [_]) (is := []) (js := []) rfl ⟨rfl, trivial⟩ rfl rfl ?_ h
 clear h
 refine ⟨congrArg Value.bool ?_, rfl, rfl⟩; simp
def sameRes (r s : Res) : Bool := decide (r.code = s.code) && decide (r.data = s.data)
theorem same_ct (r s : Res) (A B : Option Addr) (cp cq : Nat) : Ct Tryz.prog 41 [.agg #[.int .u8 r.code, .slice A r.data.length cp], .agg #[.int .u8 s.code, .slice B s.data.length cq]] [] [Pers.row Kd.u8 A r.data, Pers.row Kd.u8 B s.data]
    (fun v G Q => v = .bool (sameRes r s) ∧ G = [] ∧ Q = []) := by
 refine Ct.intro Tryz.func41 rfl rfl rfl (fun c hc => ?_)
 refine GC.seq' ?_
 refine GC.region ?_
 refine GL.step rfl (t_box rfl rfl rfl) (GL.ex fun b_t2 => ?_)
 refine GL.step rfl (t_box rfl rfl rfl) (GL.ex fun b_t3 => ?_)
 refine GL.pure rfl (p_assign rfl) ?_
 refine GL.nil (?_ : GC _ _ _ _)
 refine GC.seq' ?_
 refine GC.region ?_
 refine GL.pure rfl (p_fieldAddr fo_30_0 rfl) ?_
 refine GL.step rfl (t_mem rfl (m_load (i := 1) rfl rfl ag_28 rfl)) ?_
 refine GL.pure rfl (p_fieldAddr fo_30_0 rfl) ?_
 refine GL.step rfl (t_mem rfl (m_load (i := 0) rfl rfl ag_28 rfl)) ?_
 refine GL.pure rfl (p_eql rfl rfl) ?_
 refine GL.pure rfl (p_move rfl) ?_
 refine GL.split (i := 10) rfl (fun h1 => ?_) (fun h1 => ?_)
 ·try simp only [tst_] at h1
  refine GL.pureG (s := 10) rfl rfl rfl (p_fieldAddr fo_30_1 rfl) ?_
  refine GL.stepG rfl (s := 10) rfl rfl (t_mem rfl (m_load (i := 1) rfl rfl ag_25 rfl)) ?_
  refine GL.stepG rfl (s := 10) rfl rfl (t_mem rfl (m_str (i := 0) rfl rfl Tryz.underlying25 Tryz.underlying5 Tryz.underlying9)) ?_
  refine GL.pureG (s := 10) rfl rfl rfl (p_fieldAddr fo_30_1 rfl) ?_
  refine GL.stepG rfl (s := 10) rfl rfl (t_mem rfl (m_load (i := 0) rfl rfl ag_25 rfl)) ?_
  refine GL.stepG rfl (s := 10) rfl rfl (t_mem rfl (m_str (i := 1) rfl rfl Tryz.underlying25 Tryz.underlying5 Tryz.underlying9)) ?_
  refine GL.pureG (s := 10) rfl rfl rfl (p_seql rfl rfl) ?_
  refine GL.pure rfl (p_pick_true rfl rfl) ?_
  refine GL.pure rfl (p_assign rfl) ?_
  refine GL.nil (?_ : GC _ _ _ _)
  refine GC.ret ?_
  refine fun a w h => Fin.back (rs := [.tmp 4]) (vs := [_]) (is := []) (js := []) rfl ⟨rfl, trivial⟩ rfl rfl ?_ h
  clear h
  refine ⟨congrArg Value.bool ?_, rfl, rfl⟩; simp [sameRes, *]
 ·try simp only [tst_] at h1
  refine GL.pass (s := 10) rfl rfl rfl ?_
  refine GL.pass (s := 10) rfl rfl rfl ?_
  refine GL.pass (s := 10) rfl rfl rfl ?_
  refine GL.pass (s := 10) rfl rfl rfl ?_
  refine GL.pass (s := 10) rfl rfl rfl ?_
  refine GL.pass (s := 10) rfl rfl rfl ?_
  refine GL.pass (s := 10) rfl rfl rfl ?_
  refine GL.pure rfl (p_pick_false rfl rfl) ?_
  refine GL.pure rfl (p_assign rfl) ?_
  refine GL.nil (?_ : GC _ _ _ _)
  refine GC.ret ?_
  refine fun a w h => Fin.back (rs := [.tmp 4]) (vs := [_]) (is := []) (js := []) rfl ⟨rfl, trivial⟩ rfl rfl ?_ h
  clear h
  refine ⟨congrArg Value.bool ?_, rfl, rfl⟩; simp [sameRes, *]
structure Vol where
  bl : Int
  sz : Int
  b : List UInt8
  vs : List Int
  last : Int
  deriving Inhabited, DecidableEq
structure VolOk (v : Vol) : Prop where
  shp : shapeOk v.bl v.sz
  lb : v.b.length = (v.bl * v.sz).toNat
  lv : v.vs.length = v.bl.toNat
  ver : ∀ x ∈ v.vs, 0 ≤ x ∧ x ≤ 4611686018427387904
  last : 0 ≤ v.last ∧ v.last ≤ 4611686018427387904
abbrev volG (p pb pv : Nat) (v : Vol) : List Own := [.cells p [.int .i64 v.bl, .int .i64 v.sz, .slice (some ⟨pb, 0, none⟩) (v.bl * v.sz).toNat (v.bl * v.sz).toNat, .slice (some ⟨pv, 0, none⟩) v.bl.toNat v.bl.toNat, .int .i64 v.last] 217,
  .cells pb (v.b.map u8v) 5, .cells pv (v.vs.map (Value.int .i64)) 3]
def newV (bl sz : Int) : Vol := ⟨bl, sz, List.replicate (bl * sz).toNat 0, List.replicate bl.toNat 0, 0⟩
theorem newV_ok {bl sz : Int} (h : shapeOk bl sz) : VolOk (newV bl sz) := ⟨h, by simp [newV], by simp [newV], fun x hx => by rw [List.eq_of_mem_replicate hx]; decide, by simp [newV]⟩
theorem atB {bl sz i n : Int} (hs : shapeOk bl sz) (h0 : 0 ≤ i) (h1 : 1 ≤ n) (h2 : i + n ≤ bl) : 0 ≤ i * sz ∧ i * sz + 1 ≤ (i + n) * sz ∧ (i + n) * sz ≤ bl * sz ∧ bl * sz ≤ 16777216 := by
  obtain ⟨s1, s2, s3, s4⟩ := hs
  refine ⟨Int.mul_nonneg h0 (by omega), ?_, Int.mul_le_mul_of_nonneg_right h2 (by omega), (mulB (a := 4096) (b := 4096) (by omega) s2 (by omega) s4).2⟩
  rw [Int.add_mul]
  have : 1 * 1 ≤ n * sz := Int.mul_le_mul h1 s3 (by omega) (by omega)
  omega
theorem mulS {bl sz : Int} (hs : shapeOk bl sz) : 0 ≤ bl * sz ∧ bl * sz ≤ 16777216 ∧ 1 ≤ bl * sz := by
  obtain ⟨s1, s2, s3, s4⟩ := hs
  have := mulB (x := bl) (a := 4096) (y := sz) (b := 4096) (by omega) s2 (by omega) s4
  have h1 : 1 * 1 ≤ bl * sz := Int.mul_le_mul s1 s3 (by omega) (by omega)
  omega
theorem made_ct (p pb pv : Nat) (v : Vol) : Ct Tryz.prog 173 [.pointer (some ⟨p, 0, none⟩)] (volG p pb pv v) [] (fun u G Q => u = .bool true ∧ G = volG p pb pv v ∧ Q = []) := by
 refine Ct.intro Tryz.func173 rfl rfl rfl (fun c hc => ?_)
 refine GC.seq' ?_
 refine GC.region ?_
 refine GL.pure rfl (p_assign rfl) ?_
 refine GL.nil (?_ : GC _ _ _ _)
 refine GC.seq' ?_
 refine GC.region ?_
 refine GL.pure rfl (p_move rfl) ?_
 refine GL.pure rfl (p_pnil_neq Tryz.underlying177 rfl rfl) ?_
 refine GL.pure rfl (p_move rfl) ?_
 refine GL.pureG (s := 5) rfl rfl rfl (p_move rfl) ?_
 refine GL.pureG (s := 5) rfl rfl rfl (p_nilCheck rfl) ?_
 refine GL.pureG (s := 5) rfl rfl rfl (p_fieldAddr fo_217_1 rfl) ?_
 refine GL.stepG rfl (s := 5) rfl rfl (t_mem rfl (m_load (i := 0) rfl rfl ag_25 rfl)) ?_
 refine GL.pureG (s := 5) rfl rfl rfl (p_slnil_neq Tryz.underlying25 rfl rfl) ?_
 refine GL.pure rfl (p_pick_true rfl rfl) ?_
 refine GL.pure rfl (p_assign rfl) ?_
 refine GL.nil (?_ : GC _ _ _ _)
 refine GC.ret ?_
 refine fun a w h => Fin.back (rs := [.tmp 2]) (vs := [_]) (is := [0, 0, 0]) (js := []) rfl ⟨rfl, trivial⟩ rfl rfl ?_ h
 clear h
 exact ⟨rfl, rfl, rfl⟩
theorem laid_step {vs : List Int} {i k : Nat} {num : Int} (h : i + k < vs.length) : (laid vs i (List.replicate k num)).set (i + k) num = laid vs i (List.replicate (k + 1) num) := by
  apply List.ext_getElem?
  intro j
  simp only [laid, List.length_replicate]
  rw [List.getElem?_set]
  have hl : (List.take i vs ++ List.replicate k num ++ List.drop (i + k) vs).length = vs.length := by simp; omega
  by_cases hj : i + k = j
  · subst hj
    rw [if_pos rfl, if_pos (by omega)]
    simp [List.getElem?_append, List.getElem?_replicate, show min i vs.length = i by omega]
  · rw [if_neg hj]
    simp only [List.getElem?_append, List.getElem?_replicate, List.length_append, List.length_take, List.length_replicate, show min i vs.length = i by omega, List.getElem?_drop]
    by_cases h1 : j < i
    · simp [h1, show j < i + k by omega, show j < i + (k + 1) by omega]
    · by_cases h2 : j < i + k
      · simp [h1, h2, show j < i + (k + 1) by omega, show j - i < k by omega, show j - i < k + 1 by omega]
      · simp [h1, h2, show ¬ j < i + (k + 1) by omega]
        congr 1
        omega
theorem laid_nil {α : Type} (vs : List α) (i : Nat) : laid vs i [] = vs := by simp [laid]
theorem at_ct (p pb pv : Nat) (v : Vol) (i n : Int) (hv : VolOk v) (h0 : 0 ≤ i) (h1 : 1 ≤ n) (h2 : i + n ≤ v.bl) : Ct Tryz.prog 175 [.pointer (some ⟨p, 0, none⟩), .int .i64 i, .int .i64 n] (volG p pb pv v) []
    (fun u G Q => u = .slice (some ⟨pb, (i * v.sz).toNat, none⟩) (seg v.b (i * v.sz).toNat ((i + n) * v.sz).toNat).length (((i + n) * v.sz).toNat - (i * v.sz).toNat) ∧ G = volG p pb pv v ∧ Q = []) := by
 have hb := atB hv.shp h0 h1 h2
 have hs := hv.shp
 have hl := hv.lb
 simp only [shapeOk] at hs
 refine Ct.intro Tryz.func175 rfl rfl rfl (fun c hc => ?_)
 refine GC.seq' ?_
 refine GC.region ?_
 refine GL.pure rfl (p_assign rfl) ?_
 refine GL.nil (?_ : GC _ _ _ _)
 refine GC.seq' ?_
 refine GC.regionQ wide_ (by kernel_rfl) ?_
 refine GQ.step rfl (q_pure (p_move rfl)) ?_
 refine GQ.step rfl (q_pure (p_move rfl)) ?_
 refine GQ.step rfl (q_pure (p_nilCheck rfl)) ?_
 refine GQ.step rfl (q_pure (p_fieldAddr fo_217_0 rfl)) ?_
 refine GQ.step rfl (q_pure (p_fieldAddr fo_35_1 rfl)) ?_
 refine GQ.step rfl (q_mem (m_load (i := 0) rfl rfl ag_3 rfl)) ?_
 refine GQ.step rfl (q_pure (p_mul rfl rfl (w64 (by omega) (by omega)))) ?_
 refine GQ.step rfl (q_pure (p_move rfl)) ?_
 refine GQ.step rfl (q_pure (p_move rfl)) ?_
 refine GQ.step rfl (q_pure (p_add rfl rfl (w64 (by omega) (by omega)))) ?_
 refine GQ.step rfl (q_pure (p_move rfl)) ?_
 refine GQ.step rfl (q_pure (p_nilCheck rfl)) ?_
 refine GQ.step rfl (q_pure (p_fieldAddr fo_217_0 rfl)) ?_
 refine GQ.step rfl (q_pure (p_fieldAddr fo_35_1 rfl)) ?_
 refine GQ.step rfl (q_mem (m_load (i := 0) rfl rfl ag_3 rfl)) ?_
 refine GQ.step rfl (q_pure (p_mul rfl rfl (w64 (by omega) (by omega)))) ?_
 refine GQ.step rfl (q_pure (p_assign rfl)) ?_
 refine GQ.step rfl (q_pure (p_assign rfl)) ?_
 refine GQ.nil (?_ : GC _ _ _ _)
 refine GC.seq' ?_
 refine GC.region ?_
 refine GL.pure rfl (p_move rfl) ?_
 refine GL.pure rfl (p_nilCheck rfl) ?_
 refine GL.pure rfl (p_fieldAddr fo_217_1 rfl) ?_
 refine GL.step rfl (t_mem rfl (m_load (i := 0) rfl rfl ag_25 rfl)) ?_
 refine GL.pure rfl (p_move rfl) ?_
 refine GL.pure rfl (p_move rfl) ?_
 refine GL.pure rfl (p_move rfl) ?_
 refine GL.pure rfl (p_cut_lhm rfl rfl rfl rfl Tryz.underlying25 sz_5 (by omega) (by omega) (by omega) (by omega) (seg_length (xs := v.b) (by omega)).symm rfl (slA_blk (by omega))) ?_
 refine GL.pure rfl (p_assign rfl) ?_
 refine GL.nil (?_ : GC _ _ _ _)
 refine GC.ret ?_
 refine fun a w h => Fin.back (rs := [.tmp 6]) (vs := [_]) (is := [0, 0, 0]) (js := []) rfl ⟨rfl, trivial⟩ rfl rfl ?_ h
 clear h
 exact ⟨by rw [Nat.zero_add, Nat.mul_one]; rfl, rfl, rfl⟩
theorem stamp_ct (p pb pv : Nat) (v : Vol) (i n num : Int) (hv : VolOk v) (h0 : 0 ≤ i) (h1 : 1 ≤ n) (h2 : i + n ≤ v.bl) : Ct Tryz.prog 176 [.pointer (some ⟨p, 0, none⟩), .int .i64 i, .int .i64 n, .int .i64 num] (volG p pb pv v) []
    (fun u G Q => u = .tuple #[] ∧ G = volG p pb pv { v with vs := laid v.vs i.toNat (List.replicate n.toNat num) } ∧ Q = []) := by
 have hs := hv.shp
 have hl := hv.lv
 simp only [shapeOk] at hs
 refine Ct.intro Tryz.func176 rfl rfl rfl (fun c hc => ?_)
 refine GC.seq' ?_
 refine GC.region ?_
 refine GL.pure rfl (p_move rfl) ?_
 refine GL.pure rfl (p_move rfl) ?_
 refine GL.nil (?_ : GC _ _ _ _)
 refine GC.block ?_
 refine GC.imp (fun a w h => (⟨by simp; omega, by rw [List.replicate_zero, laid_nil]; exact h.cut (is := [0, 0, 0]) (js := []) ⟨rfl, rfl, rfl, rfl, rfl, trivial⟩ rfl rfl⟩ : (fun (k : Nat) (a : Act) (w : World) => (k : Int) ≤ n ∧ St c 23 [(0, .pointer (some ⟨p, 0, none⟩)), (1, .int .i64 i), (3, .int .i64 num), (9, .int .i64 n), (10, .int .i64 (k : Int))] [.cells p [.int .i64 v.bl, .int .i64 v.sz, .slice (some ⟨pb, 0, none⟩) (v.bl * v.sz).toNat (v.bl * v.sz).toNat, .slice (some ⟨pv, 0, none⟩) v.bl.toNat v.bl.toNat, .int .i64 v.last] 217, .cells pb (v.b.map u8v) 5, .cells pv ((laid v.vs i.toNat (List.replicate k num)).map (Value.int .i64)) 3] [] a w) 0 a w)) (GC.loop (fun (k : Nat) (a : Act) (w : World) => (k : Int) ≤ n ∧ St c 23 [(0, .pointer (some ⟨p, 0, none⟩)), (1, .int .i64 i), (3, .int .i64 num), (9, .int .i64 n), (10, .int .i64 (k : Int))] [.cells p [.int .i64 v.bl, .int .i64 v.sz, .slice (some ⟨pb, 0, none⟩) (v.bl * v.sz).toNat (v.bl * v.sz).toNat, .slice (some ⟨pv, 0, none⟩) v.bl.toNat v.bl.toNat, .int .i64 v.last] 217, .cells pb (v.b.map u8v) 5, .cells pv ((laid v.vs i.toNat (List.replicate k num)).map (Value.int .i64)) 3] [] a w) (fun k => n.toNat - k) 0 ?_)
 intro k
 refine GC.and fun hk => ?_
 refine GC.seq' ?_
 refine GC.region ?_
 refine GL.pure rfl (p_lss rfl rfl) ?_
 refine GL.nil (?_ : GC _ _ _ _)
 refine GC.seq' ?_
 refine GC.cond rfl (fun h1 => ?_) (fun h1 => ?_)
 ·try simp only [tst_] at h1
  refine GC.skip (?_ : GC _ _ _ _)
  refine GC.seq' ?_
  refine GC.block ?_
  refine GC.seq' ?_
  refine GC.region ?_
  refine GL.pure rfl (p_move rfl) ?_
  refine GL.pure rfl (p_assign rfl) ?_
  refine GL.nil (?_ : GC _ _ _ _)
  refine GC.region ?_
  refine GL.pure rfl (p_move rfl) ?_
  refine GL.pure rfl (p_nilCheck rfl) ?_
  refine GL.pure rfl (p_fieldAddr fo_217_2 rfl) ?_
  refine GL.step rfl (t_mem rfl (m_load (i := 0) rfl rfl ag_31 rfl)) ?_
  refine GL.pure rfl (p_move rfl) ?_
  refine GL.pure rfl (p_move rfl) ?_
  refine GL.pure rfl (p_add rfl rfl (w64 (by (first | omega | (rw [laid_length (by simp; omega)]; omega))) (by (first | omega | (rw [laid_length (by simp; omega)]; omega))))) ?_
  refine GL.pure rfl (p_move rfl) ?_
  refine GL.pure rfl (p_indexB rfl rfl Tryz.underlying31 sz_3 (by (first | omega | (rw [laid_length (by simp; omega)]; omega))) (by (first | omega | (rw [laid_length (by simp; omega)]; omega)))) ?_
  refine GL.step rfl (t_store (i := 2) rfl rfl rfl rfl sz_3 rfl (upd_map _ (by (first | omega | (rw [laid_length (by simp; omega)]; omega))) (by (first | omega | (rw [laid_length (by simp; omega)]; omega)))) rfl) ?_
  refine GL.nil (?_ : GC _ _ _ _)
  refine GC.region ?_
  refine GL.pure rfl (p_add rfl rfl (w64 (by (first | omega | (rw [laid_length (by simp; omega)]; omega))) (by (first | omega | (rw [laid_length (by simp; omega)]; omega))))) ?_
  refine GL.pure rfl (p_move rfl) ?_
  refine GL.nil ?_
  exact fun a w h => ⟨(k + 1), (by omega), (by omega), by rw [← laid_step (by omega), show i.toNat + k = (i + (k : Int)).toNat by omega]; exact h.cut (is := [0, 0, 0]) (js := []) ⟨rfl, rfl, rfl, rfl, rfl, trivial⟩ rfl rfl⟩
 ·try simp only [tst_] at h1
  refine GC.exit ?_
  refine fun a w h => Fin.back0 rfl (is := [0, 0, 0]) (js := []) rfl rfl ?_ h
  clear h
  obtain rfl : n.toNat = k := by omega
  exact ⟨rfl, rfl, rfl⟩
end Go.Proofs.YtdhdmbmknpjhbaaGreat
namespace Go.Proofs.YtdhdmbmknpjhbaaGreat
open Go Go.Sx Go.Proofs
theorem new_bad (bl sz : Int) (h : ¬ shapeOk bl sz) : Ct Tryz.prog 162 [shpV bl sz] [] [] (fun v G Q => v = .tuple #[.pointer none, .int .i64 40] ∧ G = [] ∧ Q = []) := by
 have he : shapeE bl sz = 40 := by simp [shapeE, h]
 refine Ct.intro Tryz.func162 rfl rfl rfl (fun c hc => ?_)
 refine GC.seq' ?_
 refine GC.region ?_
 refine GL.step rfl (t_box rfl rfl rfl) (GL.ex fun b_t1 => ?_)
 refine GL.pure rfl (p_assign rfl) ?_
 refine GL.pure rfl (p_assign rfl) ?_
 refine GL.nil (?_ : GC _ _ _ _)
 refine GC.seq' ?_
 refine GC.seq' ?_
 refine GC.region ?_
 refine GL.step rfl (t_mem rfl (m_loadN (i := 0) rfl rfl ag_35 (vs := [_, _]) sz_35 ⟨rfl, rfl, trivial⟩)) ?_
 refine GL.step rfl (t_call rfl fn_172 rfl (is := []) (js := []) rfl rfl (by exact shape_eq _ _ _ he)) (GL.ret ?_)
 rintro _ _ _ ⟨rfl, rfl, rfl⟩
 refine GL.pure rfl (p_assign rfl) ?_
 refine GL.nil (?_ : GC _ _ _ _)
 refine GC.seq' ?_
 refine GC.region ?_
 refine GL.pure rfl (p_move rfl) ?_
 refine GL.pure rfl (p_neq rfl rfl) ?_
 refine GL.nil (?_ : GC _ _ _ _)
 refine GC.cond_true rfl ?_
 refine GC.seq' ?_
 refine GC.region ?_
 refine GL.pure rfl (p_move rfl) ?_
 refine GL.pure rfl (p_assign rfl) ?_
 refine GL.pure rfl (p_assign rfl) ?_
 refine GL.nil (?_ : GC _ _ _ _)
 refine GC.ret ?_
 refine fun a w h => Fin.back (rs := [.tmp 2, .tmp 3]) (vs := [_, _]) (is := []) (js := []) rfl ⟨rfl, rfl, trivial⟩ rfl rfl ?_ h
 clear h
 exact ⟨rfl, rfl, rfl⟩
theorem new_ok (bl sz : Int) (h : shapeOk bl sz) : Ct Tryz.prog 162 [shpV bl sz] [] [] (fun v G Q => ∃ p pb pv, v = .tuple #[.pointer (some ⟨p, 0, none⟩), .int .i64 0] ∧ G = volG p pb pv (newV bl sz) ∧ Q = []) := by
 have he : shapeE bl sz = 0 := by simp [shapeE, h]
 have hm := mulS h
 have hs := h
 simp only [shapeOk] at hs
 refine Ct.intro Tryz.func162 rfl rfl rfl (fun c hc => ?_)
 refine GC.seq' ?_
 refine GC.region ?_
 refine GL.step rfl (t_box rfl rfl rfl) (GL.ex fun b_t1 => ?_)
 refine GL.pure rfl (p_assign rfl) ?_
 refine GL.pure rfl (p_assign rfl) ?_
 refine GL.nil (?_ : GC _ _ _ _)
 refine GC.seq' ?_
 refine GC.seq' ?_
 refine GC.region ?_
 refine GL.step rfl (t_mem rfl (m_loadN (i := 0) rfl rfl ag_35 (vs := [_, _]) sz_35 ⟨rfl, rfl, trivial⟩)) ?_
 refine GL.step rfl (t_call rfl fn_172 rfl (is := []) (js := []) rfl rfl (by exact shape_eq _ _ _ he)) (GL.ret ?_)
 rintro _ _ _ ⟨rfl, rfl, rfl⟩
 refine GL.pure rfl (p_assign rfl) ?_
 refine GL.nil (?_ : GC _ _ _ _)
 refine GC.seq' ?_
 refine GC.region ?_
 refine GL.pure rfl (p_move rfl) ?_
 refine GL.pure rfl (p_neq rfl rfl) ?_
 refine GL.nil (?_ : GC _ _ _ _)
 refine GC.cond_false rfl ?_
 refine GC.skip (?_ : GC _ _ _ _)
 refine GC.seq' ?_
 refine GC.regionM (m := 14) (M := fun a w => ∃ p : Nat, ∃ pb : Nat, ∃ pv : Nat, St c 22 [(2, .pointer (some ⟨p, 0, none⟩)), (3, .int .i64 0)] [.cells p [.int .i64 bl, .int .i64 sz, .slice (some ⟨pb, 0, none⟩) (bl * sz).toNat (bl * sz).toNat, .slice (some ⟨pv, 0, none⟩) bl.toNat bl.toNat, .int .i64 0] 217, .cells pb ((List.replicate (bl * sz).toNat 0).map u8v) 5, .cells pv ((List.replicate bl.toNat 0).map (Value.int .i64)) 3] [] a w) (is := [0]) (js := []) wide_ rfl rfl rfl ?_ ?_
 ·refine GA.take 0 rfl (by kernel_rfl) (by kernel_rfl) (by kernel_rfl) rfl (fun a w h => h.mem (is := [0]) (js := []) rfl rfl) (i_mem (m_loadN (i := 0) rfl rfl ag_35 (vs := [_, _]) sz_35 ⟨rfl, rfl, trivial⟩)) ?_
  refine GA.take 1 rfl (by kernel_rfl) (by kernel_rfl) (by kernel_rfl) rfl (fun a w h => h.mem (is := [0]) (js := []) rfl rfl) (i_pure (p_fieldAddr fo_35_0 rfl)) ?_
  refine GA.take 2 rfl (by kernel_rfl) (by kernel_rfl) (by kernel_rfl) rfl (fun a w h => h.mem (is := [0]) (js := []) rfl rfl) (i_mem (m_load (i := 0) rfl rfl ag_3 rfl)) ?_
  refine GA.take 3 rfl (by kernel_rfl) (by kernel_rfl) (by kernel_rfl) rfl (fun a w h => h.mem (is := [0]) (js := []) rfl rfl) (i_pure (p_fieldAddr fo_35_1 rfl)) ?_
  refine GA.take 4 rfl (by kernel_rfl) (by kernel_rfl) (by kernel_rfl) rfl (fun a w h => h.mem (is := [0]) (js := []) rfl rfl) (i_mem (m_load (i := 0) rfl rfl ag_3 rfl)) ?_
  refine GA.take 5 rfl (by kernel_rfl) (by kernel_rfl) (by kernel_rfl) rfl (fun a w h => h.mem (is := [0]) (js := []) rfl rfl) (i_pure (p_mul rfl rfl (w64 (by omega) (by omega)))) ?_
  refine GA.take 7 rfl (by kernel_rfl) (by kernel_rfl) (by kernel_rfl) rfl (fun a w h => h.mem (is := [0]) (js := []) rfl rfl) (i_pure (p_fieldAddr fo_35_0 rfl)) ?_
  refine GA.take 8 rfl (by kernel_rfl) (by kernel_rfl) (by kernel_rfl) rfl (fun a w h => h.mem (is := [0]) (js := []) rfl rfl) (i_mem (m_load (i := 0) rfl rfl ag_3 rfl)) ?_
  refine GA.all (rs := [6, 9]) (by kernel_rfl) (by simp) ?_
  refine GAs.cons (i := 6) rfl rfl (t_make rfl el_25 rfl rfl (by omega) (by omega)) (by rintro a w ⟨_, h⟩; exact h.mem (is := [1]) (js := []) rfl rfl) (GA.ex fun b_t16 => ?_) ?_
  ·rw [reps_u8]
   refine GA.all (rs := [9]) (by kernel_rfl) (by simp) ?_
   refine GAs.cons (i := 9) rfl rfl (t_make rfl el_31 rfl rfl (by omega) (by omega)) (by rintro a w ⟨_, h⟩; exact h.mem (is := [2]) (js := []) rfl rfl) (GA.ex fun b_t19 => ?_) ?_
   ·rw [reps_i64]
    refine GA.take 10 rfl (by kernel_rfl) (by kernel_rfl) (by kernel_rfl) rfl (fun a w h => h.mem (is := [2]) (js := []) rfl rfl) (i_pure (p_build ze_217 of_217 rfl rfl)) ?_
    refine GA.all (rs := [11]) (by kernel_rfl) (by simp) ?_
    refine GAs.cons (i := 11) rfl rfl (t_box rfl rfl rfl) (by rintro a w ⟨_, h⟩; exact h.mem (is := [3]) (js := []) rfl rfl) (GA.ex fun b_t21 => ?_) ?_
    ·refine GA.take 12 rfl (by kernel_rfl) (by kernel_rfl) (by kernel_rfl) rfl (fun a w h => h.mem (is := [3]) (js := []) rfl rfl) (i_pure (p_assign rfl)) ?_
     refine GA.take 13 rfl (by kernel_rfl) (by kernel_rfl) (by kernel_rfl) rfl (fun a w h => h.mem (is := [3]) (js := []) rfl rfl) (i_pure (p_assign rfl)) ?_
     exact GA.done (by kernel_rfl) (fun a w h => ⟨b_t21, b_t16, b_t19, h.cut (is := [0, 1, 0]) (js := []) ⟨rfl, rfl, trivial⟩ rfl rfl⟩)
    exact GAs.nil
   exact GAs.nil
  refine GAs.cons (i := 9) rfl rfl (t_make rfl el_31 rfl rfl (by omega) (by omega)) (by rintro a w ⟨_, h⟩; exact h.mem (is := [1]) (js := []) rfl rfl) (GA.ex fun b_t19 => ?_) ?_
  ·rw [reps_i64]
   refine GA.all (rs := [6]) (by kernel_rfl) (by simp) ?_
   refine GAs.cons (i := 6) rfl rfl (t_make rfl el_25 rfl rfl (by omega) (by omega)) (by rintro a w ⟨_, h⟩; exact h.mem (is := [2]) (js := []) rfl rfl) (GA.ex fun b_t16 => ?_) ?_
   ·rw [reps_u8]
    refine GA.take 10 rfl (by kernel_rfl) (by kernel_rfl) (by kernel_rfl) rfl (fun a w h => h.mem (is := [2]) (js := []) rfl rfl) (i_pure (p_build ze_217 of_217 rfl rfl)) ?_
    refine GA.all (rs := [11]) (by kernel_rfl) (by simp) ?_
    refine GAs.cons (i := 11) rfl rfl (t_box rfl rfl rfl) (by rintro a w ⟨_, h⟩; exact h.mem (is := [3]) (js := []) rfl rfl) (GA.ex fun b_t21 => ?_) ?_
    ·refine GA.take 12 rfl (by kernel_rfl) (by kernel_rfl) (by kernel_rfl) rfl (fun a w h => h.mem (is := [3]) (js := []) rfl rfl) (i_pure (p_assign rfl)) ?_
     refine GA.take 13 rfl (by kernel_rfl) (by kernel_rfl) (by kernel_rfl) rfl (fun a w h => h.mem (is := [3]) (js := []) rfl rfl) (i_pure (p_assign rfl)) ?_
     exact GA.done (by kernel_rfl) (fun a w h => ⟨b_t21, b_t16, b_t19, h.cut (is := [0, 0, 0]) (js := []) ⟨rfl, rfl, trivial⟩ rfl rfl⟩)
    exact GAs.nil
   exact GAs.nil
  exact GAs.nil
 ·refine (?_ : GC _ _ _ _)
  refine GC.ex fun p => GC.ex fun pb => GC.ex fun pv => ?_
  refine GC.ret ?_
  refine fun a w h => Fin.back (rs := [.tmp 2, .tmp 3]) (vs := [_, _]) (is := [0, 0, 0]) (js := []) rfl ⟨rfl, rfl, trivial⟩ rfl rfl ?_ h
  clear h
  exact ⟨p, pb, pv, rfl, rfl, rfl⟩
end Go.Proofs.YtdhdmbmknpjhbaaGreat
namespace Go.Proofs.YtdhdmbmknpjhbaaGreat
open Go Go.Sx Go.Proofs
theorem VolOk.last' {v : Vol} (h : VolOk v) {num : Int} (h0 : 0 ≤ num) (h1 : num ≤ 4611686018427387904) : VolOk { v with last := num } := ⟨h.shp, h.lb, h.lv, h.ver, h0, h1⟩
theorem VolOk.setb {v : Vol} (h : VolOk v) {o : Nat} {ys : List UInt8} (hf : o + ys.length ≤ v.b.length) : VolOk { v with b := laid v.b o ys } := ⟨h.shp, by rw [laid_length hf]; exact h.lb, h.lv, h.ver, h.last⟩
theorem mem_laid {α : Type} {xs ys : List α} {o : Nat} {x : α} (h : x ∈ laid xs o ys) : x ∈ xs ∨ x ∈ ys := by
  unfold laid at h
  simp only [List.mem_append] at h
  rcases h with (h | h) | h
  · exact .inl (List.mem_of_mem_take h)
  · exact .inr h
  · exact .inl (List.mem_of_mem_drop h)
theorem VolOk.setv {v : Vol} (h : VolOk v) {o k : Nat} {num : Int} (hf : o + k ≤ v.vs.length) (h0 : 0 ≤ num) (h1 : num ≤ 4611686018427387904) : VolOk { v with vs := laid v.vs o (List.replicate k num) } :=
  ⟨h.shp, h.lb, by rw [laid_length (by simpa using hf)]; exact h.lv, fun x hx => by
    rcases mem_laid hx with hx | hx
    · exact h.ver x hx
    · rw [List.eq_of_mem_replicate hx]; exact ⟨h0, h1⟩, h.last⟩
end Go.Proofs.YtdhdmbmknpjhbaaGreat
namespace Go.Proofs.YtdhdmbmknpjhbaaGreat
open Go Go.Sx Go.Proofs
abbrev resV (r : Res) (A : Option Addr) (cp : Nat) (e : Int) : Value := .tuple #[.agg #[.int .u8 r.code, .slice A r.data.length cp], .int .i64 e]
end Go.Proofs.YtdhdmbmknpjhbaaGreat
namespace Go.Sx
open Go
section
variable {P : Program} {c : Cx} {n : Nat} {env env' : List (Nat × Value)} {G G' Gr : List Own} {Q Q' : List Pers} {d : Nat} {ty : TypeId} {pos : String} {aft : Array Edge} {g : Option (Nat × Bool)} {x y z u : Operand} {t : TypeId} {a a' : Act} {w w' : World}
variable {ops : Array Oper} {R : Exit → Asr} {rest : List Oper} {A B : Asr} {cd : Code} {M : Asr} {I : World → Prop} {fuel : Nat} {listed : Array Bool}
theorem GA.shape {i e sz m : Nat} {v : Value} {cs : List Value} (hi : nthO G i = some (.row v e sz m cs)) (k : ∀ A cp, v = .slice A m cp → m ≤ cp → cp ≤ 9223372036854775807 → GA P ops M I fuel listed (St c n env G Q)) : GA P ops M I fuel listed (St c n env G Q) := fun a w h => by
  obtain ⟨A, cp, h1, h2, h3⟩ := h.shape hi
  exact k A cp h1 h2 h3 a w h
theorem GA.know {q : Pers} (hq : ∀ w S, (∀ p ∈ Q, p.h w S) → q.h w S) (k : GA P ops M I fuel listed (St c n env G (q :: Q))) : GA P ops M I fuel listed (St c n env G Q) := GA.imp (fun a w h => h.know hq) k
theorem St.freezeC {α : Type} {enc : α → Value} {h1 : ∀ x, (enc x).oneCell' = true} {i b e : Nat} {xs : List α} (h : St c n env G Q a w) (ht : takeO G i = some (.cells b (xs.map enc) e, G')) : St c n env G' (Pers.row (Kd.sc enc h1) (some ⟨b, 0, none⟩) xs :: Q) a w :=
  h.freeze (QN := [Pers.row (Kd.sc enc h1) (some ⟨b, 0, none⟩) xs]) ht fun w S ho hS hq q hq' => by
    rw [List.mem_singleton.1 hq']
    have := blk_sub (h1 := h1) (l := 0) (h := xs.length) (S := S) ho (hS b (by simp [Own.keys]))
    rwa [seg_all] at this
theorem GL.freezeC {α : Type} {enc : α → Value} {h1 : ∀ x, (enc x).oneCell' = true} {i b e : Nat} {xs : List α} (ht : takeO G i = some (.cells b (xs.map enc) e, G')) (k : GL P ops R rest (St c n env G' (Pers.row (Kd.sc enc h1) (some ⟨b, 0, none⟩) xs :: Q))) : GL P ops R rest (St c n env G Q) := GL.imp (fun a w h => h.freezeC ht) k
theorem GC.freezeC {α : Type} {enc : α → Value} {h1 : ∀ x, (enc x).oneCell' = true} {i b e : Nat} {xs : List α} (ht : takeO G i = some (.cells b (xs.map enc) e, G')) (k : GC P R cd (St c n env G' (Pers.row (Kd.sc enc h1) (some ⟨b, 0, none⟩) xs :: Q))) : GC P R cd (St c n env G Q) := GC.imp (fun a w h => h.freezeC ht) k
theorem GA.freezeC {α : Type} {enc : α → Value} {h1 : ∀ x, (enc x).oneCell' = true} {i b e : Nat} {xs : List α} (ht : takeO G i = some (.cells b (xs.map enc) e, G')) (k : GA P ops M I fuel listed (St c n env G' (Pers.row (Kd.sc enc h1) (some ⟨b, 0, none⟩) xs :: Q))) : GA P ops M I fuel listed (St c n env G Q) := GA.imp (fun a w h => h.freezeC ht) k
end
end Go.Sx
namespace Go.Proofs.YtdhdmbmknpjhbaaGreat
open Go Go.Sx Go.Proofs
def badP (bl sz last : Int) (p : Page) : Prop := p.at_ ≤ last ∨ bl ≤ p.at_ ∨ p.ver < 1 ∨ 4611686018427387904 < p.ver ∨ (p.data.length : Int) ≠ sz
instance (bl sz last : Int) (p : Page) : Decidable (badP bl sz last p) := by unfold badP; infer_instance
def laidF (bl sz : Int) : Int → List Page → Bool
  | _, [] => true
  | last, p :: r => if badP bl sz last p then false else laidF bl sz p.at_ r
theorem drop_gt {α : Type} [Inhabited α] {l : List α} {k : Nat} (h : k < l.length) : l.drop k = gt l (k : Int) :: l.drop (k + 1) := by
  have := gt_ok (xs := l) (i := (k : Int)) (by omega) (by omega)
  rw [List.drop_eq_getElem_cons h]
  congr 1
  have h2 : l[k]? = some l[k] := List.getElem?_eq_getElem h
  simp only [Int.toNat_natCast] at this
  rw [h2] at this
  exact Option.some.inj this
theorem laidF_bad {bl sz last : Int} {l : List Page} {k : Nat} (h : k < l.length) (hb : badP bl sz last (gt l (k : Int))) : laidF bl sz last (l.drop k) = false := by rw [drop_gt h, laidF, if_pos hb]
theorem laidF_ok {bl sz last : Int} {l : List Page} {k : Nat} (h : k < l.length) (hb : ¬ badP bl sz last (gt l (k : Int))) : laidF bl sz last (l.drop k) = laidF bl sz (gt l (k : Int)).at_ (l.drop (k + 1)) := by rw [drop_gt h, laidF, if_neg hb]
theorem laidF_end {bl sz last : Int} {l : List Page} {k : Nat} (h : l.length ≤ k) : laidF bl sz last (l.drop k) = true := by rw [List.drop_of_length_le h]; rfl
abbrev pageV (pg : Page) (A : Option Addr) (cp : Nat) : Value := .agg #[.int .i64 pg.at_, .int .i64 pg.ver, .slice A pg.data.length cp]
abbrev capG (q wb p : Nat) (last : Int) : List Own := [.cells q [.int .i64 last] 3, .cells wb [.pointer (some ⟨p, 0, none⟩)] 177]
theorem laidc_ct (q wb p pb pv : Nat) (v : Vol) (last : Int) (pg : Page) (A : Option Addr) (cp : Nat) : Ct Tryz.prog 179 [pageV pg A cp, .pointer (some ⟨q, 0, none⟩), .pointer (some ⟨wb, 0, none⟩)] (capG q wb p last ++ volG p pb pv v) []
    (fun u G Q => u = .bool (decide (badP v.bl v.sz last pg)) ∧ G = capG q wb p pg.at_ ++ volG p pb pv v ∧ Q = []) := by
 refine Ct.intro Tryz.func179 rfl rfl rfl (fun c hc => ?_)
 refine GC.seq' ?_
 refine GC.region ?_
 refine GL.step rfl (t_box rfl rfl rfl) (GL.ex fun b_t3 => ?_)
 refine GL.pure rfl (p_assign rfl) ?_
 refine GL.nil (?_ : GC _ _ _ _)
 refine GC.seq' ?_
 refine GC.regionQ wide_ (by kernel_rfl) ?_
 refine GQ.step rfl (q_pure (p_fieldAddr fo_59_0 rfl)) ?_
 refine GQ.step rfl (q_mem (m_load (i := 0) rfl rfl ag_3 rfl)) ?_
 refine GQ.step rfl (q_mem (m_load (i := 1) rfl rfl ag_3 rfl)) ?_
 refine GQ.step rfl (q_pure (p_leq rfl rfl)) ?_
 refine GQ.step rfl (q_pure (p_move rfl)) ?_
 refine GQ.split (i := 10) rfl (fun h1 => ?_) (fun h1 => ?_)
 ·try simp only [tst_] at h1
  refine GQ.pass (s := 10) rfl rfl rfl ?_
  refine GQ.pass (s := 10) rfl rfl rfl ?_
  refine GQ.pass (s := 10) rfl rfl rfl ?_
  refine GQ.pass (s := 10) rfl rfl rfl ?_
  refine GQ.pass (s := 10) rfl rfl rfl ?_
  refine GQ.pass (s := 10) rfl rfl rfl ?_
  refine GQ.pass (s := 10) rfl rfl rfl ?_
  refine GQ.pass (s := 10) rfl rfl rfl ?_
  refine GQ.step rfl (q_pure (p_pick_true rfl rfl)) ?_
  refine GQ.step rfl (q_pure (p_move rfl)) ?_
  refine GQ.pass (s := 20) rfl rfl rfl ?_
  refine GQ.pass (s := 20) rfl rfl rfl ?_
  refine GQ.pass (s := 20) rfl rfl rfl ?_
  refine GQ.step rfl (q_pure (p_pick_true rfl rfl)) ?_
  refine GQ.step rfl (q_pure (p_move rfl)) ?_
  refine GQ.pass (s := 25) rfl rfl rfl ?_
  refine GQ.pass (s := 25) rfl rfl rfl ?_
  refine GQ.pass (s := 25) rfl rfl rfl ?_
  refine GQ.step rfl (q_pure (p_pick_true rfl rfl)) ?_
  refine GQ.step rfl (q_pure (p_move rfl)) ?_
  refine GQ.pass (s := 30) rfl rfl rfl ?_
  refine GQ.pass (s := 30) rfl rfl rfl ?_
  refine GQ.pass (s := 30) rfl rfl rfl ?_
  refine GQ.pass (s := 30) rfl rfl rfl ?_
  refine GQ.pass (s := 30) rfl rfl rfl ?_
  refine GQ.pass (s := 30) rfl rfl rfl ?_
  refine GQ.pass (s := 30) rfl rfl rfl ?_
  refine GQ.pass (s := 30) rfl rfl rfl ?_
  refine GQ.pass (s := 30) rfl rfl rfl ?_
  refine GQ.step rfl (q_pure (p_pick_true rfl rfl)) ?_
  refine GQ.step rfl (q_pure (p_assign rfl)) ?_
  refine GQ.nil (?_ : GC _ _ _ _)
  refine GC.seq' ?_
  refine GC.region ?_
  refine GL.pure rfl (p_fieldAddr fo_59_0 rfl) ?_
  refine GL.step rfl (t_mem rfl (m_load (i := 0) rfl rfl ag_3 rfl)) ?_
  refine GL.step rfl (t_store (i := 1) rfl rfl rfl rfl sz_3 rfl rfl rfl) ?_
  refine GL.nil (?_ : GC _ _ _ _)
  refine GC.seq' ?_
  refine GC.region ?_
  refine GL.pure rfl (p_move rfl) ?_
  refine GL.pure rfl (p_assign rfl) ?_
  refine GL.nil (?_ : GC _ _ _ _)
  refine GC.ret ?_
  refine fun a w h => Fin.back (rs := [.tmp 4]) (vs := [_]) (is := [1, 1, 1, 1, 1]) (js := []) rfl ⟨rfl, trivial⟩ rfl rfl ?_ h
  clear h
  refine ⟨congrArg Value.bool ?_, rfl, rfl⟩; first | exact decide_eq_decide.2 (by unfold badP; omega) | exact (decide_eq_true (by unfold badP; omega)).symm | exact (decide_eq_false (by unfold badP; omega)).symm
 ·try simp only [tst_] at h1
  refine GQ.stepG (s := 10) rfl rfl rfl (q_pure (p_fieldAddr fo_59_0 rfl)) ?_
  refine GQ.stepG (s := 10) rfl rfl rfl (q_mem (m_load (i := 0) rfl rfl ag_3 rfl)) ?_
  refine GQ.stepG (s := 10) rfl rfl rfl (q_mem (m_load (i := 2) rfl rfl ag_177 rfl)) ?_
  refine GQ.stepG (s := 10) rfl rfl rfl (q_pure (p_nilCheck rfl)) ?_
  refine GQ.stepG (s := 10) rfl rfl rfl (q_pure (p_fieldAddr fo_217_0 rfl)) ?_
  refine GQ.stepG (s := 10) rfl rfl rfl (q_pure (p_fieldAddr fo_35_0 rfl)) ?_
  refine GQ.stepG (s := 10) rfl rfl rfl (q_mem (m_load (i := 3) rfl rfl ag_3 rfl)) ?_
  refine GQ.stepG (s := 10) rfl rfl rfl (q_pure (p_geq rfl rfl)) ?_
  refine GQ.step rfl (q_pure (p_pick_false rfl rfl)) ?_
  refine GQ.step rfl (q_pure (p_move rfl)) ?_
  refine GQ.split (i := 20) rfl (fun h2 => ?_) (fun h2 => ?_)
  ·try simp only [tst_] at h2
   refine GQ.pass (s := 20) rfl rfl rfl ?_
   refine GQ.pass (s := 20) rfl rfl rfl ?_
   refine GQ.pass (s := 20) rfl rfl rfl ?_
   refine GQ.step rfl (q_pure (p_pick_true rfl rfl)) ?_
   refine GQ.step rfl (q_pure (p_move rfl)) ?_
   refine GQ.pass (s := 25) rfl rfl rfl ?_
   refine GQ.pass (s := 25) rfl rfl rfl ?_
   refine GQ.pass (s := 25) rfl rfl rfl ?_
   refine GQ.step rfl (q_pure (p_pick_true rfl rfl)) ?_
   refine GQ.step rfl (q_pure (p_move rfl)) ?_
   refine GQ.pass (s := 30) rfl rfl rfl ?_
   refine GQ.pass (s := 30) rfl rfl rfl ?_
   refine GQ.pass (s := 30) rfl rfl rfl ?_
   refine GQ.pass (s := 30) rfl rfl rfl ?_
   refine GQ.pass (s := 30) rfl rfl rfl ?_
   refine GQ.pass (s := 30) rfl rfl rfl ?_
   refine GQ.pass (s := 30) rfl rfl rfl ?_
   refine GQ.pass (s := 30) rfl rfl rfl ?_
   refine GQ.pass (s := 30) rfl rfl rfl ?_
   refine GQ.step rfl (q_pure (p_pick_true rfl rfl)) ?_
   refine GQ.step rfl (q_pure (p_assign rfl)) ?_
   refine GQ.nil (?_ : GC _ _ _ _)
   refine GC.seq' ?_
   refine GC.region ?_
   refine GL.pure rfl (p_fieldAddr fo_59_0 rfl) ?_
   refine GL.step rfl (t_mem rfl (m_load (i := 0) rfl rfl ag_3 rfl)) ?_
   refine GL.step rfl (t_store (i := 1) rfl rfl rfl rfl sz_3 rfl rfl rfl) ?_
   refine GL.nil (?_ : GC _ _ _ _)
   refine GC.seq' ?_
   refine GC.region ?_
   refine GL.pure rfl (p_move rfl) ?_
   refine GL.pure rfl (p_assign rfl) ?_
   refine GL.nil (?_ : GC _ _ _ _)
   refine GC.ret ?_
   refine fun a w h => Fin.back (rs := [.tmp 4]) (vs := [_]) (is := [1, 1, 1, 1, 1]) (js := []) rfl ⟨rfl, trivial⟩ rfl rfl ?_ h
   clear h
   refine ⟨congrArg Value.bool ?_, rfl, rfl⟩; first | exact decide_eq_decide.2 (by unfold badP; omega) | exact (decide_eq_true (by unfold badP; omega)).symm | exact (decide_eq_false (by unfold badP; omega)).symm
  ·try simp only [tst_] at h2
   refine GQ.stepG (s := 20) rfl rfl rfl (q_pure (p_fieldAddr fo_59_1 rfl)) ?_
   refine GQ.stepG (s := 20) rfl rfl rfl (q_mem (m_load (i := 0) rfl rfl ag_3 rfl)) ?_
   refine GQ.stepG (s := 20) rfl rfl rfl (q_pure (p_lss rfl rfl)) ?_
   refine GQ.step rfl (q_pure (p_pick_false rfl rfl)) ?_
   refine GQ.step rfl (q_pure (p_move rfl)) ?_
   refine GQ.split (i := 25) rfl (fun h3 => ?_) (fun h3 => ?_)
   ·try simp only [tst_] at h3
    refine GQ.pass (s := 25) rfl rfl rfl ?_
    refine GQ.pass (s := 25) rfl rfl rfl ?_
    refine GQ.pass (s := 25) rfl rfl rfl ?_
    refine GQ.step rfl (q_pure (p_pick_true rfl rfl)) ?_
    refine GQ.step rfl (q_pure (p_move rfl)) ?_
    refine GQ.pass (s := 30) rfl rfl rfl ?_
    refine GQ.pass (s := 30) rfl rfl rfl ?_
    refine GQ.pass (s := 30) rfl rfl rfl ?_
    refine GQ.pass (s := 30) rfl rfl rfl ?_
    refine GQ.pass (s := 30) rfl rfl rfl ?_
    refine GQ.pass (s := 30) rfl rfl rfl ?_
    refine GQ.pass (s := 30) rfl rfl rfl ?_
    refine GQ.pass (s := 30) rfl rfl rfl ?_
    refine GQ.pass (s := 30) rfl rfl rfl ?_
    refine GQ.step rfl (q_pure (p_pick_true rfl rfl)) ?_
    refine GQ.step rfl (q_pure (p_assign rfl)) ?_
    refine GQ.nil (?_ : GC _ _ _ _)
    refine GC.seq' ?_
    refine GC.region ?_
    refine GL.pure rfl (p_fieldAddr fo_59_0 rfl) ?_
    refine GL.step rfl (t_mem rfl (m_load (i := 0) rfl rfl ag_3 rfl)) ?_
    refine GL.step rfl (t_store (i := 1) rfl rfl rfl rfl sz_3 rfl rfl rfl) ?_
    refine GL.nil (?_ : GC _ _ _ _)
    refine GC.seq' ?_
    refine GC.region ?_
    refine GL.pure rfl (p_move rfl) ?_
    refine GL.pure rfl (p_assign rfl) ?_
    refine GL.nil (?_ : GC _ _ _ _)
    refine GC.ret ?_
    refine fun a w h => Fin.back (rs := [.tmp 4]) (vs := [_]) (is := [1, 1, 1, 1, 1]) (js := []) rfl ⟨rfl, trivial⟩ rfl rfl ?_ h
    clear h
    refine ⟨congrArg Value.bool ?_, rfl, rfl⟩; first | exact decide_eq_decide.2 (by unfold badP; omega) | exact (decide_eq_true (by unfold badP; omega)).symm | exact (decide_eq_false (by unfold badP; omega)).symm
   ·try simp only [tst_] at h3
    refine GQ.stepG (s := 25) rfl rfl rfl (q_pure (p_fieldAddr fo_59_1 rfl)) ?_
    refine GQ.stepG (s := 25) rfl rfl rfl (q_mem (m_load (i := 0) rfl rfl ag_3 rfl)) ?_
    refine GQ.stepG (s := 25) rfl rfl rfl (q_pure (p_gtr rfl rfl)) ?_
    refine GQ.step rfl (q_pure (p_pick_false rfl rfl)) ?_
    refine GQ.step rfl (q_pure (p_move rfl)) ?_
    refine GQ.split (i := 30) rfl (fun h4 => ?_) (fun h4 => ?_)
    ·try simp only [tst_] at h4
     refine GQ.pass (s := 30) rfl rfl rfl ?_
     refine GQ.pass (s := 30) rfl rfl rfl ?_
     refine GQ.pass (s := 30) rfl rfl rfl ?_
     refine GQ.pass (s := 30) rfl rfl rfl ?_
     refine GQ.pass (s := 30) rfl rfl rfl ?_
     refine GQ.pass (s := 30) rfl rfl rfl ?_
     refine GQ.pass (s := 30) rfl rfl rfl ?_
     refine GQ.pass (s := 30) rfl rfl rfl ?_
     refine GQ.pass (s := 30) rfl rfl rfl ?_
     refine GQ.step rfl (q_pure (p_pick_true rfl rfl)) ?_
     refine GQ.step rfl (q_pure (p_assign rfl)) ?_
     refine GQ.nil (?_ : GC _ _ _ _)
     refine GC.seq' ?_
     refine GC.region ?_
     refine GL.pure rfl (p_fieldAddr fo_59_0 rfl) ?_
     refine GL.step rfl (t_mem rfl (m_load (i := 0) rfl rfl ag_3 rfl)) ?_
     refine GL.step rfl (t_store (i := 1) rfl rfl rfl rfl sz_3 rfl rfl rfl) ?_
     refine GL.nil (?_ : GC _ _ _ _)
     refine GC.seq' ?_
     refine GC.region ?_
     refine GL.pure rfl (p_move rfl) ?_
     refine GL.pure rfl (p_assign rfl) ?_
     refine GL.nil (?_ : GC _ _ _ _)
     refine GC.ret ?_
     refine fun a w h => Fin.back (rs := [.tmp 4]) (vs := [_]) (is := [1, 1, 1, 1, 1]) (js := []) rfl ⟨rfl, trivial⟩ rfl rfl ?_ h
     clear h
     refine ⟨congrArg Value.bool ?_, rfl, rfl⟩; first | exact decide_eq_decide.2 (by unfold badP; omega) | exact (decide_eq_true (by unfold badP; omega)).symm | exact (decide_eq_false (by unfold badP; omega)).symm
    ·try simp only [tst_] at h4
     refine GQ.stepG (s := 30) rfl rfl rfl (q_pure (p_fieldAddr fo_59_2 rfl)) ?_
     refine GQ.stepG (s := 30) rfl rfl rfl (q_mem (m_load (i := 0) rfl rfl ag_25 rfl)) ?_
     refine GQ.stepG (s := 30) rfl rfl rfl (q_pure (p_len Tryz.underlying25 rfl)) ?_
     refine GQ.stepG (s := 30) rfl rfl rfl (q_mem (m_load (i := 2) rfl rfl ag_177 rfl)) ?_
     refine GQ.stepG (s := 30) rfl rfl rfl (q_pure (p_nilCheck rfl)) ?_
     refine GQ.stepG (s := 30) rfl rfl rfl (q_pure (p_fieldAddr fo_217_0 rfl)) ?_
     refine GQ.stepG (s := 30) rfl rfl rfl (q_pure (p_fieldAddr fo_35_1 rfl)) ?_
     refine GQ.stepG (s := 30) rfl rfl rfl (q_mem (m_load (i := 3) rfl rfl ag_3 rfl)) ?_
     refine GQ.stepG (s := 30) rfl rfl rfl (q_pure (p_neq rfl rfl)) ?_
     refine GQ.step rfl (q_pure (p_pick_false rfl rfl)) ?_
     refine GQ.step rfl (q_pure (p_assign rfl)) ?_
     refine GQ.nil (?_ : GC _ _ _ _)
     refine GC.seq' ?_
     refine GC.region ?_
     refine GL.pure rfl (p_fieldAddr fo_59_0 rfl) ?_
     refine GL.step rfl (t_mem rfl (m_load (i := 0) rfl rfl ag_3 rfl)) ?_
     refine GL.step rfl (t_store (i := 1) rfl rfl rfl rfl sz_3 rfl rfl rfl) ?_
     refine GL.nil (?_ : GC _ _ _ _)
     refine GC.seq' ?_
     refine GC.region ?_
     refine GL.pure rfl (p_move rfl) ?_
     refine GL.pure rfl (p_assign rfl) ?_
     refine GL.nil (?_ : GC _ _ _ _)
     refine GC.ret ?_
     refine fun a w h => Fin.back (rs := [.tmp 4]) (vs := [_]) (is := [1, 1, 1, 1, 1]) (js := []) rfl ⟨rfl, trivial⟩ rfl rfl ?_ h
     clear h
     refine ⟨congrArg Value.bool ?_, rfl, rfl⟩; first | exact decide_eq_decide.2 (by unfold badP; omega) | exact (decide_eq_true (by unfold badP; omega)).symm | exact (decide_eq_false (by unfold badP; omega)).symm
theorem index_ct (q wb p pb pv : Nat) (v : Vol) (A : Option Addr) (l : List Page) (cp : Nat) (hl : l.length ≤ 140737488355328) : Ct Tryz.prog 166 [.slice A l.length cp, .func (.func 179) #[] #[.pointer (some ⟨q, 0, none⟩), .pointer (some ⟨wb, 0, none⟩)]] (capG q wb p (-1) ++ volG p pb pv v) [Pers.row kPage A l]
    (fun u G Q => ∃ r la, (0 ≤ r ↔ laidF v.bl v.sz (-1) l = false) ∧ u = .int .i64 r ∧ G = capG q wb p la ++ volG p pb pv v ∧ Q = []) := by
 refine Ct.intro Tryz.func166 rfl rfl rfl (fun c hc => ?_)
 refine GC.seq' ?_
 refine GC.region ?_
 refine GL.pure rfl (p_assign rfl) ?_
 refine GL.nil (?_ : GC _ _ _ _)
 refine GC.seq' ?_
 refine GC.seq' ?_
 refine GC.region ?_
 refine GL.pure rfl (p_move rfl) ?_
 refine GL.pure rfl (p_len Tryz.underlying36 rfl) ?_
 refine GL.pure rfl (p_move rfl) ?_
 refine GL.nil (?_ : GC _ _ _ _)
 refine GC.block ?_
 refine GC.imp (fun a w h => (⟨⟨by simp, rfl⟩, h.cut (is := [0, 0, 0, 0, 0]) (js := [0]) ⟨rfl, rfl, rfl, rfl, trivial⟩ rfl rfl⟩ : (fun (y : Nat × Int) (a : Act) (w : World) => (y.1 ≤ l.length ∧ laidF v.bl v.sz (-1) l = laidF v.bl v.sz y.2 (l.drop y.1)) ∧ St c 19 [(0, .slice A l.length cp), (1, .func (.func 179) #[] #[.pointer (some ⟨q, 0, none⟩), .pointer (some ⟨wb, 0, none⟩)]), (7, .int .i64 (l.length : Int)), (8, .int .i64 (y.1 : Int))] [.cells q [.int .i64 y.2] 3, .cells wb [.pointer (some ⟨p, 0, none⟩)] 177, .cells p [.int .i64 v.bl, .int .i64 v.sz, .slice (some ⟨pb, 0, none⟩) (v.bl * v.sz).toNat (v.bl * v.sz).toNat, .slice (some ⟨pv, 0, none⟩) v.bl.toNat v.bl.toNat, .int .i64 v.last] 217, .cells pb (v.b.map u8v) 5, .cells pv (v.vs.map (Value.int .i64)) 3] [Pers.row kPage A l] a w) (0, -1) a w)) (GC.loop (fun (y : Nat × Int) (a : Act) (w : World) => (y.1 ≤ l.length ∧ laidF v.bl v.sz (-1) l = laidF v.bl v.sz y.2 (l.drop y.1)) ∧ St c 19 [(0, .slice A l.length cp), (1, .func (.func 179) #[] #[.pointer (some ⟨q, 0, none⟩), .pointer (some ⟨wb, 0, none⟩)]), (7, .int .i64 (l.length : Int)), (8, .int .i64 (y.1 : Int))] [.cells q [.int .i64 y.2] 3, .cells wb [.pointer (some ⟨p, 0, none⟩)] 177, .cells p [.int .i64 v.bl, .int .i64 v.sz, .slice (some ⟨pb, 0, none⟩) (v.bl * v.sz).toNat (v.bl * v.sz).toNat, .slice (some ⟨pv, 0, none⟩) v.bl.toNat v.bl.toNat, .int .i64 v.last] 217, .cells pb (v.b.map u8v) 5, .cells pv (v.vs.map (Value.int .i64)) 3] [Pers.row kPage A l] a w) (fun y => l.length - y.1) (0, -1) ?_)
 intro y
 refine GC.and fun hk => ?_
 obtain ⟨k, last⟩ := y
 dsimp only at hk ⊢
 obtain ⟨hk, he⟩ := hk
 refine GC.seq' ?_
 refine GC.region ?_
 refine GL.pure rfl (p_lss rfl rfl) ?_
 refine GL.nil (?_ : GC _ _ _ _)
 refine GC.seq' ?_
 refine GC.cond rfl (fun h1 => ?_) (fun h1 => ?_)
 ·try simp only [tst_] at h1
  refine GC.skip (?_ : GC _ _ _ _)
  refine GC.seq' ?_
  refine GC.block ?_
  refine GC.seq' ?_
  refine GC.region ?_
  refine GL.pure rfl (p_move rfl) ?_
  refine GL.pure rfl (p_assign rfl) ?_
  refine GL.nil (?_ : GC _ _ _ _)
  refine GC.seq' ?_
  refine GC.region ?_
  refine GL.pure rfl (p_move rfl) ?_
  refine GL.pure rfl (p_move rfl) ?_
  refine GL.pure rfl (p_move rfl) ?_
  refine GL.step rfl (t_index (i := 0) rfl rfl rfl rfl Tryz.underlying36 sz_59 (by omega) (gt_ok (by omega) (by omega))) (GL.ex fun p_x14 => GL.ex fun r_x14 => GL.and fun ok_x14 => ?_)
  rcases r_x14 with ⟨_, ⟨_, ⟨Ax14_0, cpx14_0⟩⟩⟩
  refine GL.step rfl (t_mem rfl (m_loadPN (i := 0) rfl rfl ag_59 (vs := [_, _, _]) sz_59 ⟨rfl, rfl, rfl, trivial⟩)) ?_
  refine GL.step rfl (t_callv rfl fn_179 rfl rfl (is := [0, 0, 0, 0, 0]) (js := []) rfl rfl (by exact laidc_ct _ _ _ _ _ _ _ (gt l (k : Int)) _ _)) (GL.ret ?_)
  rintro _ _ _ ⟨rfl, rfl, rfl⟩
  refine GL.nil (?_ : GC _ _ _ _)
  refine GC.cond rfl (fun h2 => ?_) (fun h2 => ?_)
  ·try simp only [tst_] at h2
   refine GC.seq' ?_
   refine GC.region ?_
   refine GL.pure rfl (p_move rfl) ?_
   refine GL.pure rfl (p_assign rfl) ?_
   refine GL.nil (?_ : GC _ _ _ _)
   refine GC.ret ?_
   refine fun a w h => Fin.back (rs := [.tmp 4]) (vs := [_]) (is := [0, 0, 0, 0, 0]) (js := []) rfl ⟨rfl, trivial⟩ rfl rfl ?_ h
   clear h
   exact ⟨_, _, ⟨fun _ => by rw [he]; exact laidF_bad (by omega) (by simpa using h2), fun _ => by omega⟩, rfl, rfl, rfl⟩
  ·try simp only [tst_] at h2
   refine GC.skip (?_ : GC _ _ _ _)
   refine GC.region ?_
   refine GL.pure rfl (p_add rfl rfl (w64 (by omega) (by omega))) ?_
   refine GL.pure rfl (p_move rfl) ?_
   refine GL.nil ?_
   exact fun a w h => ⟨(k + 1, (gt l (k : Int)).at_), (by simp only; omega), ⟨by simp only; omega, by simp only; rw [he]; exact laidF_ok (by omega) (by simpa using h2)⟩, h.cut (is := [0, 0, 0, 0, 0]) (js := [2]) ⟨rfl, rfl, rfl, rfl, trivial⟩ rfl rfl⟩
 ·try simp only [tst_] at h1
  refine GC.exit (?_ : GC _ _ _ _)
  refine GC.seq' ?_
  refine GC.region ?_
  refine GL.pure rfl (p_assign rfl) ?_
  refine GL.nil (?_ : GC _ _ _ _)
  refine GC.ret ?_
  refine fun a w h => Fin.back (rs := [.tmp 4]) (vs := [_]) (is := [0, 0, 0, 0, 0]) (js := []) rfl ⟨rfl, trivial⟩ rfl rfl ?_ h
  clear h
  exact ⟨_, _, ⟨fun g => by omega, fun g => by rw [he, laidF_end (by omega)] at g; cases g⟩, rfl, rfl, rfl⟩
theorem contains_ct (q wb p pb pv : Nat) (v : Vol) (A : Option Addr) (l : List Page) (cp : Nat) (hl : l.length ≤ 140737488355328) : Ct Tryz.prog 147 [.slice A l.length cp, .func (.func 179) #[] #[.pointer (some ⟨q, 0, none⟩), .pointer (some ⟨wb, 0, none⟩)]] (capG q wb p (-1) ++ volG p pb pv v) [Pers.row kPage A l]
    (fun u G Q => ∃ la, u = .bool (!laidF v.bl v.sz (-1) l) ∧ G = capG q wb p la ++ volG p pb pv v ∧ Q = []) := by
 refine Ct.intro Tryz.func147 rfl rfl rfl (fun c hc => ?_)
 refine GC.seq' ?_
 refine GC.region ?_
 refine GL.pure rfl (p_assign rfl) ?_
 refine GL.nil (?_ : GC _ _ _ _)
 refine GC.seq' ?_
 refine GC.region ?_
 refine GL.pure rfl (p_move rfl) ?_
 refine GL.pure rfl (p_move rfl) ?_
 refine GL.step rfl (t_call rfl fn_166 rfl (is := [0, 0, 0, 0, 0]) (js := [0]) rfl rfl (by exact index_ct _ _ _ _ _ v _ _ _ hl)) (GL.ret ?_)
 rintro _ _ _ ⟨r7, la7, hr7, rfl, rfl, rfl⟩
 refine GL.pure rfl (p_geq rfl rfl) ?_
 refine GL.pure rfl (p_assign rfl) ?_
 refine GL.nil (?_ : GC _ _ _ _)
 refine GC.ret ?_
 refine fun a w h => Fin.back (rs := [.tmp 4]) (vs := [_]) (is := [0, 0, 0, 0, 0]) (js := []) rfl ⟨rfl, trivial⟩ rfl rfl ?_ h
 clear h
 refine ⟨_, congrArg Value.bool ?_, rfl, rfl⟩
 cases hb : laidF v.bl v.sz (-1) l
 ·exact decide_eq_true (hr7.2 hb)
 ·exact decide_eq_false (fun g => by have := hr7.1 g; rw [hb] at this; cases this)
theorem laid_ct (p pb pv : Nat) (v : Vol) (A : Option Addr) (l : List Page) (cp : Nat) (hl : l.length ≤ 140737488355328) : Ct Tryz.prog 174 [.pointer (some ⟨p, 0, none⟩), .slice A l.length cp] (volG p pb pv v) [Pers.row kPage A l]
    (fun u G Q => u = .bool (laidF v.bl v.sz (-1) l) ∧ G = volG p pb pv v ∧ Q = []) := by
 refine Ct.intro Tryz.func174 rfl rfl rfl (fun c hc => ?_)
 refine GC.seq' ?_
 refine GC.region ?_
 refine GL.step rfl (t_box rfl rfl rfl) (GL.ex fun b_t2 => ?_)
 refine GL.pure rfl (p_assign rfl) ?_
 refine GL.nil (?_ : GC _ _ _ _)
 refine GC.seq' ?_
 refine GC.region ?_
 refine GL.step rfl (t_alloc rfl ze_3) (GL.ex fun b_t5 => ?_)
 refine GL.step rfl (t_store (i := 0) rfl rfl rfl rfl sz_3 rfl rfl rfl) ?_
 refine GL.nil (?_ : GC _ _ _ _)
 refine GC.seq' ?_
 refine GC.region ?_
 refine GL.pure rfl (p_move rfl) ?_
 refine GL.pure rfl (p_makeFunc rfl rfl) ?_
 refine GL.step rfl (t_call rfl fn_147 rfl (is := [0, 0, 0, 0, 0]) (js := [0]) rfl rfl (by exact contains_ct _ _ _ _ _ v _ _ _ hl)) (GL.ret ?_)
 rintro _ _ _ ⟨la8, rfl, rfl, rfl⟩
 refine GL.pure rfl (p_not rfl) ?_
 refine GL.pure rfl (p_assign rfl) ?_
 refine GL.nil (?_ : GC _ _ _ _)
 refine GC.ret ?_
 refine fun a w h => Fin.back (rs := [.tmp 4]) (vs := [_]) (is := [2, 2, 2]) (js := []) rfl ⟨rfl, trivial⟩ rfl rfl ?_ h
 clear h
 exact ⟨by rw [Bool.not_not]; rfl, rfl, rfl⟩
end Go.Proofs.YtdhdmbmknpjhbaaGreat
namespace Go.Proofs.YtdhdmbmknpjhbaaGreat
open Go Go.Sx Go.Proofs
def lastOf (l : List Page) : Nat → Int
  | 0 => -1
  | k + 1 => (gt l (k : Int)).at_
theorem rlaid_ct (bl sz : Int) (A : Option Addr) (l : List Page) (cp : Nat) (hl : l.length ≤ 140737488355328) (hd : ∀ x ∈ l, x.data.length ≤ 140737488355328) : Ct Tryz.prog 67 [shpV bl sz, .slice A l.length cp] [] [Pers.row kPage A l] (fun u G Q => u = .bool (laidF bl sz (-1) l) ∧ G = [] ∧ Q = []) := by
 refine Ct.intro Tryz.func67 rfl rfl rfl (fun c hc => ?_)
 refine GC.seq' ?_
 refine GC.region ?_
 refine GL.step rfl (t_box rfl rfl rfl) (GL.ex fun b_t2 => ?_)
 refine GL.pure rfl (p_assign rfl) ?_
 refine GL.nil (?_ : GC _ _ _ _)
 refine GC.seq' ?_
 refine GC.seq' ?_
 refine GC.region ?_
 refine GL.pure rfl (p_assign rfl) ?_
 refine GL.nil (?_ : GC _ _ _ _)
 refine GC.block ?_
 refine GC.imp (fun a w h => (⟨⟨by simp, rfl, by simp [lastOf]⟩, h.cut (is := [0]) (js := [0]) ⟨rfl, rfl, rfl, trivial⟩ rfl rfl⟩ : (fun (k : Nat) (a : Act) (w : World) => (k ≤ l.length ∧ laidF bl sz (-1) l = laidF bl sz (lastOf l k) (l.drop k) ∧ -1 ≤ lastOf l k) ∧ St c 60 [(1, .slice A l.length cp), (2, .pointer (some ⟨b_t2, 0, none⟩)), (5, .int .i64 (k : Int))] [.cells b_t2 [.int .i64 bl, .int .i64 sz] 35] [Pers.row kPage A l] a w) 0 a w)) (GC.loop (fun (k : Nat) (a : Act) (w : World) => (k ≤ l.length ∧ laidF bl sz (-1) l = laidF bl sz (lastOf l k) (l.drop k) ∧ -1 ≤ lastOf l k) ∧ St c 60 [(1, .slice A l.length cp), (2, .pointer (some ⟨b_t2, 0, none⟩)), (5, .int .i64 (k : Int))] [.cells b_t2 [.int .i64 bl, .int .i64 sz] 35] [Pers.row kPage A l] a w) (fun k => l.length - k) 0 ?_)
 intro k
 refine GC.and fun hk => ?_
 obtain ⟨hk, he, hlast⟩ := hk
 refine GC.seq' ?_
 refine GC.seq' ?_
 refine GC.region ?_
 refine GL.pure rfl (p_move rfl) ?_
 refine GL.pure rfl (p_move rfl) ?_
 refine GL.pure rfl (p_len Tryz.underlying36 rfl) ?_
 refine GL.pure rfl (p_lss rfl rfl) ?_
 refine GL.nil (?_ : GC _ _ _ _)
 refine GC.cond rfl (fun h1 => ?_) (fun h1 => ?_)
 ·try simp only [tst_] at h1
  first
  | (exfalso; omega)
  |(skip
    refine GC.skip (?_ : GC _ _ _ _)
    refine GC.seq' ?_
    refine GC.block ?_
    refine GC.seq' ?_
    refine GC.region ?_
    refine GL.pure rfl (p_move rfl) ?_
    refine GL.pure rfl (p_move rfl) ?_
    refine GL.step rfl (t_index (i := 0) rfl rfl rfl rfl Tryz.underlying36 sz_59 (by omega) (gt_ok (by omega) (by omega))) (GL.ex fun p_x15 => GL.ex fun r_x15 => GL.and fun ok_x15 => ?_)
    rcases r_x15 with ⟨_, ⟨_, ⟨Ax15_0, cpx15_0⟩⟩⟩
    refine GL.step rfl (t_mem rfl (m_loadPN (i := 0) rfl rfl ag_59 (vs := [_, _, _]) sz_59 ⟨rfl, rfl, rfl, trivial⟩)) ?_
    refine GL.step rfl (t_alloc rfl ze_59) (GL.ex fun b_t6 => ?_)
    refine GL.step rfl (t_storeN (i := 0) rfl rfl rfl sz_59 rfl rfl rfl) ?_
    refine GL.nil (?_ : GC _ _ _ _)
    refine GC.seq' ?_
    rcases k with _ | k
    ·skip
     refine GC.regionQ wide_ (by kernel_rfl) ?_
     refine GQ.step rfl (q_pure (p_fieldAddr fo_59_0 rfl)) ?_
     refine GQ.step rfl (q_mem (m_load (i := 0) rfl rfl ag_3 rfl)) ?_
     refine GQ.step rfl (q_pure (p_lss rfl rfl)) ?_
     refine GQ.step rfl (q_pure (p_move rfl)) ?_
     refine GQ.split (i := 20) rfl (fun h2 => ?_) (fun h2 => ?_)
     ·try simp only [tst_] at h2
      first
      | (exfalso; omega)
      |(skip
        refine GQ.pass (s := 20) rfl rfl rfl ?_
        refine GQ.pass (s := 20) rfl rfl rfl ?_
        refine GQ.pass (s := 20) rfl rfl rfl ?_
        refine GQ.pass (s := 20) rfl rfl rfl ?_
        refine GQ.pass (s := 20) rfl rfl rfl ?_
        refine GQ.step rfl (q_pure (p_pick_true rfl rfl)) ?_
        refine GQ.step rfl (q_pure (p_move rfl)) ?_
        refine GQ.pass (s := 27) rfl rfl rfl ?_
        refine GQ.pass (s := 27) rfl rfl rfl ?_
        refine GQ.pass (s := 27) rfl rfl rfl ?_
        refine GQ.passU (s := 30) rfl rfl rfl ?_
        refine GQ.passU (s := 30) rfl rfl rfl ?_
        refine GQ.passU (s := 30) rfl rfl rfl ?_
        refine GQ.passU (s := 30) rfl rfl rfl ?_
        refine GQ.passU (s := 30) rfl rfl rfl ?_
        refine GQ.passU (s := 30) rfl rfl rfl ?_
        refine GQ.passU (s := 30) rfl rfl rfl ?_
        refine GQ.passU (s := 30) rfl rfl rfl ?_
        refine GQ.passU (s := 30) rfl rfl rfl ?_
        refine GQ.pass (s := 27) rfl rfl rfl ?_
        refine GQ.step rfl (q_pure (p_pick_true rfl rfl)) ?_
        refine GQ.step rfl (q_pure (p_move rfl)) ?_
        refine GQ.pass (s := 42) rfl rfl rfl ?_
        refine GQ.pass (s := 42) rfl rfl rfl ?_
        refine GQ.pass (s := 42) rfl rfl rfl ?_
        refine GQ.step rfl (q_pure (p_pick_true rfl rfl)) ?_
        refine GQ.step rfl (q_pure (p_move rfl)) ?_
        refine GQ.pass (s := 47) rfl rfl rfl ?_
        refine GQ.pass (s := 47) rfl rfl rfl ?_
        refine GQ.pass (s := 47) rfl rfl rfl ?_
        refine GQ.step rfl (q_pure (p_pick_true rfl rfl)) ?_
        refine GQ.step rfl (q_pure (p_move rfl)) ?_
        refine GQ.pass (s := 52) rfl rfl rfl ?_
        refine GQ.pass (s := 52) rfl rfl rfl ?_
        refine GQ.pass (s := 52) rfl rfl rfl ?_
        refine GQ.pass (s := 52) rfl rfl rfl ?_
        refine GQ.pass (s := 52) rfl rfl rfl ?_
        refine GQ.pass (s := 52) rfl rfl rfl ?_
        refine GQ.step rfl (q_pure (p_pick_true rfl rfl)) ?_
        refine GQ.nil (?_ : GC _ _ _ _)
        refine GC.cond_true rfl ?_
        refine GC.seq' ?_
        refine GC.region ?_
        refine GL.pure rfl (p_assign rfl) ?_
        refine GL.nil (?_ : GC _ _ _ _)
        refine GC.ret ?_
        refine fun a w h => Fin.back (rs := [.tmp 4]) (vs := [_]) (is := []) (js := []) rfl ⟨rfl, trivial⟩ rfl rfl ?_ h
        clear h
        first | (exact ⟨by rw [he, laidF_end (by omega)]; rfl, rfl, rfl⟩) | (exact ⟨by rw [he, laidF_bad (by omega) (by unfold badP; (try simp only [lastOf] at *); (try simp only [show ∀ x : Nat, ((x + 1 : Nat) : Int) - 1 = x by omega] at *); omega)]; rfl, rfl, rfl⟩))
     ·try simp only [tst_] at h2
      first
      | (exfalso; omega)
      |(skip
        refine GQ.stepG (s := 20) rfl rfl rfl (q_pure (p_fieldAddr fo_59_0 rfl)) ?_
        refine GQ.stepG (s := 20) rfl rfl rfl (q_mem (m_load (i := 0) rfl rfl ag_3 rfl)) ?_
        refine GQ.stepG (s := 20) rfl rfl rfl (q_pure (p_fieldAddr fo_35_0 rfl)) ?_
        refine GQ.stepG (s := 20) rfl rfl rfl (q_mem (m_load (i := 1) rfl rfl ag_3 rfl)) ?_
        refine GQ.stepG (s := 20) rfl rfl rfl (q_pure (p_geq rfl rfl)) ?_
        refine GQ.step rfl (q_pure (p_pick_false rfl rfl)) ?_
        refine GQ.step rfl (q_pure (p_move rfl)) ?_
        refine GQ.split (i := 27) rfl (fun h3 => ?_) (fun h3 => ?_)
        ·try simp only [tst_] at h3
         first
         | (exfalso; omega)
         |(skip
           refine GQ.pass (s := 27) rfl rfl rfl ?_
           refine GQ.pass (s := 27) rfl rfl rfl ?_
           refine GQ.pass (s := 27) rfl rfl rfl ?_
           refine GQ.passU (s := 30) rfl rfl rfl ?_
           refine GQ.passU (s := 30) rfl rfl rfl ?_
           refine GQ.passU (s := 30) rfl rfl rfl ?_
           refine GQ.passU (s := 30) rfl rfl rfl ?_
           refine GQ.passU (s := 30) rfl rfl rfl ?_
           refine GQ.passU (s := 30) rfl rfl rfl ?_
           refine GQ.passU (s := 30) rfl rfl rfl ?_
           refine GQ.passU (s := 30) rfl rfl rfl ?_
           refine GQ.passU (s := 30) rfl rfl rfl ?_
           refine GQ.pass (s := 27) rfl rfl rfl ?_
           refine GQ.step rfl (q_pure (p_pick_true rfl rfl)) ?_
           refine GQ.step rfl (q_pure (p_move rfl)) ?_
           refine GQ.pass (s := 42) rfl rfl rfl ?_
           refine GQ.pass (s := 42) rfl rfl rfl ?_
           refine GQ.pass (s := 42) rfl rfl rfl ?_
           refine GQ.step rfl (q_pure (p_pick_true rfl rfl)) ?_
           refine GQ.step rfl (q_pure (p_move rfl)) ?_
           refine GQ.pass (s := 47) rfl rfl rfl ?_
           refine GQ.pass (s := 47) rfl rfl rfl ?_
           refine GQ.pass (s := 47) rfl rfl rfl ?_
           refine GQ.step rfl (q_pure (p_pick_true rfl rfl)) ?_
           refine GQ.step rfl (q_pure (p_move rfl)) ?_
           refine GQ.pass (s := 52) rfl rfl rfl ?_
           refine GQ.pass (s := 52) rfl rfl rfl ?_
           refine GQ.pass (s := 52) rfl rfl rfl ?_
           refine GQ.pass (s := 52) rfl rfl rfl ?_
           refine GQ.pass (s := 52) rfl rfl rfl ?_
           refine GQ.pass (s := 52) rfl rfl rfl ?_
           refine GQ.step rfl (q_pure (p_pick_true rfl rfl)) ?_
           refine GQ.nil (?_ : GC _ _ _ _)
           refine GC.cond_true rfl ?_
           refine GC.seq' ?_
           refine GC.region ?_
           refine GL.pure rfl (p_assign rfl) ?_
           refine GL.nil (?_ : GC _ _ _ _)
           refine GC.ret ?_
           refine fun a w h => Fin.back (rs := [.tmp 4]) (vs := [_]) (is := []) (js := []) rfl ⟨rfl, trivial⟩ rfl rfl ?_ h
           clear h
           first | (exact ⟨by rw [he, laidF_end (by omega)]; rfl, rfl, rfl⟩) | (exact ⟨by rw [he, laidF_bad (by omega) (by unfold badP; (try simp only [lastOf] at *); (try simp only [show ∀ x : Nat, ((x + 1 : Nat) : Int) - 1 = x by omega] at *); omega)]; rfl, rfl, rfl⟩))
        ·try simp only [tst_] at h3
         first
         | (exfalso; omega)
         |(skip
           refine GQ.stepG (s := 27) rfl rfl rfl (q_pure (p_move rfl)) ?_
           refine GQ.stepG (s := 27) rfl rfl rfl (q_pure (p_gtr rfl rfl)) ?_
           refine GQ.stepG (s := 27) rfl rfl rfl (q_pure (p_move rfl)) ?_
           refine GQ.split (i := 30) rfl (fun h4 => ?_) (fun h4 => ?_)
           ·try simp only [tst_] at h4
            first
            | (exfalso; omega)
            |(skip
              refine GQ.stepG (s := 30) rfl rfl rfl (q_pure (p_fieldAddr fo_59_0 rfl)) ?_
              refine GQ.stepG (s := 30) rfl rfl rfl (q_mem (m_load (i := 0) rfl rfl ag_3 rfl)) ?_
              refine GQ.stepG (s := 30) rfl rfl rfl (q_pure (p_move rfl)) ?_
              refine GQ.stepG (s := 30) rfl rfl rfl (q_pure (p_move rfl)) ?_
              refine GQ.stepG (s := 30) rfl rfl rfl (q_pure (p_sub rfl rfl (w64 (by omega) (by omega)))) ?_
              exact (by omega : False).elim)
           ·try simp only [tst_] at h4
            first
            | (exfalso; omega)
            |(skip
              refine GQ.pass (s := 30) rfl rfl rfl ?_
              refine GQ.pass (s := 30) rfl rfl rfl ?_
              refine GQ.pass (s := 30) rfl rfl rfl ?_
              refine GQ.pass (s := 30) rfl rfl rfl ?_
              refine GQ.pass (s := 30) rfl rfl rfl ?_
              refine GQ.pass (s := 30) rfl rfl rfl ?_
              refine GQ.pass (s := 30) rfl rfl rfl ?_
              refine GQ.pass (s := 30) rfl rfl rfl ?_
              refine GQ.pass (s := 30) rfl rfl rfl ?_
              refine GQ.stepG (s := 27) rfl rfl rfl (q_pure (p_pick_false rfl rfl)) ?_
              refine GQ.step rfl (q_pure (p_pick_false rfl rfl)) ?_
              refine GQ.step rfl (q_pure (p_move rfl)) ?_
              refine GQ.stepG (s := 42) rfl rfl rfl (q_pure (p_fieldAddr fo_59_1 rfl)) ?_
              refine GQ.stepG (s := 42) rfl rfl rfl (q_mem (m_load (i := 0) rfl rfl ag_3 rfl)) ?_
              refine GQ.stepG (s := 42) rfl rfl rfl (q_pure (p_lss rfl rfl)) ?_
              refine GQ.step rfl (q_pure (p_pick_false rfl rfl)) ?_
              refine GQ.step rfl (q_pure (p_move rfl)) ?_
              refine GQ.split (i := 47) rfl (fun h5 => ?_) (fun h5 => ?_)
              ·try simp only [tst_] at h5
               first
               | (exfalso; omega)
               |(skip
                 refine GQ.pass (s := 47) rfl rfl rfl ?_
                 refine GQ.pass (s := 47) rfl rfl rfl ?_
                 refine GQ.pass (s := 47) rfl rfl rfl ?_
                 refine GQ.step rfl (q_pure (p_pick_true rfl rfl)) ?_
                 refine GQ.step rfl (q_pure (p_move rfl)) ?_
                 refine GQ.pass (s := 52) rfl rfl rfl ?_
                 refine GQ.pass (s := 52) rfl rfl rfl ?_
                 refine GQ.pass (s := 52) rfl rfl rfl ?_
                 refine GQ.pass (s := 52) rfl rfl rfl ?_
                 refine GQ.pass (s := 52) rfl rfl rfl ?_
                 refine GQ.pass (s := 52) rfl rfl rfl ?_
                 refine GQ.step rfl (q_pure (p_pick_true rfl rfl)) ?_
                 refine GQ.nil (?_ : GC _ _ _ _)
                 refine GC.cond_true rfl ?_
                 refine GC.seq' ?_
                 refine GC.region ?_
                 refine GL.pure rfl (p_assign rfl) ?_
                 refine GL.nil (?_ : GC _ _ _ _)
                 refine GC.ret ?_
                 refine fun a w h => Fin.back (rs := [.tmp 4]) (vs := [_]) (is := []) (js := []) rfl ⟨rfl, trivial⟩ rfl rfl ?_ h
                 clear h
                 first | (exact ⟨by rw [he, laidF_end (by omega)]; rfl, rfl, rfl⟩) | (exact ⟨by rw [he, laidF_bad (by omega) (by unfold badP; (try simp only [lastOf] at *); (try simp only [show ∀ x : Nat, ((x + 1 : Nat) : Int) - 1 = x by omega] at *); omega)]; rfl, rfl, rfl⟩))
              ·try simp only [tst_] at h5
               first
               | (exfalso; omega)
               |(skip
                 refine GQ.stepG (s := 47) rfl rfl rfl (q_pure (p_fieldAddr fo_59_1 rfl)) ?_
                 refine GQ.stepG (s := 47) rfl rfl rfl (q_mem (m_load (i := 0) rfl rfl ag_3 rfl)) ?_
                 refine GQ.stepG (s := 47) rfl rfl rfl (q_pure (p_gtr rfl rfl)) ?_
                 refine GQ.step rfl (q_pure (p_pick_false rfl rfl)) ?_
                 refine GQ.step rfl (q_pure (p_move rfl)) ?_
                 refine GQ.split (i := 52) rfl (fun h6 => ?_) (fun h6 => ?_)
                 ·try simp only [tst_] at h6
                  first
                  | (exfalso; omega)
                  |(skip
                    refine GQ.pass (s := 52) rfl rfl rfl ?_
                    refine GQ.pass (s := 52) rfl rfl rfl ?_
                    refine GQ.pass (s := 52) rfl rfl rfl ?_
                    refine GQ.pass (s := 52) rfl rfl rfl ?_
                    refine GQ.pass (s := 52) rfl rfl rfl ?_
                    refine GQ.pass (s := 52) rfl rfl rfl ?_
                    refine GQ.step rfl (q_pure (p_pick_true rfl rfl)) ?_
                    refine GQ.nil (?_ : GC _ _ _ _)
                    refine GC.cond_true rfl ?_
                    refine GC.seq' ?_
                    refine GC.region ?_
                    refine GL.pure rfl (p_assign rfl) ?_
                    refine GL.nil (?_ : GC _ _ _ _)
                    refine GC.ret ?_
                    refine fun a w h => Fin.back (rs := [.tmp 4]) (vs := [_]) (is := []) (js := []) rfl ⟨rfl, trivial⟩ rfl rfl ?_ h
                    clear h
                    first | (exact ⟨by rw [he, laidF_end (by omega)]; rfl, rfl, rfl⟩) | (exact ⟨by rw [he, laidF_bad (by omega) (by unfold badP; (try simp only [lastOf] at *); (try simp only [show ∀ x : Nat, ((x + 1 : Nat) : Int) - 1 = x by omega] at *); omega)]; rfl, rfl, rfl⟩))
                 ·try simp only [tst_] at h6
                  first
                  | (exfalso; omega)
                  |(skip
                    refine GQ.stepG (s := 52) rfl rfl rfl (q_pure (p_fieldAddr fo_59_2 rfl)) ?_
                    refine GQ.stepG (s := 52) rfl rfl rfl (q_mem (m_load (i := 0) rfl rfl ag_25 rfl)) ?_
                    refine GQ.stepG (s := 52) rfl rfl rfl (q_pure (p_len Tryz.underlying25 rfl)) ?_
                    refine GQ.stepG (s := 52) rfl rfl rfl (q_pure (p_fieldAddr fo_35_1 rfl)) ?_
                    refine GQ.stepG (s := 52) rfl rfl rfl (q_mem (m_load (i := 1) rfl rfl ag_3 rfl)) ?_
                    refine GQ.stepG (s := 52) rfl rfl rfl (q_pure (p_neq rfl rfl)) ?_
                    refine GQ.step rfl (q_pure (p_pick_false rfl rfl)) ?_
                    refine GQ.nil (?_ : GC _ _ _ _)
                    refine GC.cond rfl (fun h7 => ?_) (fun h7 => ?_)
                    ·try simp only [tst_] at h7
                     first
                     | (exfalso; omega)
                     |(skip
                       refine GC.seq' ?_
                       refine GC.region ?_
                       refine GL.pure rfl (p_assign rfl) ?_
                       refine GL.nil (?_ : GC _ _ _ _)
                       refine GC.ret ?_
                       refine fun a w h => Fin.back (rs := [.tmp 4]) (vs := [_]) (is := []) (js := []) rfl ⟨rfl, trivial⟩ rfl rfl ?_ h
                       clear h
                       first | (exact ⟨by rw [he, laidF_end (by omega)]; rfl, rfl, rfl⟩) | (exact ⟨by rw [he, laidF_bad (by omega) (by unfold badP; (try simp only [lastOf] at *); (try simp only [show ∀ x : Nat, ((x + 1 : Nat) : Int) - 1 = x by omega] at *); omega)]; rfl, rfl, rfl⟩))
                    ·try simp only [tst_] at h7
                     first
                     | (exfalso; omega)
                     |(skip
                       refine GC.skip (?_ : GC _ _ _ _)
                       refine GC.region ?_
                       refine GL.pure rfl (p_move rfl) ?_
                       refine GL.pure rfl (p_add rfl rfl (w64 (by omega) (by omega))) ?_
                       refine GL.pure rfl (p_assign rfl) ?_
                       refine GL.nil ?_
                       exact fun a w h => ⟨(_ + 1), (by omega), ⟨by omega, by rw [he]; exact laidF_ok (by omega) (by unfold badP; (try simp only [lastOf] at *); (try simp only [show ∀ x : Nat, ((x + 1 : Nat) : Int) - 1 = x by omega] at *); omega), by simp only [lastOf]; omega⟩, h.cut (is := [1]) (js := [2]) ⟨rfl, rfl, rfl, trivial⟩ rfl rfl⟩))))))
    ·skip
     refine GC.lay (x := .tmp 1) (y := .const (.int .i64 (((k + 1 : Nat) : Int) - 1))) (j := 2) rfl rfl rfl (by omega) (gt_ok (by omega) (by omega)) (fun p_xp r_xp hA_xp ok_xp => ?_)
     rcases r_xp with ⟨_, ⟨_, ⟨Axp_0, cpxp_0⟩⟩⟩
     refine GC.regionQ wide_ (by kernel_rfl) ?_
     refine GQ.step rfl (q_pure (p_fieldAddr fo_59_0 rfl)) ?_
     refine GQ.step rfl (q_mem (m_load (i := 0) rfl rfl ag_3 rfl)) ?_
     refine GQ.step rfl (q_pure (p_lss rfl rfl)) ?_
     refine GQ.step rfl (q_pure (p_move rfl)) ?_
     refine GQ.split (i := 20) rfl (fun h8 => ?_) (fun h8 => ?_)
     ·try simp only [tst_] at h8
      first
      | (exfalso; omega)
      |(skip
        refine GQ.pass (s := 20) rfl rfl rfl ?_
        refine GQ.pass (s := 20) rfl rfl rfl ?_
        refine GQ.pass (s := 20) rfl rfl rfl ?_
        refine GQ.pass (s := 20) rfl rfl rfl ?_
        refine GQ.pass (s := 20) rfl rfl rfl ?_
        refine GQ.step rfl (q_pure (p_pick_true rfl rfl)) ?_
        refine GQ.step rfl (q_pure (p_move rfl)) ?_
        refine GQ.pass (s := 27) rfl rfl rfl ?_
        refine GQ.pass (s := 27) rfl rfl rfl ?_
        refine GQ.pass (s := 27) rfl rfl rfl ?_
        refine GQ.passU (s := 30) rfl rfl rfl ?_
        refine GQ.passU (s := 30) rfl rfl rfl ?_
        refine GQ.passU (s := 30) rfl rfl rfl ?_
        refine GQ.passU (s := 30) rfl rfl rfl ?_
        refine GQ.passU (s := 30) rfl rfl rfl ?_
        refine GQ.passU (s := 30) rfl rfl rfl ?_
        refine GQ.passU (s := 30) rfl rfl rfl ?_
        refine GQ.passU (s := 30) rfl rfl rfl ?_
        refine GQ.passU (s := 30) rfl rfl rfl ?_
        refine GQ.pass (s := 27) rfl rfl rfl ?_
        refine GQ.step rfl (q_pure (p_pick_true rfl rfl)) ?_
        refine GQ.step rfl (q_pure (p_move rfl)) ?_
        refine GQ.pass (s := 42) rfl rfl rfl ?_
        refine GQ.pass (s := 42) rfl rfl rfl ?_
        refine GQ.pass (s := 42) rfl rfl rfl ?_
        refine GQ.step rfl (q_pure (p_pick_true rfl rfl)) ?_
        refine GQ.step rfl (q_pure (p_move rfl)) ?_
        refine GQ.pass (s := 47) rfl rfl rfl ?_
        refine GQ.pass (s := 47) rfl rfl rfl ?_
        refine GQ.pass (s := 47) rfl rfl rfl ?_
        refine GQ.step rfl (q_pure (p_pick_true rfl rfl)) ?_
        refine GQ.step rfl (q_pure (p_move rfl)) ?_
        refine GQ.pass (s := 52) rfl rfl rfl ?_
        refine GQ.pass (s := 52) rfl rfl rfl ?_
        refine GQ.pass (s := 52) rfl rfl rfl ?_
        refine GQ.pass (s := 52) rfl rfl rfl ?_
        refine GQ.pass (s := 52) rfl rfl rfl ?_
        refine GQ.pass (s := 52) rfl rfl rfl ?_
        refine GQ.step rfl (q_pure (p_pick_true rfl rfl)) ?_
        refine GQ.nil (?_ : GC _ _ _ _)
        refine GC.cond_true rfl ?_
        refine GC.seq' ?_
        refine GC.region ?_
        refine GL.pure rfl (p_assign rfl) ?_
        refine GL.nil (?_ : GC _ _ _ _)
        refine GC.ret ?_
        refine fun a w h => Fin.back (rs := [.tmp 4]) (vs := [_]) (is := []) (js := []) rfl ⟨rfl, trivial⟩ rfl rfl ?_ h
        clear h
        first | (exact ⟨by rw [he, laidF_end (by omega)]; rfl, rfl, rfl⟩) | (exact ⟨by rw [he, laidF_bad (by omega) (by unfold badP; (try simp only [lastOf] at *); (try simp only [show ∀ x : Nat, ((x + 1 : Nat) : Int) - 1 = x by omega] at *); omega)]; rfl, rfl, rfl⟩))
     ·try simp only [tst_] at h8
      first
      | (exfalso; omega)
      |(skip
        refine GQ.stepG (s := 20) rfl rfl rfl (q_pure (p_fieldAddr fo_59_0 rfl)) ?_
        refine GQ.stepG (s := 20) rfl rfl rfl (q_mem (m_load (i := 0) rfl rfl ag_3 rfl)) ?_
        refine GQ.stepG (s := 20) rfl rfl rfl (q_pure (p_fieldAddr fo_35_0 rfl)) ?_
        refine GQ.stepG (s := 20) rfl rfl rfl (q_mem (m_load (i := 1) rfl rfl ag_3 rfl)) ?_
        refine GQ.stepG (s := 20) rfl rfl rfl (q_pure (p_geq rfl rfl)) ?_
        refine GQ.step rfl (q_pure (p_pick_false rfl rfl)) ?_
        refine GQ.step rfl (q_pure (p_move rfl)) ?_
        refine GQ.split (i := 27) rfl (fun h9 => ?_) (fun h9 => ?_)
        ·try simp only [tst_] at h9
         first
         | (exfalso; omega)
         |(skip
           refine GQ.pass (s := 27) rfl rfl rfl ?_
           refine GQ.pass (s := 27) rfl rfl rfl ?_
           refine GQ.pass (s := 27) rfl rfl rfl ?_
           refine GQ.passU (s := 30) rfl rfl rfl ?_
           refine GQ.passU (s := 30) rfl rfl rfl ?_
           refine GQ.passU (s := 30) rfl rfl rfl ?_
           refine GQ.passU (s := 30) rfl rfl rfl ?_
           refine GQ.passU (s := 30) rfl rfl rfl ?_
           refine GQ.passU (s := 30) rfl rfl rfl ?_
           refine GQ.passU (s := 30) rfl rfl rfl ?_
           refine GQ.passU (s := 30) rfl rfl rfl ?_
           refine GQ.passU (s := 30) rfl rfl rfl ?_
           refine GQ.pass (s := 27) rfl rfl rfl ?_
           refine GQ.step rfl (q_pure (p_pick_true rfl rfl)) ?_
           refine GQ.step rfl (q_pure (p_move rfl)) ?_
           refine GQ.pass (s := 42) rfl rfl rfl ?_
           refine GQ.pass (s := 42) rfl rfl rfl ?_
           refine GQ.pass (s := 42) rfl rfl rfl ?_
           refine GQ.step rfl (q_pure (p_pick_true rfl rfl)) ?_
           refine GQ.step rfl (q_pure (p_move rfl)) ?_
           refine GQ.pass (s := 47) rfl rfl rfl ?_
           refine GQ.pass (s := 47) rfl rfl rfl ?_
           refine GQ.pass (s := 47) rfl rfl rfl ?_
           refine GQ.step rfl (q_pure (p_pick_true rfl rfl)) ?_
           refine GQ.step rfl (q_pure (p_move rfl)) ?_
           refine GQ.pass (s := 52) rfl rfl rfl ?_
           refine GQ.pass (s := 52) rfl rfl rfl ?_
           refine GQ.pass (s := 52) rfl rfl rfl ?_
           refine GQ.pass (s := 52) rfl rfl rfl ?_
           refine GQ.pass (s := 52) rfl rfl rfl ?_
           refine GQ.pass (s := 52) rfl rfl rfl ?_
           refine GQ.step rfl (q_pure (p_pick_true rfl rfl)) ?_
           refine GQ.nil (?_ : GC _ _ _ _)
           refine GC.cond_true rfl ?_
           refine GC.seq' ?_
           refine GC.region ?_
           refine GL.pure rfl (p_assign rfl) ?_
           refine GL.nil (?_ : GC _ _ _ _)
           refine GC.ret ?_
           refine fun a w h => Fin.back (rs := [.tmp 4]) (vs := [_]) (is := []) (js := []) rfl ⟨rfl, trivial⟩ rfl rfl ?_ h
           clear h
           first | (exact ⟨by rw [he, laidF_end (by omega)]; rfl, rfl, rfl⟩) | (exact ⟨by rw [he, laidF_bad (by omega) (by unfold badP; (try simp only [lastOf] at *); (try simp only [show ∀ x : Nat, ((x + 1 : Nat) : Int) - 1 = x by omega] at *); omega)]; rfl, rfl, rfl⟩))
        ·try simp only [tst_] at h9
         first
         | (exfalso; omega)
         |(skip
           refine GQ.stepG (s := 27) rfl rfl rfl (q_pure (p_move rfl)) ?_
           refine GQ.stepG (s := 27) rfl rfl rfl (q_pure (p_gtr rfl rfl)) ?_
           refine GQ.stepG (s := 27) rfl rfl rfl (q_pure (p_move rfl)) ?_
           refine GQ.split (i := 30) rfl (fun h10 => ?_) (fun h10 => ?_)
           ·try simp only [tst_] at h10
            first
            | (exfalso; omega)
            |(skip
              refine GQ.stepG (s := 30) rfl rfl rfl (q_pure (p_fieldAddr fo_59_0 rfl)) ?_
              refine GQ.stepG (s := 30) rfl rfl rfl (q_mem (m_load (i := 0) rfl rfl ag_3 rfl)) ?_
              refine GQ.stepG (s := 30) rfl rfl rfl (q_pure (p_move rfl)) ?_
              refine GQ.stepG (s := 30) rfl rfl rfl (q_pure (p_move rfl)) ?_
              refine GQ.stepG (s := 30) rfl rfl rfl (q_pure (p_sub rfl rfl (w64 (by omega) (by omega)))) ?_
              refine GQ.stepG (s := 30) rfl rfl rfl (q_pure (p_indexL hA_xp rfl rfl Tryz.underlying36 sz_59 (by omega) (by omega))) ?_
              refine GQ.stepG (s := 30) rfl rfl rfl (q_pure (p_fieldAddr' fo_59_0 rfl)) ?_
              refine GQ.stepG (s := 30) rfl rfl rfl (q_mem (m_loadP (i := 0) rfl rfl ag_3 rfl)) ?_
              refine GQ.stepG (s := 30) rfl rfl rfl (q_pure (p_leq rfl rfl)) ?_
              refine GQ.stepG (s := 27) rfl rfl rfl (q_pure (p_pick_true rfl rfl)) ?_
              refine GQ.step rfl (q_pure (p_pick_false rfl rfl)) ?_
              refine GQ.step rfl (q_pure (p_move rfl)) ?_
              refine GQ.split (i := 42) rfl (fun h11 => ?_) (fun h11 => ?_)
              ·try simp only [tst_] at h11
               first
               | (exfalso; omega)
               |(skip
                 refine GQ.pass (s := 42) rfl rfl rfl ?_
                 refine GQ.pass (s := 42) rfl rfl rfl ?_
                 refine GQ.pass (s := 42) rfl rfl rfl ?_
                 refine GQ.step rfl (q_pure (p_pick_true rfl rfl)) ?_
                 refine GQ.step rfl (q_pure (p_move rfl)) ?_
                 refine GQ.pass (s := 47) rfl rfl rfl ?_
                 refine GQ.pass (s := 47) rfl rfl rfl ?_
                 refine GQ.pass (s := 47) rfl rfl rfl ?_
                 refine GQ.step rfl (q_pure (p_pick_true rfl rfl)) ?_
                 refine GQ.step rfl (q_pure (p_move rfl)) ?_
                 refine GQ.pass (s := 52) rfl rfl rfl ?_
                 refine GQ.pass (s := 52) rfl rfl rfl ?_
                 refine GQ.pass (s := 52) rfl rfl rfl ?_
                 refine GQ.pass (s := 52) rfl rfl rfl ?_
                 refine GQ.pass (s := 52) rfl rfl rfl ?_
                 refine GQ.pass (s := 52) rfl rfl rfl ?_
                 refine GQ.step rfl (q_pure (p_pick_true rfl rfl)) ?_
                 refine GQ.nil (?_ : GC _ _ _ _)
                 refine GC.cond_true rfl ?_
                 refine GC.seq' ?_
                 refine GC.region ?_
                 refine GL.pure rfl (p_assign rfl) ?_
                 refine GL.nil (?_ : GC _ _ _ _)
                 refine GC.ret ?_
                 refine fun a w h => Fin.back (rs := [.tmp 4]) (vs := [_]) (is := []) (js := []) rfl ⟨rfl, trivial⟩ rfl rfl ?_ h
                 clear h
                 first | (exact ⟨by rw [he, laidF_end (by omega)]; rfl, rfl, rfl⟩) | (exact ⟨by rw [he, laidF_bad (by omega) (by unfold badP; (try simp only [lastOf] at *); (try simp only [show ∀ x : Nat, ((x + 1 : Nat) : Int) - 1 = x by omega] at *); omega)]; rfl, rfl, rfl⟩))
              ·try simp only [tst_] at h11
               first
               | (exfalso; omega)
               |(skip
                 refine GQ.stepG (s := 42) rfl rfl rfl (q_pure (p_fieldAddr fo_59_1 rfl)) ?_
                 refine GQ.stepG (s := 42) rfl rfl rfl (q_mem (m_load (i := 0) rfl rfl ag_3 rfl)) ?_
                 refine GQ.stepG (s := 42) rfl rfl rfl (q_pure (p_lss rfl rfl)) ?_
                 refine GQ.step rfl (q_pure (p_pick_false rfl rfl)) ?_
                 refine GQ.step rfl (q_pure (p_move rfl)) ?_
                 refine GQ.split (i := 47) rfl (fun h12 => ?_) (fun h12 => ?_)
                 ·try simp only [tst_] at h12
                  first
                  | (exfalso; omega)
                  |(skip
                    refine GQ.pass (s := 47) rfl rfl rfl ?_
                    refine GQ.pass (s := 47) rfl rfl rfl ?_
                    refine GQ.pass (s := 47) rfl rfl rfl ?_
                    refine GQ.step rfl (q_pure (p_pick_true rfl rfl)) ?_
                    refine GQ.step rfl (q_pure (p_move rfl)) ?_
                    refine GQ.pass (s := 52) rfl rfl rfl ?_
                    refine GQ.pass (s := 52) rfl rfl rfl ?_
                    refine GQ.pass (s := 52) rfl rfl rfl ?_
                    refine GQ.pass (s := 52) rfl rfl rfl ?_
                    refine GQ.pass (s := 52) rfl rfl rfl ?_
                    refine GQ.pass (s := 52) rfl rfl rfl ?_
                    refine GQ.step rfl (q_pure (p_pick_true rfl rfl)) ?_
                    refine GQ.nil (?_ : GC _ _ _ _)
                    refine GC.cond_true rfl ?_
                    refine GC.seq' ?_
                    refine GC.region ?_
                    refine GL.pure rfl (p_assign rfl) ?_
                    refine GL.nil (?_ : GC _ _ _ _)
                    refine GC.ret ?_
                    refine fun a w h => Fin.back (rs := [.tmp 4]) (vs := [_]) (is := []) (js := []) rfl ⟨rfl, trivial⟩ rfl rfl ?_ h
                    clear h
                    first | (exact ⟨by rw [he, laidF_end (by omega)]; rfl, rfl, rfl⟩) | (exact ⟨by rw [he, laidF_bad (by omega) (by unfold badP; (try simp only [lastOf] at *); (try simp only [show ∀ x : Nat, ((x + 1 : Nat) : Int) - 1 = x by omega] at *); omega)]; rfl, rfl, rfl⟩))
                 ·try simp only [tst_] at h12
                  first
                  | (exfalso; omega)
                  |(skip
                    refine GQ.stepG (s := 47) rfl rfl rfl (q_pure (p_fieldAddr fo_59_1 rfl)) ?_
                    refine GQ.stepG (s := 47) rfl rfl rfl (q_mem (m_load (i := 0) rfl rfl ag_3 rfl)) ?_
                    refine GQ.stepG (s := 47) rfl rfl rfl (q_pure (p_gtr rfl rfl)) ?_
                    refine GQ.step rfl (q_pure (p_pick_false rfl rfl)) ?_
                    refine GQ.step rfl (q_pure (p_move rfl)) ?_
                    refine GQ.split (i := 52) rfl (fun h13 => ?_) (fun h13 => ?_)
                    ·try simp only [tst_] at h13
                     first
                     | (exfalso; omega)
                     |(skip
                       refine GQ.pass (s := 52) rfl rfl rfl ?_
                       refine GQ.pass (s := 52) rfl rfl rfl ?_
                       refine GQ.pass (s := 52) rfl rfl rfl ?_
                       refine GQ.pass (s := 52) rfl rfl rfl ?_
                       refine GQ.pass (s := 52) rfl rfl rfl ?_
                       refine GQ.pass (s := 52) rfl rfl rfl ?_
                       refine GQ.step rfl (q_pure (p_pick_true rfl rfl)) ?_
                       refine GQ.nil (?_ : GC _ _ _ _)
                       refine GC.cond_true rfl ?_
                       refine GC.seq' ?_
                       refine GC.region ?_
                       refine GL.pure rfl (p_assign rfl) ?_
                       refine GL.nil (?_ : GC _ _ _ _)
                       refine GC.ret ?_
                       refine fun a w h => Fin.back (rs := [.tmp 4]) (vs := [_]) (is := []) (js := []) rfl ⟨rfl, trivial⟩ rfl rfl ?_ h
                       clear h
                       first | (exact ⟨by rw [he, laidF_end (by omega)]; rfl, rfl, rfl⟩) | (exact ⟨by rw [he, laidF_bad (by omega) (by unfold badP; (try simp only [lastOf] at *); (try simp only [show ∀ x : Nat, ((x + 1 : Nat) : Int) - 1 = x by omega] at *); omega)]; rfl, rfl, rfl⟩))
                    ·try simp only [tst_] at h13
                     first
                     | (exfalso; omega)
                     |(skip
                       refine GQ.stepG (s := 52) rfl rfl rfl (q_pure (p_fieldAddr fo_59_2 rfl)) ?_
                       refine GQ.stepG (s := 52) rfl rfl rfl (q_mem (m_load (i := 0) rfl rfl ag_25 rfl)) ?_
                       refine GQ.stepG (s := 52) rfl rfl rfl (q_pure (p_len Tryz.underlying25 rfl)) ?_
                       refine GQ.stepG (s := 52) rfl rfl rfl (q_pure (p_fieldAddr fo_35_1 rfl)) ?_
                       refine GQ.stepG (s := 52) rfl rfl rfl (q_mem (m_load (i := 1) rfl rfl ag_3 rfl)) ?_
                       refine GQ.stepG (s := 52) rfl rfl rfl (q_pure (p_neq rfl rfl)) ?_
                       refine GQ.step rfl (q_pure (p_pick_false rfl rfl)) ?_
                       refine GQ.nil (?_ : GC _ _ _ _)
                       refine GC.cond rfl (fun h14 => ?_) (fun h14 => ?_)
                       ·try simp only [tst_] at h14
                        first
                        | (exfalso; omega)
                        |(skip
                          refine GC.seq' ?_
                          refine GC.region ?_
                          refine GL.pure rfl (p_assign rfl) ?_
                          refine GL.nil (?_ : GC _ _ _ _)
                          refine GC.ret ?_
                          refine fun a w h => Fin.back (rs := [.tmp 4]) (vs := [_]) (is := []) (js := []) rfl ⟨rfl, trivial⟩ rfl rfl ?_ h
                          clear h
                          first | (exact ⟨by rw [he, laidF_end (by omega)]; rfl, rfl, rfl⟩) | (exact ⟨by rw [he, laidF_bad (by omega) (by unfold badP; (try simp only [lastOf] at *); (try simp only [show ∀ x : Nat, ((x + 1 : Nat) : Int) - 1 = x by omega] at *); omega)]; rfl, rfl, rfl⟩))
                       ·try simp only [tst_] at h14
                        first
                        | (exfalso; omega)
                        |(skip
                          refine GC.skip (?_ : GC _ _ _ _)
                          refine GC.region ?_
                          refine GL.pure rfl (p_move rfl) ?_
                          refine GL.pure rfl (p_add rfl rfl (w64 (by omega) (by omega))) ?_
                          refine GL.pure rfl (p_assign rfl) ?_
                          refine GL.nil ?_
                          exact fun a w h => ⟨(_ + 1), (by omega), ⟨by omega, by rw [he]; exact laidF_ok (by omega) (by unfold badP; (try simp only [lastOf] at *); (try simp only [show ∀ x : Nat, ((x + 1 : Nat) : Int) - 1 = x by omega] at *); omega), by simp only [lastOf]; omega⟩, h.cut (is := [1]) (js := [4]) ⟨rfl, rfl, rfl, trivial⟩ rfl rfl⟩)))))
           ·try simp only [tst_] at h10
            first
            | (exfalso; omega)
            |(skip
              refine GQ.pass (s := 30) rfl rfl rfl ?_
              refine GQ.pass (s := 30) rfl rfl rfl ?_
              refine GQ.pass (s := 30) rfl rfl rfl ?_
              refine GQ.pass (s := 30) rfl rfl rfl ?_
              refine GQ.pass (s := 30) rfl rfl rfl ?_
              refine GQ.pass (s := 30) rfl rfl rfl ?_
              refine GQ.pass (s := 30) rfl rfl rfl ?_
              refine GQ.pass (s := 30) rfl rfl rfl ?_
              refine GQ.pass (s := 30) rfl rfl rfl ?_
              refine GQ.stepG (s := 27) rfl rfl rfl (q_pure (p_pick_false rfl rfl)) ?_
              refine GQ.step rfl (q_pure (p_pick_false rfl rfl)) ?_
              refine GQ.step rfl (q_pure (p_move rfl)) ?_
              refine GQ.stepG (s := 42) rfl rfl rfl (q_pure (p_fieldAddr fo_59_1 rfl)) ?_
              refine GQ.stepG (s := 42) rfl rfl rfl (q_mem (m_load (i := 0) rfl rfl ag_3 rfl)) ?_
              refine GQ.stepG (s := 42) rfl rfl rfl (q_pure (p_lss rfl rfl)) ?_
              refine GQ.step rfl (q_pure (p_pick_false rfl rfl)) ?_
              refine GQ.step rfl (q_pure (p_move rfl)) ?_
              refine GQ.split (i := 47) rfl (fun h15 => ?_) (fun h15 => ?_)
              ·try simp only [tst_] at h15
               first
               | (exfalso; omega)
               |(skip
                 refine GQ.pass (s := 47) rfl rfl rfl ?_
                 refine GQ.pass (s := 47) rfl rfl rfl ?_
                 refine GQ.pass (s := 47) rfl rfl rfl ?_
                 refine GQ.step rfl (q_pure (p_pick_true rfl rfl)) ?_
                 refine GQ.step rfl (q_pure (p_move rfl)) ?_
                 refine GQ.pass (s := 52) rfl rfl rfl ?_
                 refine GQ.pass (s := 52) rfl rfl rfl ?_
                 refine GQ.pass (s := 52) rfl rfl rfl ?_
                 refine GQ.pass (s := 52) rfl rfl rfl ?_
                 refine GQ.pass (s := 52) rfl rfl rfl ?_
                 refine GQ.pass (s := 52) rfl rfl rfl ?_
                 refine GQ.step rfl (q_pure (p_pick_true rfl rfl)) ?_
                 refine GQ.nil (?_ : GC _ _ _ _)
                 refine GC.cond_true rfl ?_
                 refine GC.seq' ?_
                 refine GC.region ?_
                 refine GL.pure rfl (p_assign rfl) ?_
                 refine GL.nil (?_ : GC _ _ _ _)
                 refine GC.ret ?_
                 refine fun a w h => Fin.back (rs := [.tmp 4]) (vs := [_]) (is := []) (js := []) rfl ⟨rfl, trivial⟩ rfl rfl ?_ h
                 clear h
                 first | (exact ⟨by rw [he, laidF_end (by omega)]; rfl, rfl, rfl⟩) | (exact ⟨by rw [he, laidF_bad (by omega) (by unfold badP; (try simp only [lastOf] at *); (try simp only [show ∀ x : Nat, ((x + 1 : Nat) : Int) - 1 = x by omega] at *); omega)]; rfl, rfl, rfl⟩))
              ·try simp only [tst_] at h15
               first
               | (exfalso; omega)
               |(skip
                 refine GQ.stepG (s := 47) rfl rfl rfl (q_pure (p_fieldAddr fo_59_1 rfl)) ?_
                 refine GQ.stepG (s := 47) rfl rfl rfl (q_mem (m_load (i := 0) rfl rfl ag_3 rfl)) ?_
                 refine GQ.stepG (s := 47) rfl rfl rfl (q_pure (p_gtr rfl rfl)) ?_
                 refine GQ.step rfl (q_pure (p_pick_false rfl rfl)) ?_
                 refine GQ.step rfl (q_pure (p_move rfl)) ?_
                 refine GQ.split (i := 52) rfl (fun h16 => ?_) (fun h16 => ?_)
                 ·try simp only [tst_] at h16
                  first
                  | (exfalso; omega)
                  |(skip
                    refine GQ.pass (s := 52) rfl rfl rfl ?_
                    refine GQ.pass (s := 52) rfl rfl rfl ?_
                    refine GQ.pass (s := 52) rfl rfl rfl ?_
                    refine GQ.pass (s := 52) rfl rfl rfl ?_
                    refine GQ.pass (s := 52) rfl rfl rfl ?_
                    refine GQ.pass (s := 52) rfl rfl rfl ?_
                    refine GQ.step rfl (q_pure (p_pick_true rfl rfl)) ?_
                    refine GQ.nil (?_ : GC _ _ _ _)
                    refine GC.cond_true rfl ?_
                    refine GC.seq' ?_
                    refine GC.region ?_
                    refine GL.pure rfl (p_assign rfl) ?_
                    refine GL.nil (?_ : GC _ _ _ _)
                    refine GC.ret ?_
                    refine fun a w h => Fin.back (rs := [.tmp 4]) (vs := [_]) (is := []) (js := []) rfl ⟨rfl, trivial⟩ rfl rfl ?_ h
                    clear h
                    first | (exact ⟨by rw [he, laidF_end (by omega)]; rfl, rfl, rfl⟩) | (exact ⟨by rw [he, laidF_bad (by omega) (by unfold badP; (try simp only [lastOf] at *); (try simp only [show ∀ x : Nat, ((x + 1 : Nat) : Int) - 1 = x by omega] at *); omega)]; rfl, rfl, rfl⟩))
                 ·try simp only [tst_] at h16
                  first
                  | (exfalso; omega)
                  |(skip
                    refine GQ.stepG (s := 52) rfl rfl rfl (q_pure (p_fieldAddr fo_59_2 rfl)) ?_
                    refine GQ.stepG (s := 52) rfl rfl rfl (q_mem (m_load (i := 0) rfl rfl ag_25 rfl)) ?_
                    refine GQ.stepG (s := 52) rfl rfl rfl (q_pure (p_len Tryz.underlying25 rfl)) ?_
                    refine GQ.stepG (s := 52) rfl rfl rfl (q_pure (p_fieldAddr fo_35_1 rfl)) ?_
                    refine GQ.stepG (s := 52) rfl rfl rfl (q_mem (m_load (i := 1) rfl rfl ag_3 rfl)) ?_
                    refine GQ.stepG (s := 52) rfl rfl rfl (q_pure (p_neq rfl rfl)) ?_
                    refine GQ.step rfl (q_pure (p_pick_false rfl rfl)) ?_
                    refine GQ.nil (?_ : GC _ _ _ _)
                    refine GC.cond rfl (fun h17 => ?_) (fun h17 => ?_)
                    ·try simp only [tst_] at h17
                     first
                     | (exfalso; omega)
                     |(skip
                       refine GC.seq' ?_
                       refine GC.region ?_
                       refine GL.pure rfl (p_assign rfl) ?_
                       refine GL.nil (?_ : GC _ _ _ _)
                       refine GC.ret ?_
                       refine fun a w h => Fin.back (rs := [.tmp 4]) (vs := [_]) (is := []) (js := []) rfl ⟨rfl, trivial⟩ rfl rfl ?_ h
                       clear h
                       first | (exact ⟨by rw [he, laidF_end (by omega)]; rfl, rfl, rfl⟩) | (exact ⟨by rw [he, laidF_bad (by omega) (by unfold badP; (try simp only [lastOf] at *); (try simp only [show ∀ x : Nat, ((x + 1 : Nat) : Int) - 1 = x by omega] at *); omega)]; rfl, rfl, rfl⟩))
                    ·try simp only [tst_] at h17
                     first
                     | (exfalso; omega)
                     |(skip
                       refine GC.skip (?_ : GC _ _ _ _)
                       refine GC.region ?_
                       refine GL.pure rfl (p_move rfl) ?_
                       refine GL.pure rfl (p_add rfl rfl (w64 (by omega) (by omega))) ?_
                       refine GL.pure rfl (p_assign rfl) ?_
                       refine GL.nil ?_
                       exact fun a w h => ⟨(_ + 1), (by omega), ⟨by omega, by rw [he]; exact laidF_ok (by omega) (by unfold badP; (try simp only [lastOf] at *); (try simp only [show ∀ x : Nat, ((x + 1 : Nat) : Int) - 1 = x by omega] at *); omega), by simp only [lastOf]; omega⟩, h.cut (is := [1]) (js := [4]) ⟨rfl, rfl, rfl, trivial⟩ rfl rfl⟩)))))))
 ·try simp only [tst_] at h1
  first
  | (exfalso; omega)
  |(skip
    refine GC.exit (?_ : GC _ _ _ _)
    refine GC.seq' ?_
    refine GC.region ?_
    refine GL.pure rfl (p_assign rfl) ?_
    refine GL.nil (?_ : GC _ _ _ _)
    refine GC.ret ?_
    refine fun a w h => Fin.back (rs := [.tmp 4]) (vs := [_]) (is := []) (js := []) rfl ⟨rfl, trivial⟩ rfl rfl ?_ h
    clear h
    first | (exact ⟨by rw [he, laidF_end (by omega)]; rfl, rfl, rfl⟩) | (exact ⟨by rw [he, laidF_bad (by omega) (by unfold badP; (try simp only [lastOf] at *); (try simp only [show ∀ x : Nat, ((x + 1 : Nat) : Int) - 1 = x by omega] at *); omega)]; rfl, rfl, rfl⟩))
end Go.Proofs.YtdhdmbmknpjhbaaGreat
namespace Go.Proofs.YtdhdmbmknpjhbaaGreat
open Go Go.Sx Go.Proofs
def put1 (v : Vol) (p : Page) : Vol := { v with b := laid v.b (p.at_ * v.sz).toNat p.data, vs := laid v.vs p.at_.toNat [p.ver], last := max v.last p.ver }
def putF (v : Vol) : List Page → Vol
  | [] => v
  | p :: r => putF (put1 v p) r
def patchF (v : Vol) (l : List Page) : Int × Vol := if laidF v.bl v.sz (-1) l = true then (0, putF v l) else (50, v)
def pageOk (bl sz : Int) (p : Page) : Prop := 0 ≤ p.at_ ∧ p.at_ < bl ∧ 1 ≤ p.ver ∧ p.ver ≤ 4611686018427387904 ∧ (p.data.length : Int) = sz
theorem laidF_all {bl sz : Int} : ∀ {l : List Page} {last : Int}, laidF bl sz last l = true → -1 ≤ last → ∀ p ∈ l, pageOk bl sz p
  | [], _, _, _, p, hp => by cases hp
  | q :: r, last, h, hl, p, hp => by
    rw [laidF] at h
    split at h
    · cases h
    · rename_i hb
      simp only [badP] at hb
      rcases List.mem_cons.1 hp with rfl | hp
      · simp only [pageOk]; omega
      · exact laidF_all h (by omega) p hp
theorem put1_ok {v : Vol} (h : VolOk v) {p : Page} (hp : pageOk v.bl v.sz p) : VolOk (put1 v p) := by
  obtain ⟨h0, h1, h2, h3, h4⟩ := hp
  have hB := atB h.shp h0 (n := 1) (by omega) (by omega)
  have e1 : (p.at_ + 1) * v.sz = p.at_ * v.sz + v.sz := by rw [Int.add_mul, Int.one_mul]
  have hl := h.lb
  have hv := h.lv
  have hla := h.last
  exact (((h.last' (num := max v.last p.ver) (by omega) (by omega)).setb (o := (p.at_ * v.sz).toNat) (ys := p.data) (by show _ ≤ v.b.length; omega)).setv (o := p.at_.toNat) (k := 1) (num := p.ver) (by show _ ≤ v.vs.length; omega) (by omega) h3)
theorem gt_mem {α : Type} [Inhabited α] {l : List α} {k : Nat} (h : k < l.length) : gt l (k : Int) ∈ l := by
  have := gt_ok (xs := l) (i := (k : Int)) (by omega) (by omega)
  exact List.mem_of_getElem? this
theorem putF_step {v u : Vol} {l : List Page} {k : Nat} (hk : k < l.length) (h : putF v l = putF u (l.drop k)) : putF v l = putF (put1 u (gt l (k : Int))) (l.drop (k + 1)) := by
  rw [h, drop_gt hk]; rfl
theorem patch_ct (p pb pv : Nat) (v : Vol) (A : Option Addr) (l : List Page) (cp : Nat) (hv : VolOk v) (hl : l.length ≤ 140737488355328) : Ct Tryz.prog 163 [.pointer (some ⟨p, 0, none⟩), .slice A l.length cp] (volG p pb pv v) [Pers.row kPage A l]
    (fun u G Q => u = .int .i64 (patchF v l).1 ∧ G = volG p pb pv (patchF v l).2 ∧ Q = []) := by
 refine Ct.intro Tryz.func163 rfl rfl rfl (fun c hc => ?_)
 refine GC.seq' ?_
 refine GC.region ?_
 refine GL.pure rfl (p_assign rfl) ?_
 refine GL.nil (?_ : GC _ _ _ _)
 refine GC.seq' ?_
 refine GC.seq' ?_
 refine GC.region ?_
 refine GL.pure rfl (p_move rfl) ?_
 refine GL.step rfl (t_call rfl fn_173 rfl (is := [0, 0, 0]) (js := []) rfl rfl (by exact made_ct _ _ _ v)) (GL.ret ?_)
 rintro _ _ _ ⟨rfl, rfl, rfl⟩
 refine GL.pure rfl (p_not rfl) ?_
 refine GL.nil (?_ : GC _ _ _ _)
 refine GC.cond_false rfl ?_
 refine GC.skip (?_ : GC _ _ _ _)
 refine GC.seq' ?_
 refine GC.seq' ?_
 refine GC.region ?_
 refine GL.pure rfl (p_move rfl) ?_
 refine GL.pure rfl (p_move rfl) ?_
 refine GL.step rfl (t_call rfl fn_174 rfl (is := [0, 0, 0]) (js := [0]) rfl rfl (by exact laid_ct _ _ _ v _ _ _ hl)) (GL.ret ?_)
 rintro _ _ _ ⟨rfl, rfl, rfl⟩
 refine GL.pure rfl (p_not rfl) ?_
 refine GL.nil (?_ : GC _ _ _ _)
 refine GC.cond rfl (fun h1 => ?_) (fun h1 => ?_)
 ·try simp only [tst_] at h1
  refine GC.seq' ?_
  refine GC.region ?_
  refine GL.pure rfl (p_assign rfl) ?_
  refine GL.nil (?_ : GC _ _ _ _)
  refine GC.ret ?_
  refine fun a w h => Fin.back (rs := [.tmp 4]) (vs := [_]) (is := [0, 0, 0]) (js := []) rfl ⟨rfl, trivial⟩ rfl rfl ?_ h
  clear h
  have e : patchF v l = (50, v) := by simp [patchF, h1]
  rw [e]; exact ⟨rfl, rfl, rfl⟩
 ·try simp only [tst_] at h1
  refine GC.skip (?_ : GC _ _ _ _)
  refine GC.seq' ?_
  refine GC.seq' ?_
  refine GC.region ?_
  have hall := laidF_all h1 (by omega)
  refine GL.pure rfl (p_move rfl) ?_
  refine GL.pure rfl (p_len Tryz.underlying36 rfl) ?_
  refine GL.pure rfl (p_move rfl) ?_
  refine GL.nil (?_ : GC _ _ _ _)
  refine GC.block ?_
  refine GC.imp (fun a w h => (⟨⟨by simp, rfl, hv, rfl, rfl⟩, h.cut (is := [0, 0, 0]) (js := [0]) ⟨rfl, rfl, rfl, rfl, trivial⟩ rfl rfl⟩ : (fun (y : Nat × Vol) (a : Act) (w : World) => (y.1 ≤ l.length ∧ putF v l = putF y.2 (l.drop y.1) ∧ VolOk y.2 ∧ y.2.bl = v.bl ∧ y.2.sz = v.sz) ∧ St c 44 [(0, .pointer (some ⟨p, 0, none⟩)), (14, .slice A l.length cp), (15, .int .i64 (l.length : Int)), (16, .int .i64 (y.1 : Int))] [.cells p [.int .i64 y.2.bl, .int .i64 y.2.sz, .slice (some ⟨pb, 0, none⟩) (y.2.bl * y.2.sz).toNat (y.2.bl * y.2.sz).toNat, .slice (some ⟨pv, 0, none⟩) y.2.bl.toNat y.2.bl.toNat, .int .i64 y.2.last] 217, .cells pb (y.2.b.map u8v) 5, .cells pv (y.2.vs.map (Value.int .i64)) 3] [Pers.row kPage A l] a w) (0, v) a w)) (GC.loop (fun (y : Nat × Vol) (a : Act) (w : World) => (y.1 ≤ l.length ∧ putF v l = putF y.2 (l.drop y.1) ∧ VolOk y.2 ∧ y.2.bl = v.bl ∧ y.2.sz = v.sz) ∧ St c 44 [(0, .pointer (some ⟨p, 0, none⟩)), (14, .slice A l.length cp), (15, .int .i64 (l.length : Int)), (16, .int .i64 (y.1 : Int))] [.cells p [.int .i64 y.2.bl, .int .i64 y.2.sz, .slice (some ⟨pb, 0, none⟩) (y.2.bl * y.2.sz).toNat (y.2.bl * y.2.sz).toNat, .slice (some ⟨pv, 0, none⟩) y.2.bl.toNat y.2.bl.toNat, .int .i64 y.2.last] 217, .cells pb (y.2.b.map u8v) 5, .cells pv (y.2.vs.map (Value.int .i64)) 3] [Pers.row kPage A l] a w) (fun y => l.length - y.1) (0, v) ?_)
  intro y
  refine GC.and fun hk => ?_
  obtain ⟨k, u⟩ := y
  dsimp only at hk ⊢
  obtain ⟨hk, hput, hu, hbl, hsz⟩ := hk
  refine GC.seq' ?_
  refine GC.region ?_
  refine GL.pure rfl (p_lss rfl rfl) ?_
  refine GL.nil (?_ : GC _ _ _ _)
  refine GC.seq' ?_
  refine GC.cond rfl (fun h2 => ?_) (fun h2 => ?_)
  ·try simp only [tst_] at h2
   refine GC.skip (?_ : GC _ _ _ _)
   refine GC.seq' ?_
   refine GC.block ?_
   refine GC.seq' ?_
   refine GC.region ?_
   have hp := hall _ (gt_mem (l := l) (k := k) (by omega))
   rw [← hbl, ← hsz] at hp
   have hp2 := hp
   obtain ⟨q0, q1, q2, q3, q4⟩ := hp
   have hB := atB hu.shp q0 (n := 1) (by omega) (by omega)
   have e1 : ((gt l (k : Int)).at_ + 1) * u.sz = (gt l (k : Int)).at_ * u.sz + u.sz := by rw [Int.add_mul, Int.one_mul]
   have hlb := hu.lb
   have hsh := hu.shp
   simp only [shapeOk] at hsh
   have hv2 := hu.setb (o := ((gt l (k : Int)).at_ * u.sz).toNat) (ys := (gt l (k : Int)).data) (by omega)
   refine GL.step rfl (t_index (i := 0) rfl rfl rfl rfl Tryz.underlying36 sz_59 (by (first | omega | (rw [seg_length (by omega)]; omega) | (dsimp only; rw [seg_length (by omega)]; omega) | (dsimp only; omega))) (gt_ok (by (first | omega | (rw [seg_length (by omega)]; omega) | (dsimp only; rw [seg_length (by omega)]; omega) | (dsimp only; omega))) (by (first | omega | (rw [seg_length (by omega)]; omega) | (dsimp only; rw [seg_length (by omega)]; omega) | (dsimp only; omega))))) (GL.ex fun p_x18 => GL.ex fun r_x18 => GL.and fun ok_x18 => ?_)
   rcases r_x18 with ⟨_, ⟨_, ⟨Ax18_0, cpx18_0⟩⟩⟩
   refine GL.step rfl (t_mem rfl (m_loadPN (i := 0) rfl rfl ag_59 (vs := [_, _, _]) sz_59 ⟨rfl, rfl, rfl, trivial⟩)) ?_
   refine GL.step rfl (t_alloc rfl ze_59) (GL.ex fun b_t6 => ?_)
   refine GL.step rfl (t_storeN (i := 0) rfl rfl rfl sz_59 rfl rfl rfl) ?_
   refine GL.nil (?_ : GC _ _ _ _)
   refine GC.seq' ?_
   refine GC.regionM (m := 7) (M := fun a w => St c 44 [(0, .pointer (some ⟨p, 0, none⟩)), (6, .pointer (some ⟨b_t6, 0, none⟩)), (14, .slice A l.length cp), (15, .int .i64 (l.length : Int)), (16, .int .i64 (k : Int))] [.cells p [.int .i64 u.bl, .int .i64 u.sz, .slice (some ⟨pb, 0, none⟩) (u.bl * u.sz).toNat (u.bl * u.sz).toNat, .slice (some ⟨pv, 0, none⟩) u.bl.toNat u.bl.toNat, .int .i64 u.last] 217, .cells pb ((laid u.b ((gt l (k : Int)).at_ * u.sz).toNat (gt l (k : Int)).data).map u8v) 5, .cells pv (u.vs.map (Value.int .i64)) 3, .cells b_t6 [.int .i64 (gt l (k : Int)).at_, .int .i64 (gt l (k : Int)).ver, .slice Ax18_0 (gt l (k : Int)).data.length cpx18_0] 59] [Pers.row kPage A l] a w) (is := [0, 0, 1]) (js := [0, 1, 2]) wide_ rfl rfl rfl ?_ ?_
   ·refine GA.take 0 rfl (by kernel_rfl) (by kernel_rfl) (by kernel_rfl) rfl (fun a w h => h.mem (is := [0, 0, 1]) (js := [0, 1, 2]) rfl rfl) (i_pure (p_move rfl)) ?_
    refine GA.take 1 rfl (by kernel_rfl) (by kernel_rfl) (by kernel_rfl) rfl (fun a w h => h.mem (is := [0, 0, 1]) (js := [0, 1, 2]) rfl rfl) (i_pure (p_fieldAddr fo_59_0 rfl)) ?_
    refine GA.take 2 rfl (by kernel_rfl) (by kernel_rfl) (by kernel_rfl) rfl (fun a w h => h.mem (is := [0, 0, 1]) (js := [0, 1, 2]) rfl rfl) (i_mem (m_load (i := 0) rfl rfl ag_3 rfl)) ?_
    refine GA.take 4 rfl (by kernel_rfl) (by kernel_rfl) (by kernel_rfl) rfl (fun a w h => h.mem (is := [0, 0, 1]) (js := [0, 1, 2]) rfl rfl) (i_pure (p_fieldAddr fo_59_2 rfl)) ?_
    refine GA.take 5 rfl (by kernel_rfl) (by kernel_rfl) (by kernel_rfl) rfl (fun a w h => h.mem (is := [0, 0, 1]) (js := [0, 1, 2]) rfl rfl) (i_mem (m_load (i := 0) rfl rfl ag_25 rfl)) ?_
    refine GA.all (rs := [3]) (by kernel_rfl) (by simp) ?_
    refine GAs.cons (i := 3) rfl rfl (t_call rfl fn_175 rfl (is := [1, 1, 1]) (js := []) rfl rfl (by exact at_ct _ _ _ u (gt l (k : Int)).at_ 1 hu (by omega) (by omega) (by omega))) (by rintro a w ⟨_, _, _, ⟨rfl, rfl, rfl⟩, h⟩; exact h.mem (is := [3, 0, 1]) (js := [0, 1, 2]) rfl rfl) (GA.ret ?_) ?_
    ·rintro _ _ _ ⟨rfl, rfl, rfl⟩
     refine GA.all (rs := [6]) (by kernel_rfl) (by simp) ?_
     refine GAs.cons (i := 6) rfl rfl (t_copyB (i := 1) (k := 1) rfl rfl rfl rfl rfl Tryz.underlying25 sz_5 (by (first | omega | (rw [seg_length (by omega)]; omega) | (dsimp only; rw [seg_length (by omega)]; omega) | (dsimp only; omega))) (by simp; (first | omega | (rw [seg_length (by omega)]; omega) | (dsimp only; rw [seg_length (by omega)]; omega) | (dsimp only; omega))) (laid_map _ _ _ _).symm rfl) (by rintro a w h; exact h.mem (is := [3, 0, 1]) (js := [0, 1, 2]) rfl rfl) ?_ ?_
     ·exact GA.done (by kernel_rfl) (fun a w h => h.cut (is := [0, 0, 0, 0]) (js := [2]) ⟨rfl, rfl, rfl, rfl, rfl, trivial⟩ rfl rfl)
     exact GAs.nil
    exact GAs.nil
   ·refine (?_ : GC _ _ _ _)
    refine GC.seq' ?_
    refine GC.region ?_
    refine GL.pure rfl (p_move rfl) ?_
    refine GL.pure rfl (p_fieldAddr fo_59_0 rfl) ?_
    refine GL.step rfl (t_mem rfl (m_load (i := 3) rfl rfl ag_3 rfl)) ?_
    refine GL.pure rfl (p_fieldAddr fo_59_1 rfl) ?_
    refine GL.step rfl (t_mem rfl (m_load (i := 3) rfl rfl ag_3 rfl)) ?_
    refine GL.step rfl (t_call rfl fn_176 rfl (is := [0, 0, 0]) (js := []) rfl rfl (by exact stamp_ct _ _ _ _ (gt l (k : Int)).at_ 1 (gt l (k : Int)).ver hv2 (by omega) (by omega) (by show _ ≤ u.bl; omega))) (GL.ret ?_)
    rintro _ _ _ ⟨rfl, rfl, rfl⟩
    refine GL.nil (?_ : GC _ _ _ _)
    refine GC.regionM (m := 11) (M := fun a w => St c 44 [(0, .pointer (some ⟨p, 0, none⟩)), (14, .slice A l.length cp), (15, .int .i64 (l.length : Int)), (16, .int .i64 (k : Int))] [.cells p [.int .i64 u.bl, .int .i64 u.sz, .slice (some ⟨pb, 0, none⟩) (u.bl * u.sz).toNat (u.bl * u.sz).toNat, .slice (some ⟨pv, 0, none⟩) u.bl.toNat u.bl.toNat, .int .i64 (max u.last (gt l (k : Int)).ver)] 217, .cells pb ((laid u.b ((gt l (k : Int)).at_ * u.sz).toNat (gt l (k : Int)).data).map u8v) 5, .cells pv ((laid u.vs (gt l (k : Int)).at_.toNat [(gt l (k : Int)).ver]).map (Value.int .i64)) 3] [Pers.row kPage A l] a w) (is := [1, 1, 1]) (js := [0]) wide_ rfl rfl rfl ?_ ?_
    ·refine GA.take 0 rfl (by kernel_rfl) (by kernel_rfl) (by kernel_rfl) rfl (fun a w h => h.mem (is := [1, 1, 1]) (js := [0]) rfl rfl) (i_pure (p_move rfl)) ?_
     refine GA.take 1 rfl (by kernel_rfl) (by kernel_rfl) (by kernel_rfl) rfl (fun a w h => h.mem (is := [1, 1, 1]) (js := [0]) rfl rfl) (i_pure (p_move rfl)) ?_
     refine GA.take 2 rfl (by kernel_rfl) (by kernel_rfl) (by kernel_rfl) rfl (fun a w h => h.mem (is := [1, 1, 1]) (js := [0]) rfl rfl) (i_pure (p_nilCheck rfl)) ?_
     refine GA.take 3 rfl (by kernel_rfl) (by kernel_rfl) (by kernel_rfl) rfl (fun a w h => h.mem (is := [1, 1, 1]) (js := [0]) rfl rfl) (i_pure (p_fieldAddr fo_217_3 rfl)) ?_
     refine GA.take 5 rfl (by kernel_rfl) (by kernel_rfl) (by kernel_rfl) rfl (fun a w h => h.mem (is := [1, 1, 1]) (js := [0]) rfl rfl) (i_pure (p_fieldAddr fo_59_1 rfl)) ?_
     refine GA.take 6 rfl (by kernel_rfl) (by kernel_rfl) (by kernel_rfl) rfl (fun a w h => h.mem (is := [1, 1, 1]) (js := [0]) rfl rfl) (i_mem (m_load (i := 2) rfl rfl ag_3 rfl)) ?_
     refine GA.all (rs := [4]) (by kernel_rfl) (by simp) ?_
     refine GAs.cons (i := 4) rfl rfl (t_mem rfl (m_load (i := 0) rfl rfl ag_3 rfl)) (by rintro a w h; exact h.mem (is := [1, 1, 1]) (js := [0]) rfl rfl) ?_ ?_
     ·refine GA.take 7 rfl (by kernel_rfl) (by kernel_rfl) (by kernel_rfl) rfl (fun a w h => h.mem (is := [1, 1, 1]) (js := [0]) rfl rfl) (i_pure (p_max2 rfl rfl)) ?_
      refine GA.take 8 rfl (by kernel_rfl) (by kernel_rfl) (by kernel_rfl) rfl (fun a w h => h.mem (is := [1, 1, 1]) (js := [0]) rfl rfl) (i_pure (p_nilCheck rfl)) ?_
      refine GA.take 9 rfl (by kernel_rfl) (by kernel_rfl) (by kernel_rfl) rfl (fun a w h => h.mem (is := [1, 1, 1]) (js := [0]) rfl rfl) (i_pure (p_fieldAddr fo_217_3 rfl)) ?_
      refine GA.all (rs := [10]) (by kernel_rfl) (by simp) ?_
      refine GAs.cons (i := 10) rfl rfl (t_store (i := 0) rfl rfl rfl rfl sz_3 rfl rfl rfl) (by rintro a w h; exact h.mem (is := [1, 1, 1]) (js := [0]) rfl rfl) ?_ ?_
      ·exact GA.done (by kernel_rfl) (fun a w h => h.cut (is := [0, 0, 0]) (js := [0]) ⟨rfl, rfl, rfl, rfl, trivial⟩ rfl rfl)
      exact GAs.nil
     exact GAs.nil
    ·refine (?_ : GC _ _ _ _)
     refine GC.region ?_
     refine GL.pure rfl (p_add rfl rfl (w64 (by (first | omega | (rw [seg_length (by omega)]; omega) | (dsimp only; rw [seg_length (by omega)]; omega) | (dsimp only; omega))) (by (first | omega | (rw [seg_length (by omega)]; omega) | (dsimp only; rw [seg_length (by omega)]; omega) | (dsimp only; omega))))) ?_
     refine GL.pure rfl (p_move rfl) ?_
     refine GL.nil ?_
     exact fun a w h => ⟨(k + 1, put1 u (gt l (k : Int))), (by simp only; omega), ⟨by simp only; omega, putF_step (by omega) hput, put1_ok hu hp2, hbl, hsz⟩, h.cut (is := [0, 0, 0]) (js := [0]) ⟨rfl, rfl, rfl, rfl, trivial⟩ rfl rfl⟩
  ·try simp only [tst_] at h2
   refine GC.exit (?_ : GC _ _ _ _)
   refine GC.seq' ?_
   refine GC.region ?_
   refine GL.pure rfl (p_assign rfl) ?_
   refine GL.nil (?_ : GC _ _ _ _)
   refine GC.ret ?_
   refine fun a w h => Fin.back (rs := [.tmp 4]) (vs := [_]) (is := [0, 0, 0]) (js := []) rfl ⟨rfl, trivial⟩ rfl rfl ?_ h
   clear h
   have e : patchF v l = (0, u) := by rw [List.drop_of_length_le (by omega)] at hput; simp only [patchF, h1, if_true]; rw [hput]; rfl
   rw [e]; exact ⟨rfl, rfl, rfl⟩
end Go.Proofs.YtdhdmbmknpjhbaaGreat
namespace Go.Proofs.YtdhdmbmknpjhbaaGreat
open Go Go.Sx Go.Proofs
def loadV (bl sz : Int) (l : List Page) : Vol := putF (newV bl sz) l
theorem patch_yes {bl sz : Int} {l : List Page} (hl : laidF bl sz (-1) l = true) : patchF (newV bl sz) l = (0, loadV bl sz l) := by
  unfold patchF; rw [if_pos (show laidF (newV bl sz).bl (newV bl sz).sz (-1) l = true from hl)]; rfl
theorem patch_no {v : Vol} {l : List Page} (hl : laidF v.bl v.sz (-1) l = false) : patchF v l = (50, v) := by
  unfold patchF; rw [if_neg (by rw [hl]; simp)]
theorem patch_eq (p pb pv : Nat) (v : Vol) (A : Option Addr) (l : List Page) (cp : Nat) (hv : VolOk v) (hl : l.length ≤ 140737488355328) (e : Int) (v' : Vol) (h : patchF v l = (e, v')) : Ct Tryz.prog 163 [.pointer (some ⟨p, 0, none⟩), .slice A l.length cp] (volG p pb pv v) [Pers.row kPage A l]
    (fun u G Q => u = .int .i64 e ∧ G = volG p pb pv v' ∧ Q = []) := by
  have := patch_ct p pb pv v A l cp hv hl
  rw [h] at this; exact this
theorem load_bad (bl sz : Int) (A : Option Addr) (l : List Page) (cp : Nat) (h : ¬ shapeOk bl sz) : Ct Tryz.prog 145 [shpV bl sz, .slice A l.length cp] [] [Pers.row kPage A l] (fun v G Q => v = .tuple #[.pointer none, .int .i64 40] ∧ G = [] ∧ Q = []) := by
 refine Ct.intro Tryz.func145 rfl rfl rfl (fun c hc => ?_)
 refine GC.seq' ?_
 refine GC.region ?_
 refine GL.step rfl (t_box rfl rfl rfl) (GL.ex fun b_t2 => ?_)
 refine GL.pure rfl (p_assign rfl) ?_
 refine GL.pure rfl (p_assign rfl) ?_
 refine GL.nil (?_ : GC _ _ _ _)
 refine GC.seq' ?_
 refine GC.region ?_
 refine GL.step rfl (t_mem rfl (m_loadN (i := 0) rfl rfl ag_35 (vs := [_, _]) sz_35 ⟨rfl, rfl, trivial⟩)) ?_
 refine GL.step rfl (t_call rfl fn_162 rfl (is := []) (js := []) rfl rfl (by exact new_bad _ _ h)) (GL.ret ?_)
 rintro _ _ _ ⟨rfl, rfl, rfl⟩
 refine GL.pure rfl (p_move rfl) ?_
 refine GL.pure rfl (p_extract rfl rfl) ?_
 refine GL.pure rfl (p_extract rfl rfl) ?_
 refine GL.pure rfl (p_assign rfl) ?_
 refine GL.pure rfl (p_assign rfl) ?_
 refine GL.nil (?_ : GC _ _ _ _)
 refine GC.seq' ?_
 refine GC.seq' ?_
 refine GC.region ?_
 refine GL.pure rfl (p_move rfl) ?_
 refine GL.pure rfl (p_eql rfl rfl) ?_
 refine GL.nil (?_ : GC _ _ _ _)
 refine GC.cond_false rfl ?_
 refine GC.skip (?_ : GC _ _ _ _)
 refine GC.seq' ?_
 refine GC.seq' ?_
 refine GC.region ?_
 refine GL.pure rfl (p_move rfl) ?_
 refine GL.pure rfl (p_neq rfl rfl) ?_
 refine GL.nil (?_ : GC _ _ _ _)
 refine GC.cond_true rfl ?_
 refine GC.seq' ?_
 refine GC.region ?_
 refine GL.pure rfl (p_move rfl) ?_
 refine GL.pure rfl (p_assign rfl) ?_
 refine GL.pure rfl (p_assign rfl) ?_
 refine GL.nil (?_ : GC _ _ _ _)
 refine GC.ret ?_
 refine fun a w h => Fin.back (rs := [.tmp 4, .tmp 5]) (vs := [_, _]) (is := []) (js := []) rfl ⟨rfl, rfl, trivial⟩ rfl rfl ?_ h
 clear h
 exact ⟨rfl, rfl, rfl⟩
theorem load_no (bl sz : Int) (A : Option Addr) (l : List Page) (cp : Nat) (h : shapeOk bl sz) (hl : l.length ≤ 140737488355328) (hn : laidF bl sz (-1) l = false) : Ct Tryz.prog 145 [shpV bl sz, .slice A l.length cp] [] [Pers.row kPage A l] (fun v G Q => v = .tuple #[.pointer none, .int .i64 50] ∧ G = [] ∧ Q = []) := by
 refine Ct.intro Tryz.func145 rfl rfl rfl (fun c hc => ?_)
 refine GC.seq' ?_
 refine GC.region ?_
 refine GL.step rfl (t_box rfl rfl rfl) (GL.ex fun b_t2 => ?_)
 refine GL.pure rfl (p_assign rfl) ?_
 refine GL.pure rfl (p_assign rfl) ?_
 refine GL.nil (?_ : GC _ _ _ _)
 refine GC.seq' ?_
 refine GC.region ?_
 refine GL.step rfl (t_mem rfl (m_loadN (i := 0) rfl rfl ag_35 (vs := [_, _]) sz_35 ⟨rfl, rfl, trivial⟩)) ?_
 refine GL.step rfl (t_call rfl fn_162 rfl (is := []) (js := []) rfl rfl (by exact new_ok _ _ h)) (GL.ret ?_)
 rintro _ _ _ ⟨p10, pb10, pv10, rfl, rfl, rfl⟩
 refine GL.pure rfl (p_move rfl) ?_
 refine GL.pure rfl (p_extract rfl rfl) ?_
 refine GL.pure rfl (p_extract rfl rfl) ?_
 refine GL.pure rfl (p_assign rfl) ?_
 refine GL.pure rfl (p_assign rfl) ?_
 refine GL.nil (?_ : GC _ _ _ _)
 refine GC.seq' ?_
 refine GC.seq' ?_
 refine GC.region ?_
 refine GL.pure rfl (p_move rfl) ?_
 refine GL.pure rfl (p_eql rfl rfl) ?_
 refine GL.nil (?_ : GC _ _ _ _)
 refine GC.cond_true rfl ?_
 refine GC.region ?_
 refine GL.pure rfl (p_move rfl) ?_
 refine GL.pure rfl (p_move rfl) ?_
 refine GL.step rfl (t_call rfl fn_163 rfl (is := [0, 0, 0]) (js := [0]) rfl rfl (by exact patch_eq _ _ _ (newV bl sz) _ _ _ (newV_ok h) hl _ _ (patch_no hn))) (GL.ret ?_)
 rintro _ _ _ ⟨rfl, rfl, rfl⟩
 refine GL.pure rfl (p_assign rfl) ?_
 refine GL.nil (?_ : GC _ _ _ _)
 refine GC.seq' ?_
 refine GC.seq' ?_
 refine GC.region ?_
 refine GL.pure rfl (p_move rfl) ?_
 refine GL.pure rfl (p_neq rfl rfl) ?_
 refine GL.nil (?_ : GC _ _ _ _)
 refine GC.cond_true rfl ?_
 refine GC.seq' ?_
 refine GC.region ?_
 refine GL.pure rfl (p_move rfl) ?_
 refine GL.pure rfl (p_assign rfl) ?_
 refine GL.pure rfl (p_assign rfl) ?_
 refine GL.nil (?_ : GC _ _ _ _)
 refine GC.ret ?_
 refine fun a w h => Fin.back (rs := [.tmp 4, .tmp 5]) (vs := [_, _]) (is := []) (js := []) rfl ⟨rfl, rfl, trivial⟩ rfl rfl ?_ h
 clear h
 exact ⟨rfl, rfl, rfl⟩
theorem load_ok (bl sz : Int) (A : Option Addr) (l : List Page) (cp : Nat) (h : shapeOk bl sz) (hl : l.length ≤ 140737488355328) (hn : laidF bl sz (-1) l = true) : Ct Tryz.prog 145 [shpV bl sz, .slice A l.length cp] [] [Pers.row kPage A l] (fun v G Q => ∃ p pb pv, v = .tuple #[.pointer (some ⟨p, 0, none⟩), .int .i64 0] ∧ G = volG p pb pv (loadV bl sz l) ∧ Q = []) := by
 refine Ct.intro Tryz.func145 rfl rfl rfl (fun c hc => ?_)
 refine GC.seq' ?_
 refine GC.region ?_
 refine GL.step rfl (t_box rfl rfl rfl) (GL.ex fun b_t2 => ?_)
 refine GL.pure rfl (p_assign rfl) ?_
 refine GL.pure rfl (p_assign rfl) ?_
 refine GL.nil (?_ : GC _ _ _ _)
 refine GC.seq' ?_
 refine GC.region ?_
 refine GL.step rfl (t_mem rfl (m_loadN (i := 0) rfl rfl ag_35 (vs := [_, _]) sz_35 ⟨rfl, rfl, trivial⟩)) ?_
 refine GL.step rfl (t_call rfl fn_162 rfl (is := []) (js := []) rfl rfl (by exact new_ok _ _ h)) (GL.ret ?_)
 rintro _ _ _ ⟨p10, pb10, pv10, rfl, rfl, rfl⟩
 refine GL.pure rfl (p_move rfl) ?_
 refine GL.pure rfl (p_extract rfl rfl) ?_
 refine GL.pure rfl (p_extract rfl rfl) ?_
 refine GL.pure rfl (p_assign rfl) ?_
 refine GL.pure rfl (p_assign rfl) ?_
 refine GL.nil (?_ : GC _ _ _ _)
 refine GC.seq' ?_
 refine GC.seq' ?_
 refine GC.region ?_
 refine GL.pure rfl (p_move rfl) ?_
 refine GL.pure rfl (p_eql rfl rfl) ?_
 refine GL.nil (?_ : GC _ _ _ _)
 refine GC.cond_true rfl ?_
 refine GC.region ?_
 refine GL.pure rfl (p_move rfl) ?_
 refine GL.pure rfl (p_move rfl) ?_
 refine GL.step rfl (t_call rfl fn_163 rfl (is := [0, 0, 0]) (js := [0]) rfl rfl (by exact patch_eq _ _ _ (newV bl sz) _ _ _ (newV_ok h) hl _ _ (patch_yes hn))) (GL.ret ?_)
 rintro _ _ _ ⟨rfl, rfl, rfl⟩
 refine GL.pure rfl (p_assign rfl) ?_
 refine GL.nil (?_ : GC _ _ _ _)
 refine GC.seq' ?_
 refine GC.seq' ?_
 refine GC.region ?_
 refine GL.pure rfl (p_move rfl) ?_
 refine GL.pure rfl (p_neq rfl rfl) ?_
 refine GL.nil (?_ : GC _ _ _ _)
 refine GC.cond_false rfl ?_
 refine GC.skip (?_ : GC _ _ _ _)
 refine GC.seq' ?_
 refine GC.region ?_
 refine GL.pure rfl (p_move rfl) ?_
 refine GL.pure rfl (p_assign rfl) ?_
 refine GL.pure rfl (p_assign rfl) ?_
 refine GL.nil (?_ : GC _ _ _ _)
 refine GC.ret ?_
 refine fun a w h => Fin.back (rs := [.tmp 4, .tmp 5]) (vs := [_, _]) (is := [0, 0, 0]) (js := []) rfl ⟨rfl, rfl, trivial⟩ rfl rfl ?_ h
 clear h
 exact ⟨_, _, _, rfl, rfl, rfl⟩
end Go.Proofs.YtdhdmbmknpjhbaaGreat
namespace Go.Sx
open Go
abbrev w32 (x : BitVec 32) : Value := .int .u32 (x.toNat : Int)
theorem wrap32 (x : BitVec 32) : IntKind.u32.wrap (x.toNat : Int) = (x.toNat : Int) := by
  have := x.isLt
  simp [IntKind.wrap, IntKind.bits, IntKind.signed]
  omega
theorem ofInt32 (x : BitVec 32) : BitVec.ofInt 32 (x.toNat : Int) = x := by
  apply BitVec.eq_of_toNat_eq
  have := x.isLt
  rw [BitVec.toNat_ofInt]
  omega
theorem xor32 (a b : BitVec 32) : IntKind.u32.wrap ((BitVec.ofInt IntKind.u32.bits (a.toNat : Int) ^^^ BitVec.ofInt IntKind.u32.bits (b.toNat : Int)).toNat : Int) = ((a ^^^ b).toNat : Int) := by
  show IntKind.u32.wrap ((BitVec.ofInt 32 (a.toNat : Int) ^^^ BitVec.ofInt 32 (b.toNat : Int)).toNat : Int) = _
  rw [ofInt32, ofInt32, wrap32]
theorem and32 (a b : BitVec 32) : IntKind.u32.wrap ((BitVec.ofInt IntKind.u32.bits (a.toNat : Int) &&& BitVec.ofInt IntKind.u32.bits (b.toNat : Int)).toNat : Int) = ((a &&& b).toNat : Int) := by
  show IntKind.u32.wrap ((BitVec.ofInt 32 (a.toNat : Int) &&& BitVec.ofInt 32 (b.toNat : Int)).toNat : Int) = _
  rw [ofInt32, ofInt32, wrap32]
theorem com32 (a : BitVec 32) : IntKind.u32.wrap ((BitVec.ofInt IntKind.u32.bits IntKind.u32.max ^^^ BitVec.ofInt IntKind.u32.bits (a.toNat : Int)).toNat : Int) = ((~~~ a).toNat : Int) := by
  show IntKind.u32.wrap ((BitVec.ofInt 32 IntKind.u32.max ^^^ BitVec.ofInt 32 (a.toNat : Int)).toNat : Int) = _
  rw [ofInt32, show BitVec.ofInt 32 IntKind.u32.max = BitVec.allOnes 32 by decide, BitVec.allOnes_xor, wrap32]
end Go.Sx
namespace Go.Sx
open Go
section
variable {P : Program} {c : Cx} {n : Nat} {env : List (Nat × Value)} {d : Nat} {ty : TypeId} {pos : String} {aft : Array Edge} {g : Option (Nat × Bool)} {x y : Operand} {t u : TypeId}
theorem p_xor32 {a b : BitVec 32} (hx : ev env x = some (w32 a)) (hy : ev env y = some (w32 b)) : Pv P n env ⟨some d, .binOp .xor t x y u, ty, pos, aft, g⟩ (w32 (a ^^^ b)) := by
  have := p_xor (P := P) (n := n) (d := d) (ty := ty) (pos := pos) (aft := aft) (g := g) (t := t) (u := u) hx hy
  rw [xor32] at this
  exact this
theorem p_and32 {a b : BitVec 32} (hx : ev env x = some (w32 a)) (hy : ev env y = some (w32 b)) : Pv P n env ⟨some d, .binOp .and t x y u, ty, pos, aft, g⟩ (w32 (a &&& b)) := by
  have := p_and (P := P) (n := n) (d := d) (ty := ty) (pos := pos) (aft := aft) (g := g) (t := t) (u := u) hx hy
  rw [and32] at this
  exact this
theorem p_shr32 {a : BitVec 32} {yk : IntKind} (k : Nat) (hk : k ≤ 32) (hx : ev env x = some (w32 a)) (hy : ev env y = some (.int yk (k : Int))) : Pv P n env ⟨some d, .binOp .shr t x y u, ty, pos, aft, g⟩ (w32 (a >>> k)) := by
  have := p_shr (P := P) (n := n) (d := d) (ty := ty) (pos := pos) (aft := aft) (g := g) (t := t) (u := u) hx hy (by omega)
  have e : (a.toNat : Int).fdiv (2 ^ (min ((k : Int)).toNat IntKind.u32.bits)) = ((a >>> k).toNat : Int) := by
    have h1 : min ((k : Int)).toNat IntKind.u32.bits = k := by show min k 32 = k; omega
    rw [h1, Int.fdiv_eq_ediv_of_nonneg _ (by exact Int.pow_nonneg (by decide)), BitVec.toNat_ushiftRight, Nat.shiftRight_eq_div_pow]
    simp
  rw [e] at this
  exact this
theorem p_com32 {a : BitVec 32} (hx : ev env x = some (w32 a)) : Pv P n env ⟨some d, .unOp .xor t x, ty, pos, aft, g⟩ (w32 (~~~ a)) := fun act w he => by
  have e := com32 a
  simp only [execOp, he.eval hx, Op.unary, Op.intBits, Sem.run_bind, Sem.run_pure, Result.andThen_ok]
  rw [if_neg (show ¬ IntKind.u32.signed = true by decide)]
  exact congrArg (fun z => Result.ok (Next.value (Value.int .u32 z)) w) e
theorem p_conv8 {b : UInt8} (ht : P.underlying t ≠ none) (hu : P.underlying u = some (.int .u32)) (hx : ev env x = some (.int .u8 (b.toNat : Int))) : Pv P n env ⟨some d, .convert t u x, ty, pos, aft, g⟩ (w32 (b.toBitVec.zeroExtend 32)) := by
  have := p_conv (P := P) (n := n) (d := d) (ty := ty) (pos := pos) (aft := aft) (g := g) (t := t) (u := u) ht hu hx
  have e : IntKind.u32.wrap (b.toNat : Int) = ((b.toBitVec.zeroExtend 32).toNat : Int) := by
    have hb := b.toNat_lt
    have h2 : (b.toBitVec.zeroExtend 32).toNat = b.toNat := by
      simp
    rw [← wrap32, h2]
  rw [e] at this
  exact this
theorem p_buildA {len sz : Nat} {e : TypeId} {ps : List (Nat × Operand)} {z l : List Value} {parts : List (Nat × Value)} (ht : P.underlying t = some (.array len e)) (hs : sizeB P e = some sz) (hz : zeroL P t = some z) (hp : evP env ps = some parts) (hf : fillF (fun i => some (i * sz, sz)) z parts = some l) :
    Pv P n env ⟨some d, .build t ps.toArray, ty, pos, aft, g⟩ (.agg l.toArray) := fun a w he => by
  have hpm : (ps.toArray.map fun (p : Nat × Operand) => (p.1, a.eval p.2)) = parts.toArray := by rw [List.map_toArray, he.evPs hp]
  obtain ⟨zv, hzv, hzz⟩ := Option.map_eq_some_iff.1 hz
  have hcells : zv.cells = z.toArray := by rw [← hzz, ← vcells_eq]
  have hfill := fill_fillF (fun i => some (i * sz, sz)) parts z l hf
  simp only [execOp, hpm, Instr.build, Sem.run_bind, run_zeroB hzv, Result.andThen_ok, run_underlying ht, run_sizeB hs, hcells, hfill, Sem.run_pure]
theorem p_indexV {len sz : Nat} {e : TypeId} {k : IntKind} {m : Int} {l : List Value} {v : Value} (hx : ev env x = some (.agg l.toArray)) (hy : ev env y = some (.int k m)) (ht : P.underlying t = some (.array len e)) (hs : sizeB P e = some sz) (hg : aggB P e = some false) (h0 : 0 ≤ m) (h1 : m < len) (hv : nth l (m.toNat * sz) = some v) :
    Pv P n env ⟨some d, .index t x y, ty, pos, aft, g⟩ v := fun a w he => by
  simp only [execOp, he.eval hx, he.eval hy, Instr.index, asIntOf, Sem.run_bind, Sem.run_pure, Result.andThen_ok, run_underlying ht, if_pos (show 0 ≤ m ∧ m < (len : Int) from ⟨h0, h1⟩), run_sizeB hs, part_one hg hv]
end
end Go.Sx
namespace Go.Sx
open Go
def kept (env : List (Nat × Value)) : List Nat → Option (List (Nat × Value))
  | [] => some []
  | i :: is => match look env i, kept env is with
    | some v, some r => some ((i, v) :: r)
    | _, _ => none
theorem kept_sub {env : List (Nat × Value)} : ∀ {is : List Nat} {e : List (Nat × Value)}, kept env is = some e → sub env e
  | [], e, h => by simp only [kept, Option.some.injEq] at h; subst h; trivial
  | i :: is, e, h => by
    simp only [kept] at h
    split at h
    · rename_i v r h1 h2
      simp only [Option.some.injEq] at h
      subst h
      exact ⟨h1, kept_sub h2⟩
    · cases h
theorem sub_app {env : List (Nat × Value)} : ∀ {a b : List (Nat × Value)}, sub env a → sub env b → sub env (a ++ b)
  | [], b, _, h => h
  | (i, v) :: r, b, ⟨h1, h2⟩, h => ⟨h1, sub_app h2 h⟩
end Go.Sx
namespace Go.Sx
open Go
section
variable {P : Program} {c : Cx} {n : Nat} {env env' envK E : List (Nat × Value)} {G G' Gr GK : List Own} {Q Q' QK : List Pers} {a : Act} {w : World}
theorem St.cutK {is js ks : List Nat} (h : St c n env G Q a w) (hs : Sx.sub env E) (hk : kept env ks = some envK) (hsel : sel G is = some (G', Gr)) (hq : pickQ Q js = some Q') : St c n (E ++ envK) G' Q' a w :=
  h.cut (sub_app hs (kept_sub hk)) hsel hq
theorem GC.regionC {R : Exit → Asr} {id m : Nat} {l : List Oper} {is js : List Nat} {GI : List Own} {QI : List Pers} (hm : P.follows .mixedOrders = true) (hsz : l.length = m) (hsel : sel G is = some (GI, Gr)) (hq : pickQ Q js = some QI) (h : GA P l.toArray (R .normal) (Mem c GI QI) m (Array.replicate m false) (St c n env G Q)) : GC P R (.region id l.toArray true) (St c n env G Q) :=
  GC.regionM hm hsz hsel hq h fun _ _ h => h
theorem GA.retL {ops : Array Oper} {M : Asr} {I : World → Prop} {fuel : Nat} {listed : Array Bool} {F : Value → List Own → List Pers → Prop} {Z : Value → List Own → Asr} (k : ∀ v G2, F v G2 [] → GA P ops M I fuel listed (Z v G2)) : GA P ops M I fuel listed (fun a w => ∃ v G2, F v G2 [] ∧ Z v G2 a w) := fun a w ⟨v, G2, hF, hZ⟩ => k v G2 hF a w hZ
theorem GC.layQ {α : Type} {kd : Kd α} {R : Exit → Asr} {cd : Code} {y : Operand} {j : Nat} {k : IntKind} {m : Int} {A : Option Addr} {xs : List α} {z : α} (hy : ev env y = some (.int k m)) (hj : nthO Q j = some (Pers.row kd A xs)) (h0 : 0 ≤ m) (hz : xs[m.toNat]? = some z)
    (kk : ∀ p r, A = some p → kd.ok z r → GC P R cd (St c n env G (Pers.at (p.add (m.toNat * kd.sz)) (kd.cells z r) :: (kd.pers z r ++ Q)))) : GC P R cd (St c n env G Q) :=
  GC.lay (x := .const (.slice A xs.length 0)) (y := y) rfl hy hj h0 hz kk
end
end Go.Sx
namespace Go.Sx
open Go
section
variable {P : Program} {c : Cx} {n : Nat} {env env' envK E : List (Nat × Value)} {G G' Gr GK : List Own} {Q Q' QK : List Pers} {a : Act} {w : World}
section
variable {ops : Array Oper} {M A B : Asr} {I : World → Prop} {fuel : Nat} {listed : Array Bool}
theorem GA.st (h : ∀ a w, St c n env G Q a w → St c n env' G' Q' a w) (k : GA P ops M I fuel listed (St c n env' G' Q')) : GA P ops M I fuel listed (St c n env G Q) := GA.imp h k
end
end
end Go.Sx
namespace Go.Sx
open Go
section
variable {P : Program} {c : Cx} {n : Nat} {env env' envK E : List (Nat × Value)} {G G' Gr GK : List Own} {Q Q' QK : List Pers} {a : Act} {w : World}
theorem GC.post {x : Code} {R R' : Exit → Asr} {A : Asr} (h : GC P R x A) (hr : ∀ e a w, R e a w → R' e a w) : GC P R' x A := fun a w ha => Code.wp_mono (fun e a w he => hr e a w he) (h a w ha)
theorem Exit.then_mono {M M' : Asr} {R : Exit → Asr} (h : ∀ a w, M a w → M' a w) : ∀ e a w, Exit.then M R e a w → Exit.then M' R e a w := by
  intro e a w he
  cases e <;> first | exact h a w he | exact he
end
end Go.Sx
namespace Go.Sx
open Go
section
variable {P : Program} {c : Cx} {n : Nat} {env env' envK E : List (Nat × Value)} {G G' Gr GK : List Own} {Q Q' QK : List Pers} {a : Act} {w : World}
section
variable {α β γ δ ε ζ η θ : Type} {x : Code} {R : Exit → Asr} {ks is js : List Nat}
theorem GC.loopK1 (φ : α → Prop) (F : α → List (Nat × Value)) (GF : α → List Own) (QF : α → List Pers) (μ : α → Nat) (y : α) (hK : kept env ks = some envK) (hG : pickQ G is = some GK) (hQ : pickQ Q js = some QK)
    (h0 : ∀ a w, St c n env G Q a w → φ y ∧ St c n (F y ++ envK) (GF y ++ GK) (QF y ++ QK) a w)
    (h : ∀ y, φ y → GC P (Exit.then (fun a w => ∃ z, μ z < μ y ∧ φ z ∧ St c n (F z ++ envK) (GF z ++ GK) (QF z ++ QK) a w) R) x (St c n (F y ++ envK) (GF y ++ GK) (QF y ++ QK))) : GC P R (.loop x) (St c n env G Q) :=
  GC.imp h0 (GC.loop (fun y a w => φ y ∧ St c n (F y ++ envK) (GF y ++ GK) (QF y ++ QK) a w) μ y fun y => GC.and fun hy => h y hy)
theorem GC.loopK2 (φ : α → β → Prop) (F : α → β → List (Nat × Value)) (GF : α → β → List Own) (QF : α → β → List Pers) (μ : α → β → Nat) (y1 : α) (y2 : β) (hK : kept env ks = some envK) (hG : pickQ G is = some GK) (hQ : pickQ Q js = some QK)
    (h0 : ∀ a w, St c n env G Q a w → φ y1 y2 ∧ St c n (F y1 y2 ++ envK) (GF y1 y2 ++ GK) (QF y1 y2 ++ QK) a w)
    (h : ∀ y1 y2, φ y1 y2 → GC P (Exit.then (fun a w => ∃ z1 z2, μ z1 z2 < μ y1 y2 ∧ φ z1 z2 ∧ St c n (F z1 z2 ++ envK) (GF z1 z2 ++ GK) (QF z1 z2 ++ QK) a w) R) x (St c n (F y1 y2 ++ envK) (GF y1 y2 ++ GK) (QF y1 y2 ++ QK))) : GC P R (.loop x) (St c n env G Q) :=
  GC.loopK1 (fun y : α × β => φ y.1 y.2) (fun y => F y.1 y.2) (fun y => GF y.1 y.2) (fun y => QF y.1 y.2) (fun y => μ y.1 y.2) (y1, y2) hK hG hQ h0 fun y hy => GC.post (h y.1 y.2 hy) (Exit.then_mono fun a w ⟨z1, z2, hz⟩ => ⟨(z1, z2), hz⟩)
theorem GC.loopK3 (φ : α → β → γ → Prop) (F : α → β → γ → List (Nat × Value)) (GF : α → β → γ → List Own) (QF : α → β → γ → List Pers) (μ : α → β → γ → Nat) (y1 : α) (y2 : β) (y3 : γ) (hK : kept env ks = some envK) (hG : pickQ G is = some GK) (hQ : pickQ Q js = some QK)
    (h0 : ∀ a w, St c n env G Q a w → φ y1 y2 y3 ∧ St c n (F y1 y2 y3 ++ envK) (GF y1 y2 y3 ++ GK) (QF y1 y2 y3 ++ QK) a w)
    (h : ∀ y1 y2 y3, φ y1 y2 y3 → GC P (Exit.then (fun a w => ∃ z1 z2 z3, μ z1 z2 z3 < μ y1 y2 y3 ∧ φ z1 z2 z3 ∧ St c n (F z1 z2 z3 ++ envK) (GF z1 z2 z3 ++ GK) (QF z1 z2 z3 ++ QK) a w) R) x (St c n (F y1 y2 y3 ++ envK) (GF y1 y2 y3 ++ GK) (QF y1 y2 y3 ++ QK))) : GC P R (.loop x) (St c n env G Q) :=
  GC.loopK2 (fun (y : α × β) z => φ y.1 y.2 z) (fun y => F y.1 y.2) (fun y => GF y.1 y.2) (fun y => QF y.1 y.2) (fun y => μ y.1 y.2) (y1, y2) y3 hK hG hQ h0 fun y y3 hy => GC.post (h y.1 y.2 y3 hy) (Exit.then_mono fun a w ⟨z1, z2, z3, hz⟩ => ⟨(z1, z2), z3, hz⟩)
end
end
end Go.Sx
namespace Go.Proofs.YtdhdmbmknpjhbaaGreat
open Go Go.Sx Go.Proofs
def poly : BitVec 32 := 0x82f63b78#32
def stepB (s : BitVec 32) : BitVec 32 := if s.getLsbD 0 = true then (s >>> 1) ^^^ poly else s >>> 1
def nibT : List (BitVec 32) := [0x00000000#32, 0x105ec76f#32, 0x20bd8ede#32, 0x30e349b1#32, 0x417b1dbc#32, 0x5125dad3#32, 0x61c69362#32, 0x7198540d#32, 0x82f63b78#32, 0x92a8fc17#32, 0xa24bb5a6#32, 0xb21572c9#32, 0xc38d26c4#32, 0xd3d3e1ab#32, 0xe330a81a#32, 0xf36e6f75#32]
def nibB (i : BitVec 32) : BitVec 32 := nibT.getD i.toNat 0
theorem stepB_xor (a b : BitVec 32) : stepB (a ^^^ b) = stepB a ^^^ stepB b := by
  unfold stepB
  rw [BitVec.getLsbD_xor, BitVec.ushiftRight_xor_distrib]
  have e : ∀ x : BitVec 32, poly ^^^ (x ^^^ poly) = x := fun x => by rw [BitVec.xor_comm x, ← BitVec.xor_assoc, BitVec.xor_self, BitVec.zero_xor]
  cases a.getLsbD 0 <;> cases b.getLsbD 0
  · simp
  · simp [BitVec.xor_assoc]
  · simp only [Bool.xor_false, if_true, Bool.false_eq_true, if_false]
    rw [BitVec.xor_assoc, BitVec.xor_assoc, BitVec.xor_comm poly]
  · simp only [Bool.xor_true, Bool.not_true, Bool.false_eq_true, if_false, if_true]
    rw [BitVec.xor_assoc, e]
theorem stepB_even {t : BitVec 32} (k : Nat) (h : t.toNat < 2 ^ (32 - (k + 1))) : stepB (t <<< (k + 1)) = t <<< k := by
  have h0 : (t <<< (k + 1)).getLsbD 0 = false := by simp
  unfold stepB
  rw [h0]
  simp only [Bool.false_eq_true, if_false]
  apply BitVec.eq_of_toNat_eq
  have hk : k + 1 ≤ 32 ∨ 32 < k + 1 := by omega
  rw [BitVec.toNat_ushiftRight, BitVec.toNat_shiftLeft, BitVec.toNat_shiftLeft, Nat.shiftLeft_eq, Nat.shiftLeft_eq, Nat.shiftRight_eq_div_pow]
  rcases hk with hk | hk
  · have hp : 2 ^ (32 - (k + 1)) * 2 ^ (k + 1) = 2 ^ 32 := by rw [← Nat.pow_add]; congr 1; omega
    have h1 : t.toNat * 2 ^ (k + 1) < 2 ^ 32 := by rw [← hp]; exact Nat.mul_lt_mul_of_pos_right h (Nat.pow_pos (by decide))
    have h2 : t.toNat * 2 ^ k < 2 ^ 32 := by
      refine Nat.lt_of_le_of_lt (Nat.mul_le_mul_left _ ?_) h1
      exact Nat.pow_le_pow_right (by decide) (by omega)
    rw [Nat.mod_eq_of_lt h1, Nat.mod_eq_of_lt h2, Nat.pow_succ, ← Nat.mul_assoc]
    simp
  · have : t.toNat = 0 := by
      rw [show 32 - (k + 1) = 0 by omega] at h
      omega
    rw [this]; simp
theorem nib16 : ∀ l : BitVec 4, stepB (stepB (stepB (stepB (l.zeroExtend 32)))) = nibB (l.zeroExtend 32) := by decide +kernel
theorem nib_step (s : BitVec 32) : (s >>> 4) ^^^ nibB (s &&& 15#32) = stepB (stepB (stepB (stepB s))) := by
  have hs : s = ((s >>> 4) <<< 4) ^^^ (s &&& 15#32) := by
    apply BitVec.eq_of_getLsbD_eq
    intro i hi
    rw [BitVec.getLsbD_xor, BitVec.getLsbD_shiftLeft, BitVec.getLsbD_ushiftRight, BitVec.getLsbD_and]
    by_cases h4 : i < 4
    · have : (15#32).getLsbD i = true := by
        rcases (show i = 0 ∨ i = 1 ∨ i = 2 ∨ i = 3 by omega) with rfl | rfl | rfl | rfl <;> decide
      simp [h4, this]
    · have : (15#32).getLsbD i = false := by
        have : (15#32).toNat < 2 ^ 4 := by decide
        rw [← BitVec.testBit_toNat]
        exact Nat.testBit_lt_two_pow (Nat.lt_of_lt_of_le this (Nat.pow_le_pow_right (by decide) (by omega)))
      rw [this, Bool.and_false, Bool.xor_false, show 4 + (i - 4) = i by omega]
      simp [h4, hi]
  have ht : (s >>> 4).toNat < 2 ^ 28 := by
    rw [BitVec.toNat_ushiftRight, Nat.shiftRight_eq_div_pow]
    have := s.isLt
    omega
  have e4 : stepB (stepB (stepB (stepB ((s >>> 4) <<< 4)))) = s >>> 4 := by
    rw [stepB_even 3 ht, stepB_even 2 (Nat.lt_of_lt_of_le ht (by decide)), stepB_even 1 (Nat.lt_of_lt_of_le ht (by decide)), stepB_even 0 (Nat.lt_of_lt_of_le ht (by decide)), BitVec.shiftLeft_zero]
  have el : s &&& 15#32 = ((s.truncate 4 : BitVec 4)).zeroExtend 32 := by
    apply BitVec.eq_of_toNat_eq
    simp
    have : s.toNat &&& 15 = s.toNat % 2 ^ 4 := Nat.and_two_pow_sub_one_eq_mod s.toNat 4
    omega
  conv => rhs; rw [hs]
  rw [stepB_xor, stepB_xor, stepB_xor, stepB_xor, e4, el, nib16]
end Go.Proofs.YtdhdmbmknpjhbaaGreat
namespace Go.Proofs.YtdhdmbmknpjhbaaGreat
open Go Go.Sx Go.Proofs
def byteB (s : BitVec 32) (b : UInt8) : BitVec 32 := stepB (stepB (stepB (stepB (stepB (stepB (stepB (stepB (s ^^^ b.toBitVec.zeroExtend 32))))))))
def moreB (s : BitVec 32) (b : List UInt8) : BitVec 32 := ~~~ (b.foldl byteB (~~~ s))
theorem nib_nth {x : BitVec 32} (h : x.toNat < 16) : nth (nibT.map w32) ((x.toNat : Int).toNat * 1) = some (w32 (nibB x)) := by
  rw [nth_eq, List.getElem?_map, Nat.mul_one, Int.toNat_natCast]
  have hl : nibT.length = 16 := rfl
  rw [List.getElem?_eq_getElem (by omega)]
  unfold nibB
  rw [List.getD_eq_getElem?_getD, List.getElem?_eq_getElem (by omega)]
  rfl
theorem nib_ct (x : BitVec 32) (h : x.toNat < 16) : Ct Tryz.prog 168 [w32 x] [] [] (fun u G Q => u = w32 (nibB x) ∧ G = [] ∧ Q = []) := by
 refine Ct.intro Tryz.func168 rfl rfl rfl (fun c hc => ?_)
 refine GC.seq' ?_
 refine GC.region ?_
 refine GL.pure rfl (p_assign rfl) ?_
 refine GL.nil (?_ : GC _ _ _ _)
 refine GC.seq' ?_
 refine GC.region ?_
 refine GL.pure rfl (p_buildA Tryz.underlying230 sz_144 ze_230 rfl rfl) ?_
 refine GL.pure rfl (p_move rfl) ?_
 refine GL.pure rfl (p_indexV rfl rfl Tryz.underlying230 sz_144 ag_144 (by omega) (by omega) (nib_nth h)) ?_
 refine GL.pure rfl (p_assign rfl) ?_
 refine GL.nil (?_ : GC _ _ _ _)
 refine GC.ret ?_
 refine fun a w h => Fin.back (rs := [.tmp 2]) (vs := [_]) (is := []) (js := []) rfl ⟨rfl, trivial⟩ rfl rfl ?_ h
 clear h
 exact ⟨rfl, rfl, rfl⟩
theorem and15 (s : BitVec 32) : (s &&& 15#32).toNat < 16 := by
  have : (s &&& 15#32).toNat = s.toNat % 16 := by
    rw [BitVec.toNat_and]; exact Nat.and_two_pow_sub_one_eq_mod s.toNat 4
  omega
end Go.Proofs.YtdhdmbmknpjhbaaGreat
namespace Go.Proofs.YtdhdmbmknpjhbaaGreat
open Go Go.Sx Go.Proofs
theorem take_gt {α : Type} [Inhabited α] {l : List α} {k : Nat} (h : k < l.length) : l.take (k + 1) = l.take k ++ [gt l (k : Int)] := by
  have := gt_ok (xs := l) (i := (k : Int)) (by omega) (by omega)
  simp only [Int.toNat_natCast] at this
  rw [List.take_add_one, this]; rfl
theorem foldl_take {l : List UInt8} {k : Nat} {s : BitVec 32} (h : k < l.length) : (l.take (k + 1)).foldl byteB s = byteB ((l.take k).foldl byteB s) (gt l (k : Int)) := by
  rw [take_gt h, List.foldl_append]; rfl
theorem more_ct (s : BitVec 32) (A : Option Addr) (l : List UInt8) (cp : Nat) (hl : l.length ≤ 140737488355328) : Ct Tryz.prog 150 [w32 s, .slice A l.length cp] [] [Pers.row Kd.u8 A l] (fun u G Q => u = w32 (moreB s l) ∧ G = [] ∧ Q = []) := by
 refine Ct.intro Tryz.func150 rfl rfl rfl (fun c hc => ?_)
 refine GC.seq' ?_
 refine GC.region ?_
 refine GL.pure rfl (p_assign rfl) ?_
 refine GL.nil (?_ : GC _ _ _ _)
 refine GC.seq' ?_
 refine GC.region ?_
 refine GL.pure rfl (p_move rfl) ?_
 refine GL.pure rfl (p_com32 rfl) ?_
 refine GL.pure rfl (p_assign rfl) ?_
 refine GL.nil (?_ : GC _ _ _ _)
 refine GC.seq' ?_
 refine GC.seq' ?_
 refine GC.region ?_
 refine GL.pure rfl (p_move rfl) ?_
 refine GL.pure rfl (p_len Tryz.underlying25 rfl) ?_
 refine GL.pure rfl (p_move rfl) ?_
 refine GL.nil (?_ : GC _ _ _ _)
 refine GC.block ?_
 refine GC.imp (fun a w h => (⟨by simp, h.cut (is := []) (js := [0]) ⟨rfl, rfl, rfl, rfl, rfl, trivial⟩ rfl rfl⟩ : (fun (k : Nat) (a : Act) (w : World) => k ≤ l.length ∧ St c 35 [(1, .slice A l.length cp), (5, w32 ((l.take k).foldl byteB (~~~ s))), (10, .slice A l.length cp), (11, .int .i64 (l.length : Int)), (12, .int .i64 (k : Int))] [] [Pers.row Kd.u8 A l] a w) 0 a w)) (GC.loop (fun (k : Nat) (a : Act) (w : World) => k ≤ l.length ∧ St c 35 [(1, .slice A l.length cp), (5, w32 ((l.take k).foldl byteB (~~~ s))), (10, .slice A l.length cp), (11, .int .i64 (l.length : Int)), (12, .int .i64 (k : Int))] [] [Pers.row Kd.u8 A l] a w) (fun k => l.length - k) 0 ?_)
 intro k
 refine GC.and fun hk => ?_
 refine GC.seq' ?_
 refine GC.region ?_
 refine GL.pure rfl (p_lss rfl rfl) ?_
 refine GL.nil (?_ : GC _ _ _ _)
 refine GC.seq' ?_
 refine GC.cond rfl (fun h1 => ?_) (fun h1 => ?_)
 ·try simp only [tst_] at h1
  refine GC.skip (?_ : GC _ _ _ _)
  refine GC.seq' ?_
  refine GC.block ?_
  refine GC.seq' ?_
  refine GC.region ?_
  refine GL.step rfl (t_index (i := 0) rfl rfl rfl rfl Tryz.underlying25 sz_5 (by omega) (gt_ok (by omega) (by omega))) (GL.ex fun p_x14 => GL.ex fun r_x14 => GL.and fun ok_x14 => ?_)
  rcases r_x14 with _
  refine GL.step rfl (t_mem rfl (m_loadP (i := 0) rfl rfl ag_5 rfl)) ?_
  refine GL.pure rfl (p_assign rfl) ?_
  refine GL.nil (?_ : GC _ _ _ _)
  refine GC.seq' ?_
  refine GC.region ?_
  refine GL.pure rfl (p_move rfl) ?_
  refine GL.pure rfl (p_move rfl) ?_
  refine GL.pure rfl (p_conv8 (t := 5) (by rw [Tryz.underlying5]; simp) Tryz.underlying144 rfl) ?_
  refine GL.pure rfl (p_xor32 rfl rfl) ?_
  refine GL.pure rfl (p_assign rfl) ?_
  refine GL.nil (?_ : GC _ _ _ _)
  refine GC.seq' ?_
  refine GC.region ?_
  refine GL.pure rfl (p_move rfl) ?_
  refine GL.pure rfl (p_shr32 4 (by decide) rfl rfl) ?_
  refine GL.pure rfl (p_move rfl) ?_
  refine GL.pure rfl (p_and32 (b := 15#32) rfl rfl) ?_
  refine GL.step rfl (t_call rfl fn_168 rfl (is := []) (js := []) rfl rfl (by exact nib_ct _ (and15 _))) (GL.ret ?_)
  rintro _ _ _ ⟨rfl, rfl, rfl⟩
  refine GL.pure rfl (p_xor32 rfl rfl) ?_
  refine GL.pure rfl (p_assign rfl) ?_
  refine GL.nil (?_ : GC _ _ _ _)
  refine GC.region ?_
  refine GL.pure rfl (p_move rfl) ?_
  refine GL.pure rfl (p_shr32 4 (by decide) rfl rfl) ?_
  refine GL.pure rfl (p_move rfl) ?_
  refine GL.pure rfl (p_and32 (b := 15#32) rfl rfl) ?_
  refine GL.step rfl (t_call rfl fn_168 rfl (is := []) (js := []) rfl rfl (by exact nib_ct _ (and15 _))) (GL.ret ?_)
  rintro _ _ _ ⟨rfl, rfl, rfl⟩
  refine GL.pure rfl (p_xor32 rfl rfl) ?_
  refine GL.pure rfl (p_assign rfl) ?_
  refine GL.nil (?_ : GC _ _ _ _)
  refine GC.region ?_
  refine GL.pure rfl (p_add rfl rfl (w64 (by omega) (by omega))) ?_
  refine GL.pure rfl (p_move rfl) ?_
  refine GL.nil ?_
  exact fun a w h => ⟨(k + 1), (by omega), (by omega), by rw [foldl_take (by omega), byteB, ← nib_step, ← nib_step]; exact h.cut (is := []) (js := [1]) ⟨rfl, rfl, rfl, rfl, rfl, trivial⟩ rfl rfl⟩
 ·try simp only [tst_] at h1
  refine GC.exit (?_ : GC _ _ _ _)
  refine GC.seq' ?_
  refine GC.region ?_
  refine GL.pure rfl (p_move rfl) ?_
  refine GL.pure rfl (p_com32 rfl) ?_
  refine GL.pure rfl (p_assign rfl) ?_
  refine GL.nil (?_ : GC _ _ _ _)
  refine GC.ret ?_
  refine fun a w h => Fin.back (rs := [.tmp 4]) (vs := [_]) (is := []) (js := []) rfl ⟨rfl, trivial⟩ rfl rfl ?_ h
  clear h
  obtain rfl : k = l.length := by omega
  exact ⟨by rw [List.take_length]; rfl, rfl, rfl⟩
end Go.Proofs.YtdhdmbmknpjhbaaGreat
namespace Go.Proofs.YtdhdmbmknpjhbaaGreat
open Go Go.Sx Go.Proofs
theorem csum_ct (A : Option Addr) (b : List UInt8) (cp : Nat) (hl : b.length ≤ 140737488355328) : Ct Tryz.prog 125 [.slice A 1 cp] [] [Pers.row kBytes A [b]] (fun u G Q => u = w32 (moreB 0#32 b) ∧ G = [] ∧ Q = []) := by
 have e1 : ([b] : List (List UInt8)).length = 1 := rfl
 rw [← e1]
 refine Ct.intro Tryz.func125 rfl rfl rfl (fun c hc => ?_)
 refine GC.seq' ?_
 refine GC.region ?_
 refine GL.pure rfl (p_assign rfl) ?_
 refine GL.nil (?_ : GC _ _ _ _)
 refine GC.seq' ?_
 refine GC.region ?_
 refine GL.pure rfl (p_assign rfl) ?_
 refine GL.nil (?_ : GC _ _ _ _)
 refine GC.seq' ?_
 refine GC.seq' ?_
 refine GC.region ?_
 refine GL.pure rfl (p_move rfl) ?_
 refine GL.pure rfl (p_len Tryz.underlying188 rfl) ?_
 refine GL.pure rfl (p_move rfl) ?_
 refine GL.nil (?_ : GC _ _ _ _)
 refine GC.block ?_
 refine GC.imp (fun a w h => (⟨by simp, h.cut (is := []) (js := [0]) ⟨rfl, rfl, rfl, rfl, trivial⟩ rfl rfl⟩ : (fun (k : Nat) (a : Act) (w : World) => k ≤ 1 ∧ St c 17 [(3, w32 (if k = 0 then 0#32 else moreB 0#32 b)), (6, .slice A ([b] : List (List UInt8)).length cp), (7, .int .i64 (([b] : List (List UInt8)).length : Int)), (8, .int .i64 (k : Int))] [] [Pers.row kBytes A [b]] a w) 0 a w)) (GC.loop (fun (k : Nat) (a : Act) (w : World) => k ≤ 1 ∧ St c 17 [(3, w32 (if k = 0 then 0#32 else moreB 0#32 b)), (6, .slice A ([b] : List (List UInt8)).length cp), (7, .int .i64 (([b] : List (List UInt8)).length : Int)), (8, .int .i64 (k : Int))] [] [Pers.row kBytes A [b]] a w) (fun k => 1 - k) 0 ?_)
 intro k
 refine GC.and fun hk => ?_
 refine GC.seq' ?_
 refine GC.region ?_
 refine GL.pure rfl (p_lss rfl rfl) ?_
 refine GL.nil (?_ : GC _ _ _ _)
 refine GC.seq' ?_
 refine GC.cond rfl (fun h1 => ?_) (fun h1 => ?_)
 ·try simp only [tst_] at h1
  refine GC.skip (?_ : GC _ _ _ _)
  refine GC.seq' ?_
  refine GC.block ?_
  refine GC.seq' ?_
  refine GC.region ?_
  refine GL.step rfl (t_index (i := 0) rfl rfl rfl rfl Tryz.underlying188 sz_25 (by omega) (gt_ok (by omega) (by omega))) (GL.ex fun p_x10 => GL.ex fun r_x10 => GL.and fun ok_x10 => ?_)
  rcases r_x10 with ⟨Ax10_0, cpx10_0⟩
  refine GL.step rfl (t_mem rfl (m_loadP (i := 0) rfl rfl ag_25 rfl)) ?_
  refine GL.pure rfl (p_assign rfl) ?_
  refine GL.nil (?_ : GC _ _ _ _)
  refine GC.region ?_
  refine GL.pure rfl (p_move rfl) ?_
  refine GL.pure rfl (p_move rfl) ?_
  have hk0 : k = 0 := by simp at h1; omega
  have hlk : (gt [b] (k : Int)).length ≤ 140737488355328 := by subst hk0; exact hl
  refine GL.step rfl (t_call rfl fn_150 rfl (is := []) (js := [1]) rfl rfl (by exact more_ct _ _ (gt [b] (k : Int)) _ hlk)) (GL.ret ?_)
  rintro _ _ _ ⟨rfl, rfl, rfl⟩
  refine GL.pure rfl (p_assign rfl) ?_
  refine GL.nil (?_ : GC _ _ _ _)
  refine GC.region ?_
  refine GL.pure rfl (p_add rfl rfl (w64 (by omega) (by omega))) ?_
  refine GL.pure rfl (p_move rfl) ?_
  refine GL.nil ?_
  subst hk0
  exact fun a w h => ⟨(0 + 1), (by omega), (by omega), h.cut (is := []) (js := [2]) ⟨rfl, rfl, rfl, rfl, trivial⟩ rfl rfl⟩
 ·try simp only [tst_] at h1
  refine GC.exit (?_ : GC _ _ _ _)
  refine GC.seq' ?_
  refine GC.region ?_
  refine GL.pure rfl (p_move rfl) ?_
  refine GL.pure rfl (p_assign rfl) ?_
  refine GL.nil (?_ : GC _ _ _ _)
  refine GC.ret ?_
  refine fun a w h => Fin.back (rs := [.tmp 2]) (vs := [_]) (is := []) (js := []) rfl ⟨rfl, trivial⟩ rfl rfl ?_ h
  clear h
  obtain rfl : k = 1 := by simp at h1; omega
  exact ⟨rfl, rfl, rfl⟩
end Go.Proofs.YtdhdmbmknpjhbaaGreat
namespace Go.Proofs.YtdhdmbmknpjhbaaGreat
open Go Go.Sx Go.Proofs
def isNum (n : Int) : Bool := decide (1 ≤ n) && decide (n ≤ 4611686018427387904)
theorem isNumber_ct (n : Int) : Ct Tryz.prog 181 [.int .i64 n] [] [] (fun v G Q => v = .bool (isNum n) ∧ G = [] ∧ Q = []) := by
 refine Ct.intro Tryz.func181 rfl rfl rfl (fun c hc => ?_)
 refine GC.seq' ?_
 refine GC.region ?_
 refine GL.pure rfl (p_assign rfl) ?_
 refine GL.nil (?_ : GC _ _ _ _)
 refine GC.seq' ?_
 refine GC.region ?_
 refine GL.pure rfl (p_move rfl) ?_
 refine GL.pure rfl (p_geq rfl rfl) ?_
 refine GL.pure rfl (p_move rfl) ?_
 refine GL.split (i := 5) rfl (fun h1 => ?_) (fun h1 => ?_)
 ·try simp only [tst_] at h1
  refine GL.pureG (s := 5) rfl rfl rfl (p_move rfl) ?_
  refine GL.pureG (s := 5) rfl rfl rfl (p_leq rfl rfl) ?_
  refine GL.pure rfl (p_pick_true rfl rfl) ?_
  refine GL.pure rfl (p_assign rfl) ?_
  refine GL.nil (?_ : GC _ _ _ _)
  refine GC.ret ?_
  refine fun a w h => Fin.back (rs := [.tmp 2]) (vs := [_]) (is := []) (js := []) rfl ⟨rfl, trivial⟩ rfl rfl ?_ h
  clear h
  refine ⟨congrArg Value.bool ?_, rfl, rfl⟩; simp [isNum]; omega
 ·try simp only [tst_] at h1
  refine GL.pass (s := 5) rfl rfl rfl ?_
  refine GL.pass (s := 5) rfl rfl rfl ?_
  refine GL.pure rfl (p_pick_false rfl rfl) ?_
  refine GL.pure rfl (p_assign rfl) ?_
  refine GL.nil (?_ : GC _ _ _ _)
  refine GC.ret ?_
  refine fun a w h => Fin.back (rs := [.tmp 2]) (vs := [_]) (is := []) (js := []) rfl ⟨rfl, trivial⟩ rfl rfl ?_ h
  clear h
  refine ⟨congrArg Value.bool ?_, rfl, rfl⟩; simp [isNum]; omega
theorem tmade_ct (p m : Nat) : Ct Tryz.prog 180 [.pointer (some ⟨p, 0, none⟩)] [.cells p [.map (some m)] 223] [] (fun v G Q => v = .bool true ∧ G = [.cells p [.map (some m)] 223] ∧ Q = []) := by
 refine Ct.intro Tryz.func180 rfl rfl rfl (fun c hc => ?_)
 refine GC.seq' ?_
 refine GC.region ?_
 refine GL.pure rfl (p_assign rfl) ?_
 refine GL.nil (?_ : GC _ _ _ _)
 refine GC.seq' ?_
 refine GC.region ?_
 refine GL.pure rfl (p_move rfl) ?_
 refine GL.pure rfl (p_pnil_neq Tryz.underlying180 rfl rfl) ?_
 refine GL.pure rfl (p_move rfl) ?_
 refine GL.pureG (s := 5) rfl rfl rfl (p_move rfl) ?_
 refine GL.pureG (s := 5) rfl rfl rfl (p_nilCheck rfl) ?_
 refine GL.pureG (s := 5) rfl rfl rfl (p_fieldAddr fo_223_0 rfl) ?_
 refine GL.stepG rfl (s := 5) rfl rfl (t_mem rfl (m_load (i := 0) rfl rfl ag_221 rfl)) ?_
 refine GL.pureG (s := 5) rfl rfl rfl (p_mapnil_neq Tryz.underlying221 rfl rfl) ?_
 refine GL.pure rfl (p_pick_true rfl rfl) ?_
 refine GL.pure rfl (p_assign rfl) ?_
 refine GL.nil (?_ : GC _ _ _ _)
 refine GC.ret ?_
 refine fun a w h => Fin.back (rs := [.tmp 2]) (vs := [_]) (is := [0]) (js := []) rfl ⟨rfl, trivial⟩ rfl rfl ?_ h
 clear h
 exact ⟨rfl, rfl, rfl⟩
theorem own_ct (code : Int) (A : Option Addr) (xs : List UInt8) (cp : Nat) (hx : xs.length ≤ 140737488351232) : Ct Tryz.prog 178 [.agg #[.int .u8 code, .slice A xs.length cp]] [] [Pers.row Kd.u8 A xs]
    (fun v G Q => ∃ A' cp', xs.length ≤ cp' ∧ cp' ≤ 9223372036854775807 ∧ v = .agg #[.int .u8 code, .slice A' xs.length cp'] ∧ G = [.row (.slice A' xs.length cp') 5 1 xs.length (xs.map u8v)] ∧ Q = []) := by
 refine Ct.intro Tryz.func178 rfl rfl rfl (fun c hc => ?_)
 refine GC.seq' ?_
 refine GC.region ?_
 refine GL.step rfl (t_box rfl rfl rfl) (GL.ex fun b_t1 => ?_)
 refine GL.step rfl (t_alloc rfl ze_30) (GL.ex fun b_t2 => ?_)
 refine GL.nil (?_ : GC _ _ _ _)
 refine GC.seq' ?_
 refine GC.region ?_
 refine GL.pure rfl (p_fieldAddr fo_30_1 rfl) ?_
 refine GL.step rfl (t_mem rfl (m_load (i := 1) rfl rfl ag_25 rfl)) ?_
 refine GL.step rfl (t_call rfl fn_182 rfl (is := []) (js := [0]) rfl rfl (by exact clone_ct _ _ _ (by first | assumption | omega))) (GL.ret ?_)
 rintro _ _ _ ⟨A5, cp5, l5, k5, rfl, rfl, rfl⟩
 refine GL.pure rfl (p_fieldAddr fo_30_1 rfl) ?_
 refine GL.step rfl (t_store (i := 2) rfl rfl rfl rfl sz_25 rfl rfl rfl) ?_
 refine GL.nil (?_ : GC _ _ _ _)
 refine GC.seq' ?_
 refine GC.region ?_
 refine GL.step rfl (t_mem rfl (m_loadN (i := 2) rfl rfl ag_30 (vs := [_, _]) sz_30 ⟨rfl, rfl, trivial⟩)) ?_
 refine GL.step rfl (t_storeN (i := 1) rfl rfl rfl sz_30 rfl rfl rfl) ?_
 refine GL.nil (?_ : GC _ _ _ _)
 refine GC.ret ?_
 refine fun a w h => Fin.back (rs := [.cell 2 30]) (vs := [_]) (is := [0]) (js := []) rfl ⟨⟨1, _, _, _, _, rfl, rfl, .inr ⟨[_, _], rfl, ag_30, sz_30, ⟨rfl, rfl, trivial⟩⟩⟩, trivial⟩ rfl rfl ?_ h
 clear h
 exact ⟨_, _, by assumption, by assumption, rfl, rfl, rfl⟩
def askF (T : List (Int × Last)) (c s : Int) : Int × Res × Int :=
  if isNum c = false ∨ isNum s = false then (0, rz, 5)
  else match mget T c with
    | none => if (T.length : Int) = 64 then (4, rz, 0) else (1, rz, 0)
    | some l => if s > l.serial then (1, rz, 0) else if s < l.serial then (3, rz, 0) else (2, l.result, 0)
def TabOk (T : List (Int × Last)) : Prop := ∀ k l, mget T k = some l → l.result.data.length ≤ 262144
abbrev tabG (p m : Nat) (es : Array MapEntry) (ck : Nat) : List Own := [.cells p [.map (some m)] 223, .blk m (.map es ck)]
abbrev resV' (v : Int) (r : Res) (A : Option Addr) (cp : Nat) (e : Int) : Value := .tuple #[.int .i64 v, .agg #[.int .u8 r.code, .slice A r.data.length cp], .int .i64 e]
theorem ask_ct (p m : Nat) (es : Array MapEntry) (ck : Nat) (T : List (Int × Last)) (cl se : Int) (hT : TabOk T) :
    Ct Tryz.prog 177 [.pointer (some ⟨p, 0, none⟩), .int .i64 cl, .int .i64 se] (tabG p m es ck) [Pers.map kLast true T es ck]
      (fun v G Q => ∃ A cp, (askF T cl se).2.1.data.length ≤ cp ∧ cp ≤ 9223372036854775807 ∧ v = resV' (askF T cl se).1 (askF T cl se).2.1 A cp (askF T cl se).2.2 ∧ G = tabG p m es ck ∧ Q = [Pers.row Kd.u8 A (askF T cl se).2.1.data]) := by
 refine Ct.intro Tryz.func177 rfl rfl rfl (fun c hc => ?_)
 refine GC.seq' ?_
 refine GC.region ?_
 refine GL.pure rfl (p_assign rfl) ?_
 refine GL.step rfl (t_alloc rfl ze_30) (GL.ex fun b_t7 => ?_)
 refine GL.pure rfl (p_assign rfl) ?_
 refine GL.nil (?_ : GC _ _ _ _)
 refine GC.seq' ?_
 refine GC.seq' ?_
 refine GC.region ?_
 refine GL.pure rfl (p_move rfl) ?_
 refine GL.step rfl (t_call rfl fn_180 rfl (is := [1]) (js := []) rfl rfl (by exact tmade_ct _ _)) (GL.ret ?_)
 rintro _ _ _ ⟨rfl, rfl, rfl⟩
 refine GL.pure rfl (p_not rfl) ?_
 refine GL.nil (?_ : GC _ _ _ _)
 refine GC.cond_false rfl ?_
 refine GC.skip (?_ : GC _ _ _ _)
 refine GC.seq' ?_
 refine GC.seq' ?_
 refine GC.region ?_
 refine GL.pure rfl (p_move rfl) ?_
 refine GL.step rfl (t_call rfl fn_181 rfl (is := []) (js := []) rfl rfl (by exact isNumber_ct _)) (GL.ret ?_)
 rintro _ _ _ ⟨rfl, rfl, rfl⟩
 refine GL.pure rfl (p_not rfl) ?_
 refine GL.pure rfl (p_move rfl) ?_
 refine GL.split (i := 18) rfl (fun h1 => ?_) (fun h1 => ?_)
 ·try simp only [tst_] at h1
  refine GL.pass (s := 18) rfl rfl rfl ?_
  refine GL.pass (s := 18) rfl rfl rfl ?_
  refine GL.pass (s := 18) rfl rfl rfl ?_
  refine GL.pure rfl (p_pick_true rfl rfl) ?_
  refine GL.nil (?_ : GC _ _ _ _)
  refine GC.cond_true rfl ?_
  refine GC.seq' ?_
  refine GC.region ?_
  refine GL.pure rfl (p_build ze_30 of_30 rfl rfl) ?_
  refine GL.pure rfl (p_assign rfl) ?_
  refine GL.step rfl (t_storeN (i := 1) rfl rfl rfl sz_30 rfl rfl rfl) ?_
  refine GL.pure rfl (p_assign rfl) ?_
  refine GL.nil (?_ : GC _ _ _ _)
  refine GC.know (q := Pers.row Kd.u8 none []) (fun _ _ _ => .inl rfl) ?_
  refine GC.ret ?_
  refine fun a w h => Fin.back (rs := [.tmp 6, .cell 7 30, .tmp 8]) (vs := [_, _, _]) (is := [0, 1]) (js := [0]) rfl ⟨rfl, ⟨1, _, _, _, _, rfl, rfl, .inr ⟨[_, _], rfl, ag_30, sz_30, ⟨rfl, rfl, trivial⟩⟩⟩, rfl, trivial⟩ rfl rfl ?_ h
  clear h
  have e : askF T cl se = (0, rz, 5) := by simp [askF, *]
  rw [e]; exact ⟨none, 0, by simp [rz], by simp, rfl, rfl, rfl⟩
 ·try simp only [tst_] at h1
  refine GL.pureG (s := 18) rfl rfl rfl (p_move rfl) ?_
  refine GL.stepG rfl (s := 18) rfl rfl (t_call rfl fn_181 rfl (is := []) (js := []) rfl rfl (by exact isNumber_ct _)) (GL.ret ?_)
  rintro _ _ _ ⟨rfl, rfl, rfl⟩
  refine GL.pureG (s := 18) rfl rfl rfl (p_not rfl) ?_
  refine GL.pure rfl (p_pick_false rfl rfl) ?_
  refine GL.nil (?_ : GC _ _ _ _)
  refine GC.cond rfl (fun h2 => ?_) (fun h2 => ?_)
  ·try simp only [tst_] at h2
   refine GC.seq' ?_
   refine GC.region ?_
   refine GL.pure rfl (p_build ze_30 of_30 rfl rfl) ?_
   refine GL.pure rfl (p_assign rfl) ?_
   refine GL.step rfl (t_storeN (i := 1) rfl rfl rfl sz_30 rfl rfl rfl) ?_
   refine GL.pure rfl (p_assign rfl) ?_
   refine GL.nil (?_ : GC _ _ _ _)
   refine GC.know (q := Pers.row Kd.u8 none []) (fun _ _ _ => .inl rfl) ?_
   refine GC.ret ?_
   refine fun a w h => Fin.back (rs := [.tmp 6, .cell 7 30, .tmp 8]) (vs := [_, _, _]) (is := [0, 1]) (js := [0]) rfl ⟨rfl, ⟨1, _, _, _, _, rfl, rfl, .inr ⟨[_, _], rfl, ag_30, sz_30, ⟨rfl, rfl, trivial⟩⟩⟩, rfl, trivial⟩ rfl rfl ?_ h
   clear h
   have e : askF T cl se = (0, rz, 5) := by simp [askF, *]
   rw [e]; exact ⟨none, 0, by simp [rz], by simp, rfl, rfl, rfl⟩
  ·try simp only [tst_] at h2
   refine GC.skip (?_ : GC _ _ _ _)
   refine GC.seq' ?_
   refine GC.region ?_
   refine GL.pure rfl (p_move rfl) ?_
   refine GL.pure rfl (p_nilCheck rfl) ?_
   refine GL.pure rfl (p_fieldAddr fo_223_0 rfl) ?_
   refine GL.step rfl (t_mem rfl (m_load (i := 0) rfl rfl ag_221 rfl)) ?_
   refine GL.pure rfl (p_move rfl) ?_
   refine GL.step rfl (t_lookup (i := 2) (j := 0) rfl rfl rfl rfl rfl Tryz.underlying221 Tryz.underlying3 ze_229 zb_229) (GL.or (GL.and fun n_m30 => ?_) (GL.ex fun u_m30 => GL.ex fun r_m30 => GL.and fun s_m30 => GL.and fun ok_m30 => ?_))
   ·refine GL.pure rfl (p_move rfl) ?_
    refine GL.pure rfl (p_extract rfl rfl) ?_
    refine GL.pure rfl (p_extract rfl rfl) ?_
    refine GL.step rfl (t_alloc rfl ze_229) (GL.ex fun b_t9 => ?_)
    refine GL.step rfl (t_storeN (i := 0) rfl rfl rfl sz_229 rfl rfl rfl) ?_
    refine GL.pure rfl (p_assign rfl) ?_
    refine GL.nil (?_ : GC _ _ _ _)
    refine GC.seq' ?_
    refine GC.block ?_
    refine GC.seq' ?_
    refine GC.region ?_
    refine GL.pure rfl (p_move rfl) ?_
    refine GL.pure rfl (p_not rfl) ?_
    refine GL.pure rfl (p_move rfl) ?_
    refine GL.pureG (s := 36) rfl rfl rfl (p_move rfl) ?_
    refine GL.pureG (s := 36) rfl rfl rfl (p_nilCheck rfl) ?_
    refine GL.pureG (s := 36) rfl rfl rfl (p_fieldAddr fo_223_0 rfl) ?_
    refine GL.stepG rfl (s := 36) rfl rfl (t_mem rfl (m_load (i := 1) rfl rfl ag_221 rfl)) ?_
    refine GL.stepG rfl (s := 36) rfl rfl (t_mem rfl (m_lenmap (i := 3) (j := 0) rfl rfl rfl Tryz.underlying221)) ?_
    refine GL.pureG (s := 36) rfl rfl rfl (p_eql rfl rfl) ?_
    refine GL.pure rfl (p_pick_true rfl rfl) ?_
    refine GL.pure rfl (p_assign rfl) ?_
    refine GL.nil (?_ : GC _ _ _ _)
    refine GC.cond rfl (fun h3 => ?_) (fun h3 => ?_)
    ·try simp only [tst_] at h3
     refine GC.seq' ?_
     refine GC.region ?_
     refine GL.pure rfl (p_build ze_30 of_30 rfl rfl) ?_
     refine GL.pure rfl (p_assign rfl) ?_
     refine GL.step rfl (t_storeN (i := 2) rfl rfl rfl sz_30 rfl rfl rfl) ?_
     refine GL.pure rfl (p_assign rfl) ?_
     refine GL.nil (?_ : GC _ _ _ _)
     refine GC.know (q := Pers.row Kd.u8 none []) (fun _ _ _ => .inl rfl) ?_
     refine GC.ret ?_
     refine fun a w h => Fin.back (rs := [.tmp 6, .cell 7 30, .tmp 8]) (vs := [_, _, _]) (is := [1, 2]) (js := [0]) rfl ⟨rfl, ⟨2, _, _, _, _, rfl, rfl, .inr ⟨[_, _], rfl, ag_30, sz_30, ⟨rfl, rfl, trivial⟩⟩⟩, rfl, trivial⟩ rfl rfl ?_ h
     clear h
     have e : askF T cl se = (4, rz, 0) := by simp [askF, *]
     rw [e]; exact ⟨none, 0, by simp [rz], by simp, rfl, rfl, rfl⟩
    ·try simp only [tst_] at h3
     refine GC.seq' ?_
     refine GC.region ?_
     refine GL.pure rfl (p_move rfl) ?_
     refine GL.pure rfl (p_not rfl) ?_
     refine GL.pure rfl (p_move rfl) ?_
     refine GL.pass (s := 48) rfl rfl rfl ?_
     refine GL.pass (s := 48) rfl rfl rfl ?_
     refine GL.pass (s := 48) rfl rfl rfl ?_
     refine GL.pass (s := 48) rfl rfl rfl ?_
     refine GL.pure rfl (p_pick_true rfl rfl) ?_
     refine GL.pure rfl (p_assign rfl) ?_
     refine GL.nil (?_ : GC _ _ _ _)
     refine GC.cond_true rfl ?_
     refine GC.seq' ?_
     refine GC.region ?_
     refine GL.pure rfl (p_build ze_30 of_30 rfl rfl) ?_
     refine GL.pure rfl (p_assign rfl) ?_
     refine GL.step rfl (t_storeN (i := 2) rfl rfl rfl sz_30 rfl rfl rfl) ?_
     refine GL.pure rfl (p_assign rfl) ?_
     refine GL.nil (?_ : GC _ _ _ _)
     refine GC.know (q := Pers.row Kd.u8 none []) (fun _ _ _ => .inl rfl) ?_
     refine GC.ret ?_
     refine fun a w h => Fin.back (rs := [.tmp 6, .cell 7 30, .tmp 8]) (vs := [_, _, _]) (is := [1, 2]) (js := [0]) rfl ⟨rfl, ⟨2, _, _, _, _, rfl, rfl, .inr ⟨[_, _], rfl, ag_30, sz_30, ⟨rfl, rfl, trivial⟩⟩⟩, rfl, trivial⟩ rfl rfl ?_ h
     clear h
     have e : askF T cl se = (1, rz, 0) := by simp [askF, *]
     rw [e]; exact ⟨none, 0, by simp [rz], by simp, rfl, rfl, rfl⟩
   ·rcases r_m30 with ⟨_, ⟨_, ⟨Am30_0, cpm30_0⟩⟩⟩
    refine GL.pure rfl (p_move rfl) ?_
    refine GL.pure rfl (p_extract rfl rfl) ?_
    refine GL.pure rfl (p_extract rfl rfl) ?_
    refine GL.step rfl (t_alloc rfl ze_229) (GL.ex fun b_t9 => ?_)
    refine GL.step rfl (t_storeN (i := 0) rfl rfl rfl sz_229 rfl rfl rfl) ?_
    refine GL.pure rfl (p_assign rfl) ?_
    refine GL.nil (?_ : GC _ _ _ _)
    refine GC.seq' ?_
    refine GC.block ?_
    refine GC.seq' ?_
    refine GC.region ?_
    refine GL.pure rfl (p_move rfl) ?_
    refine GL.pure rfl (p_not rfl) ?_
    refine GL.pure rfl (p_move rfl) ?_
    refine GL.pass (s := 36) rfl rfl rfl ?_
    refine GL.pass (s := 36) rfl rfl rfl ?_
    refine GL.pass (s := 36) rfl rfl rfl ?_
    refine GL.pass (s := 36) rfl rfl rfl ?_
    refine GL.pass (s := 36) rfl rfl rfl ?_
    refine GL.pass (s := 36) rfl rfl rfl ?_
    refine GL.pure rfl (p_pick_false rfl rfl) ?_
    refine GL.pure rfl (p_assign rfl) ?_
    refine GL.nil (?_ : GC _ _ _ _)
    refine GC.cond_false rfl ?_
    refine GC.seq' ?_
    refine GC.region ?_
    refine GL.pure rfl (p_move rfl) ?_
    refine GL.pure rfl (p_not rfl) ?_
    refine GL.pure rfl (p_move rfl) ?_
    refine GL.pureG (s := 48) rfl rfl rfl (p_move rfl) ?_
    refine GL.pureG (s := 48) rfl rfl rfl (p_fieldAddr fo_229_0 rfl) ?_
    refine GL.stepG rfl (s := 48) rfl rfl (t_mem rfl (m_load (i := 0) rfl rfl ag_3 rfl)) ?_
    refine GL.pureG (s := 48) rfl rfl rfl (p_gtr rfl rfl) ?_
    refine GL.pure rfl (p_pick_false rfl rfl) ?_
    refine GL.pure rfl (p_assign rfl) ?_
    refine GL.nil (?_ : GC _ _ _ _)
    refine GC.cond rfl (fun h4 => ?_) (fun h4 => ?_)
    ·try simp only [tst_] at h4
     refine GC.seq' ?_
     refine GC.region ?_
     refine GL.pure rfl (p_build ze_30 of_30 rfl rfl) ?_
     refine GL.pure rfl (p_assign rfl) ?_
     refine GL.step rfl (t_storeN (i := 2) rfl rfl rfl sz_30 rfl rfl rfl) ?_
     refine GL.pure rfl (p_assign rfl) ?_
     refine GL.nil (?_ : GC _ _ _ _)
     refine GC.know (q := Pers.row Kd.u8 none []) (fun _ _ _ => .inl rfl) ?_
     refine GC.ret ?_
     refine fun a w h => Fin.back (rs := [.tmp 6, .cell 7 30, .tmp 8]) (vs := [_, _, _]) (is := [1, 2]) (js := [0]) rfl ⟨rfl, ⟨2, _, _, _, _, rfl, rfl, .inr ⟨[_, _], rfl, ag_30, sz_30, ⟨rfl, rfl, trivial⟩⟩⟩, rfl, trivial⟩ rfl rfl ?_ h
     clear h
     have e : askF T cl se = (1, rz, 0) := by simp [askF, *]
     rw [e]; exact ⟨none, 0, by simp [rz], by simp, rfl, rfl, rfl⟩
    ·try simp only [tst_] at h4
     refine GC.seq' ?_
     refine GC.region ?_
     refine GL.pure rfl (p_move rfl) ?_
     refine GL.pure rfl (p_fieldAddr fo_229_0 rfl) ?_
     refine GL.step rfl (t_mem rfl (m_load (i := 0) rfl rfl ag_3 rfl)) ?_
     refine GL.pure rfl (p_lss rfl rfl) ?_
     refine GL.pure rfl (p_assign rfl) ?_
     refine GL.nil (?_ : GC _ _ _ _)
     refine GC.cond rfl (fun h5 => ?_) (fun h5 => ?_)
     ·try simp only [tst_] at h5
      refine GC.seq' ?_
      refine GC.region ?_
      refine GL.pure rfl (p_build ze_30 of_30 rfl rfl) ?_
      refine GL.pure rfl (p_assign rfl) ?_
      refine GL.step rfl (t_storeN (i := 2) rfl rfl rfl sz_30 rfl rfl rfl) ?_
      refine GL.pure rfl (p_assign rfl) ?_
      refine GL.nil (?_ : GC _ _ _ _)
      refine GC.know (q := Pers.row Kd.u8 none []) (fun _ _ _ => .inl rfl) ?_
      refine GC.ret ?_
      refine fun a w h => Fin.back (rs := [.tmp 6, .cell 7 30, .tmp 8]) (vs := [_, _, _]) (is := [1, 2]) (js := [0]) rfl ⟨rfl, ⟨2, _, _, _, _, rfl, rfl, .inr ⟨[_, _], rfl, ag_30, sz_30, ⟨rfl, rfl, trivial⟩⟩⟩, rfl, trivial⟩ rfl rfl ?_ h
      clear h
      have e : askF T cl se = (3, rz, 0) := by simp [askF, *]
      rw [e]; exact ⟨none, 0, by simp [rz], by simp, rfl, rfl, rfl⟩
     ·try simp only [tst_] at h5
      refine GC.skip (?_ : GC _ _ _ _)
      refine GC.seq' ?_
      refine GC.region ?_
      refine GL.pure rfl (p_fieldAddr fo_229_1 rfl) ?_
      refine GL.step rfl (t_mem rfl (m_loadN (i := 0) rfl rfl ag_30 (vs := [_, _]) sz_30 ⟨rfl, rfl, trivial⟩)) ?_
      have hlen := hT _ _ s_m30
      refine GL.step rfl (t_call rfl fn_178 rfl (is := []) (js := [0]) rfl rfl (by exact own_ct _ _ _ _ (by first | omega | exact Nat.le_trans hlen (by decide)))) (GL.ret ?_)
      rintro _ _ _ ⟨A63, cp63, l63, k63, rfl, rfl, rfl⟩
      refine GL.pure rfl (p_assign rfl) ?_
      refine GL.step rfl (t_storeN (i := 3) rfl rfl rfl sz_30 rfl rfl rfl) ?_
      refine GL.freezeB (i := 0) rfl ?_
      refine GL.pure rfl (p_assign rfl) ?_
      refine GL.nil (?_ : GC _ _ _ _)
      refine GC.ret ?_
      refine fun a w h => Fin.back (rs := [.tmp 6, .cell 7 30, .tmp 8]) (vs := [_, _, _]) (is := [1, 2]) (js := [0]) rfl ⟨rfl, ⟨2, _, _, _, _, rfl, rfl, .inr ⟨[_, _], rfl, ag_30, sz_30, ⟨rfl, rfl, trivial⟩⟩⟩, rfl, trivial⟩ rfl rfl ?_ h
      clear h
      have e : askF T cl se = (2, u_m30.result, 0) := by simp [askF, *]; rw [if_neg (by omega), if_neg (by omega)]
      rw [e]; exact ⟨_, _, l63, k63, rfl, rfl, rfl⟩
def resOk (code : Int) (n : Nat) : Bool := (decide (code = 1 ∨ code = 4) && decide (n ≤ 262144)) || (decide (code = 2 ∨ code = 3) && decide (n = 0))
theorem bres_ct (code : Int) (A : Option Addr) (n cp : Nat) : Ct Tryz.prog 61 [.agg #[.int .u8 code, .slice A n cp]] [] [] (fun v G Q => v = .int .i64 (if resOk code n then 0 else 42) ∧ G = [] ∧ Q = []) := by
 refine Ct.intro Tryz.func61 rfl rfl rfl (fun c hc => ?_)
 refine GC.seq' ?_
 refine GC.region ?_
 refine GL.step rfl (t_box rfl rfl rfl) (GL.ex fun b_t1 => ?_)
 refine GL.pure rfl (p_assign rfl) ?_
 refine GL.nil (?_ : GC _ _ _ _)
 refine GC.seq' ?_
 refine GC.region ?_
 refine GL.pure rfl (p_assign rfl) ?_
 refine GL.nil (?_ : GC _ _ _ _)
 refine GC.seq' ?_
 refine GC.seq' ?_
 refine GC.region ?_
 refine GL.pure rfl (p_fieldAddr fo_30_0 rfl) ?_
 refine GL.step rfl (t_mem rfl (m_load (i := 0) rfl rfl ag_28 rfl)) ?_
 refine GL.nil (?_ : GC _ _ _ _)
 refine GC.block ?_
 refine GC.seq' ?_
 refine GC.seq' ?_
 refine GC.region ?_
 refine GL.pure rfl (p_eql rfl rfl) ?_
 refine GL.pure rfl (p_assign rfl) ?_
 refine GL.nil (?_ : GC _ _ _ _)
 refine GC.cond rfl (fun h1 => ?_) (fun h1 => ?_)
 ·try simp only [tst_] at h1
  refine GC.skip (?_ : GC _ _ _ _)
  refine GC.cond rfl (fun h2 => ?_) (fun h2 => ?_)
  ·try simp only [tst_] at h2
   refine GC.region ?_
   refine GL.pure rfl (p_fieldAddr fo_30_1 rfl) ?_
   refine GL.step rfl (t_mem rfl (m_load (i := 0) rfl rfl ag_25 rfl)) ?_
   refine GL.pure rfl (p_len Tryz.underlying25 rfl) ?_
   refine GL.pure rfl (p_leq rfl rfl) ?_
   refine GL.pure rfl (p_assign rfl) ?_
   refine GL.nil (?_ : GC _ _ _ _)
   refine GC.seq' ?_
   refine GC.seq' ?_
   refine GC.region ?_
   refine GL.pure rfl (p_move rfl) ?_
   refine GL.pure rfl (p_not rfl) ?_
   refine GL.nil (?_ : GC _ _ _ _)
   refine GC.cond rfl (fun h3 => ?_) (fun h3 => ?_)
   ·try simp only [tst_] at h3
    refine GC.seq' ?_
    refine GC.region ?_
    refine GL.pure rfl (p_assign rfl) ?_
    refine GL.nil (?_ : GC _ _ _ _)
    refine GC.ret ?_
    refine fun a w h => Fin.back (rs := [.tmp 2]) (vs := [_]) (is := []) (js := []) rfl ⟨rfl, trivial⟩ rfl rfl ?_ h
    clear h
    refine ⟨congrArg (Value.int .i64) ?_, rfl, rfl⟩; first | (exfalso; omega) | (simp [resOk, *]; done) | (simp [resOk, *]; omega)
   ·try simp only [tst_] at h3
    refine GC.skip (?_ : GC _ _ _ _)
    refine GC.seq' ?_
    refine GC.region ?_
    refine GL.pure rfl (p_assign rfl) ?_
    refine GL.nil (?_ : GC _ _ _ _)
    refine GC.ret ?_
    refine fun a w h => Fin.back (rs := [.tmp 2]) (vs := [_]) (is := []) (js := []) rfl ⟨rfl, trivial⟩ rfl rfl ?_ h
    clear h
    refine ⟨congrArg (Value.int .i64) ?_, rfl, rfl⟩; first | (exfalso; omega) | (simp [resOk, *]; done) | (simp [resOk, *]; omega)
  ·try simp only [tst_] at h2
   refine GC.seq' ?_
   refine GC.seq' ?_
   refine GC.region ?_
   refine GL.pure rfl (p_eql rfl rfl) ?_
   refine GL.pure rfl (p_assign rfl) ?_
   refine GL.nil (?_ : GC _ _ _ _)
   refine GC.cond rfl (fun h4 => ?_) (fun h4 => ?_)
   ·try simp only [tst_] at h4
    refine GC.skip (?_ : GC _ _ _ _)
    refine GC.cond rfl (fun h5 => ?_) (fun h5 => ?_)
    ·try simp only [tst_] at h5
     refine GC.region ?_
     refine GL.pure rfl (p_fieldAddr fo_30_1 rfl) ?_
     refine GL.step rfl (t_mem rfl (m_load (i := 0) rfl rfl ag_25 rfl)) ?_
     refine GL.pure rfl (p_len Tryz.underlying25 rfl) ?_
     refine GL.pure rfl (p_eql rfl rfl) ?_
     refine GL.pure rfl (p_assign rfl) ?_
     refine GL.nil (?_ : GC _ _ _ _)
     refine GC.seq' ?_
     refine GC.seq' ?_
     refine GC.region ?_
     refine GL.pure rfl (p_move rfl) ?_
     refine GL.pure rfl (p_not rfl) ?_
     refine GL.nil (?_ : GC _ _ _ _)
     refine GC.cond rfl (fun h6 => ?_) (fun h6 => ?_)
     ·try simp only [tst_] at h6
      refine GC.seq' ?_
      refine GC.region ?_
      refine GL.pure rfl (p_assign rfl) ?_
      refine GL.nil (?_ : GC _ _ _ _)
      refine GC.ret ?_
      refine fun a w h => Fin.back (rs := [.tmp 2]) (vs := [_]) (is := []) (js := []) rfl ⟨rfl, trivial⟩ rfl rfl ?_ h
      clear h
      refine ⟨congrArg (Value.int .i64) ?_, rfl, rfl⟩; first | (exfalso; omega) | (simp [resOk, *]; done) | (simp [resOk, *]; omega)
     ·try simp only [tst_] at h6
      refine GC.skip (?_ : GC _ _ _ _)
      refine GC.seq' ?_
      refine GC.region ?_
      refine GL.pure rfl (p_assign rfl) ?_
      refine GL.nil (?_ : GC _ _ _ _)
      refine GC.ret ?_
      refine fun a w h => Fin.back (rs := [.tmp 2]) (vs := [_]) (is := []) (js := []) rfl ⟨rfl, trivial⟩ rfl rfl ?_ h
      clear h
      refine ⟨congrArg (Value.int .i64) ?_, rfl, rfl⟩; first | (exfalso; omega) | (simp [resOk, *]; done) | (simp [resOk, *]; omega)
    ·try simp only [tst_] at h5
     refine GC.skip (?_ : GC _ _ _ _)
     refine GC.seq' ?_
     refine GC.seq' ?_
     refine GC.region ?_
     refine GL.pure rfl (p_move rfl) ?_
     refine GL.pure rfl (p_not rfl) ?_
     refine GL.nil (?_ : GC _ _ _ _)
     refine GC.cond_true rfl ?_
     refine GC.seq' ?_
     refine GC.region ?_
     refine GL.pure rfl (p_assign rfl) ?_
     refine GL.nil (?_ : GC _ _ _ _)
     refine GC.ret ?_
     refine fun a w h => Fin.back (rs := [.tmp 2]) (vs := [_]) (is := []) (js := []) rfl ⟨rfl, trivial⟩ rfl rfl ?_ h
     clear h
     refine ⟨congrArg (Value.int .i64) ?_, rfl, rfl⟩; first | (exfalso; omega) | (simp [resOk, *]; done) | (simp [resOk, *]; omega)
   ·try simp only [tst_] at h4
    refine GC.region ?_
    refine GL.pure rfl (p_eql rfl rfl) ?_
    refine GL.pure rfl (p_assign rfl) ?_
    refine GL.nil (?_ : GC _ _ _ _)
    refine GC.cond rfl (fun h7 => ?_) (fun h7 => ?_)
    ·try simp only [tst_] at h7
     refine GC.region ?_
     refine GL.pure rfl (p_fieldAddr fo_30_1 rfl) ?_
     refine GL.step rfl (t_mem rfl (m_load (i := 0) rfl rfl ag_25 rfl)) ?_
     refine GL.pure rfl (p_len Tryz.underlying25 rfl) ?_
     refine GL.pure rfl (p_eql rfl rfl) ?_
     refine GL.pure rfl (p_assign rfl) ?_
     refine GL.nil (?_ : GC _ _ _ _)
     refine GC.seq' ?_
     refine GC.seq' ?_
     refine GC.region ?_
     refine GL.pure rfl (p_move rfl) ?_
     refine GL.pure rfl (p_not rfl) ?_
     refine GL.nil (?_ : GC _ _ _ _)
     refine GC.cond rfl (fun h8 => ?_) (fun h8 => ?_)
     ·try simp only [tst_] at h8
      refine GC.seq' ?_
      refine GC.region ?_
      refine GL.pure rfl (p_assign rfl) ?_
      refine GL.nil (?_ : GC _ _ _ _)
      refine GC.ret ?_
      refine fun a w h => Fin.back (rs := [.tmp 2]) (vs := [_]) (is := []) (js := []) rfl ⟨rfl, trivial⟩ rfl rfl ?_ h
      clear h
      refine ⟨congrArg (Value.int .i64) ?_, rfl, rfl⟩; first | (exfalso; omega) | (simp [resOk, *]; done) | (simp [resOk, *]; omega)
     ·try simp only [tst_] at h8
      refine GC.skip (?_ : GC _ _ _ _)
      refine GC.seq' ?_
      refine GC.region ?_
      refine GL.pure rfl (p_assign rfl) ?_
      refine GL.nil (?_ : GC _ _ _ _)
      refine GC.ret ?_
      refine fun a w h => Fin.back (rs := [.tmp 2]) (vs := [_]) (is := []) (js := []) rfl ⟨rfl, trivial⟩ rfl rfl ?_ h
      clear h
      refine ⟨congrArg (Value.int .i64) ?_, rfl, rfl⟩; first | (exfalso; omega) | (simp [resOk, *]; done) | (simp [resOk, *]; omega)
    ·try simp only [tst_] at h7
     refine GC.skip (?_ : GC _ _ _ _)
     refine GC.seq' ?_
     refine GC.seq' ?_
     refine GC.region ?_
     refine GL.pure rfl (p_move rfl) ?_
     refine GL.pure rfl (p_not rfl) ?_
     refine GL.nil (?_ : GC _ _ _ _)
     refine GC.cond_true rfl ?_
     refine GC.seq' ?_
     refine GC.region ?_
     refine GL.pure rfl (p_assign rfl) ?_
     refine GL.nil (?_ : GC _ _ _ _)
     refine GC.ret ?_
     refine fun a w h => Fin.back (rs := [.tmp 2]) (vs := [_]) (is := []) (js := []) rfl ⟨rfl, trivial⟩ rfl rfl ?_ h
     clear h
     refine ⟨congrArg (Value.int .i64) ?_, rfl, rfl⟩; first | (exfalso; omega) | (simp [resOk, *]; done) | (simp [resOk, *]; omega)
 ·try simp only [tst_] at h1
  refine GC.region ?_
  refine GL.pure rfl (p_eql rfl rfl) ?_
  refine GL.pure rfl (p_assign rfl) ?_
  refine GL.nil (?_ : GC _ _ _ _)
  refine GC.cond rfl (fun h9 => ?_) (fun h9 => ?_)
  ·try simp only [tst_] at h9
   refine GC.region ?_
   refine GL.pure rfl (p_fieldAddr fo_30_1 rfl) ?_
   refine GL.step rfl (t_mem rfl (m_load (i := 0) rfl rfl ag_25 rfl)) ?_
   refine GL.pure rfl (p_len Tryz.underlying25 rfl) ?_
   refine GL.pure rfl (p_leq rfl rfl) ?_
   refine GL.pure rfl (p_assign rfl) ?_
   refine GL.nil (?_ : GC _ _ _ _)
   refine GC.seq' ?_
   refine GC.seq' ?_
   refine GC.region ?_
   refine GL.pure rfl (p_move rfl) ?_
   refine GL.pure rfl (p_not rfl) ?_
   refine GL.nil (?_ : GC _ _ _ _)
   refine GC.cond rfl (fun h10 => ?_) (fun h10 => ?_)
   ·try simp only [tst_] at h10
    refine GC.seq' ?_
    refine GC.region ?_
    refine GL.pure rfl (p_assign rfl) ?_
    refine GL.nil (?_ : GC _ _ _ _)
    refine GC.ret ?_
    refine fun a w h => Fin.back (rs := [.tmp 2]) (vs := [_]) (is := []) (js := []) rfl ⟨rfl, trivial⟩ rfl rfl ?_ h
    clear h
    refine ⟨congrArg (Value.int .i64) ?_, rfl, rfl⟩; first | (exfalso; omega) | (simp [resOk, *]; done) | (simp [resOk, *]; omega)
   ·try simp only [tst_] at h10
    refine GC.skip (?_ : GC _ _ _ _)
    refine GC.seq' ?_
    refine GC.region ?_
    refine GL.pure rfl (p_assign rfl) ?_
    refine GL.nil (?_ : GC _ _ _ _)
    refine GC.ret ?_
    refine fun a w h => Fin.back (rs := [.tmp 2]) (vs := [_]) (is := []) (js := []) rfl ⟨rfl, trivial⟩ rfl rfl ?_ h
    clear h
    refine ⟨congrArg (Value.int .i64) ?_, rfl, rfl⟩; first | (exfalso; omega) | (simp [resOk, *]; done) | (simp [resOk, *]; omega)
  ·try simp only [tst_] at h9
   refine GC.seq' ?_
   refine GC.seq' ?_
   refine GC.region ?_
   refine GL.pure rfl (p_eql rfl rfl) ?_
   refine GL.pure rfl (p_assign rfl) ?_
   refine GL.nil (?_ : GC _ _ _ _)
   refine GC.cond rfl (fun h11 => ?_) (fun h11 => ?_)
   ·try simp only [tst_] at h11
    refine GC.skip (?_ : GC _ _ _ _)
    refine GC.cond rfl (fun h12 => ?_) (fun h12 => ?_)
    ·try simp only [tst_] at h12
     refine GC.region ?_
     refine GL.pure rfl (p_fieldAddr fo_30_1 rfl) ?_
     refine GL.step rfl (t_mem rfl (m_load (i := 0) rfl rfl ag_25 rfl)) ?_
     refine GL.pure rfl (p_len Tryz.underlying25 rfl) ?_
     refine GL.pure rfl (p_eql rfl rfl) ?_
     refine GL.pure rfl (p_assign rfl) ?_
     refine GL.nil (?_ : GC _ _ _ _)
     refine GC.seq' ?_
     refine GC.seq' ?_
     refine GC.region ?_
     refine GL.pure rfl (p_move rfl) ?_
     refine GL.pure rfl (p_not rfl) ?_
     refine GL.nil (?_ : GC _ _ _ _)
     refine GC.cond rfl (fun h13 => ?_) (fun h13 => ?_)
     ·try simp only [tst_] at h13
      refine GC.seq' ?_
      refine GC.region ?_
      refine GL.pure rfl (p_assign rfl) ?_
      refine GL.nil (?_ : GC _ _ _ _)
      refine GC.ret ?_
      refine fun a w h => Fin.back (rs := [.tmp 2]) (vs := [_]) (is := []) (js := []) rfl ⟨rfl, trivial⟩ rfl rfl ?_ h
      clear h
      refine ⟨congrArg (Value.int .i64) ?_, rfl, rfl⟩; first | (exfalso; omega) | (simp [resOk, *]; done) | (simp [resOk, *]; omega)
     ·try simp only [tst_] at h13
      refine GC.skip (?_ : GC _ _ _ _)
      refine GC.seq' ?_
      refine GC.region ?_
      refine GL.pure rfl (p_assign rfl) ?_
      refine GL.nil (?_ : GC _ _ _ _)
      refine GC.ret ?_
      refine fun a w h => Fin.back (rs := [.tmp 2]) (vs := [_]) (is := []) (js := []) rfl ⟨rfl, trivial⟩ rfl rfl ?_ h
      clear h
      refine ⟨congrArg (Value.int .i64) ?_, rfl, rfl⟩; first | (exfalso; omega) | (simp [resOk, *]; done) | (simp [resOk, *]; omega)
    ·try simp only [tst_] at h12
     refine GC.skip (?_ : GC _ _ _ _)
     refine GC.seq' ?_
     refine GC.seq' ?_
     refine GC.region ?_
     refine GL.pure rfl (p_move rfl) ?_
     refine GL.pure rfl (p_not rfl) ?_
     refine GL.nil (?_ : GC _ _ _ _)
     refine GC.cond_true rfl ?_
     refine GC.seq' ?_
     refine GC.region ?_
     refine GL.pure rfl (p_assign rfl) ?_
     refine GL.nil (?_ : GC _ _ _ _)
     refine GC.ret ?_
     refine fun a w h => Fin.back (rs := [.tmp 2]) (vs := [_]) (is := []) (js := []) rfl ⟨rfl, trivial⟩ rfl rfl ?_ h
     clear h
     refine ⟨congrArg (Value.int .i64) ?_, rfl, rfl⟩; first | (exfalso; omega) | (simp [resOk, *]; done) | (simp [resOk, *]; omega)
   ·try simp only [tst_] at h11
    refine GC.region ?_
    refine GL.pure rfl (p_eql rfl rfl) ?_
    refine GL.pure rfl (p_assign rfl) ?_
    refine GL.nil (?_ : GC _ _ _ _)
    refine GC.cond rfl (fun h14 => ?_) (fun h14 => ?_)
    ·try simp only [tst_] at h14
     refine GC.region ?_
     refine GL.pure rfl (p_fieldAddr fo_30_1 rfl) ?_
     refine GL.step rfl (t_mem rfl (m_load (i := 0) rfl rfl ag_25 rfl)) ?_
     refine GL.pure rfl (p_len Tryz.underlying25 rfl) ?_
     refine GL.pure rfl (p_eql rfl rfl) ?_
     refine GL.pure rfl (p_assign rfl) ?_
     refine GL.nil (?_ : GC _ _ _ _)
     refine GC.seq' ?_
     refine GC.seq' ?_
     refine GC.region ?_
     refine GL.pure rfl (p_move rfl) ?_
     refine GL.pure rfl (p_not rfl) ?_
     refine GL.nil (?_ : GC _ _ _ _)
     refine GC.cond rfl (fun h15 => ?_) (fun h15 => ?_)
     ·try simp only [tst_] at h15
      refine GC.seq' ?_
      refine GC.region ?_
      refine GL.pure rfl (p_assign rfl) ?_
      refine GL.nil (?_ : GC _ _ _ _)
      refine GC.ret ?_
      refine fun a w h => Fin.back (rs := [.tmp 2]) (vs := [_]) (is := []) (js := []) rfl ⟨rfl, trivial⟩ rfl rfl ?_ h
      clear h
      refine ⟨congrArg (Value.int .i64) ?_, rfl, rfl⟩; first | (exfalso; omega) | (simp [resOk, *]; done) | (simp [resOk, *]; omega)
     ·try simp only [tst_] at h15
      refine GC.skip (?_ : GC _ _ _ _)
      refine GC.seq' ?_
      refine GC.region ?_
      refine GL.pure rfl (p_assign rfl) ?_
      refine GL.nil (?_ : GC _ _ _ _)
      refine GC.ret ?_
      refine fun a w h => Fin.back (rs := [.tmp 2]) (vs := [_]) (is := []) (js := []) rfl ⟨rfl, trivial⟩ rfl rfl ?_ h
      clear h
      refine ⟨congrArg (Value.int .i64) ?_, rfl, rfl⟩; first | (exfalso; omega) | (simp [resOk, *]; done) | (simp [resOk, *]; omega)
    ·try simp only [tst_] at h14
     refine GC.skip (?_ : GC _ _ _ _)
     refine GC.seq' ?_
     refine GC.seq' ?_
     refine GC.region ?_
     refine GL.pure rfl (p_move rfl) ?_
     refine GL.pure rfl (p_not rfl) ?_
     refine GL.nil (?_ : GC _ _ _ _)
     refine GC.cond_true rfl ?_
     refine GC.seq' ?_
     refine GC.region ?_
     refine GL.pure rfl (p_assign rfl) ?_
     refine GL.nil (?_ : GC _ _ _ _)
     refine GC.ret ?_
     refine fun a w h => Fin.back (rs := [.tmp 2]) (vs := [_]) (is := []) (js := []) rfl ⟨rfl, trivial⟩ rfl rfl ?_ h
     clear h
     refine ⟨congrArg (Value.int .i64) ?_, rfl, rfl⟩; first | (exfalso; omega) | (simp [resOk, *]; done) | (simp [resOk, *]; omega)
theorem resE_iff (b : Bool) : ((if b = true then (0 : Int) else 42) = 0) = (b = true) := by cases b <;> simp
def tputF (T : List (Int × Last)) (c s : Int) (r : Res) : Int × List (Int × Last) :=
  if (askF T c s).2.2 ≠ 0 then ((askF T c s).2.2, T)
  else if resOk r.code r.data.length = false then (60, T)
  else if (askF T c s).1 = 4 then (3, T)
  else if (askF T c s).1 ≠ 1 then (1, T)
  else (0, mput T c ⟨s, r⟩)
theorem resOk_len {c : Int} {n : Nat} (h : resOk c n = true) : n ≤ 262144 := by
  simp [resOk] at h; omega
theorem put_ct (p m : Nat) (es : Array MapEntry) (ck : Nat) (T : List (Int × Last)) (cl se : Int) (r : Res) (A : Option Addr) (cp : Nat) (hT : TabOk T) :
    Ct Tryz.prog 165 [.pointer (some ⟨p, 0, none⟩), .int .i64 cl, .int .i64 se, .agg #[.int .u8 r.code, .slice A r.data.length cp]] (tabG p m es ck) [Pers.map kLast true T es ck, Pers.row Kd.u8 A r.data]
      (fun v G Q => ∃ es' ck', v = .int .i64 (tputF T cl se r).1 ∧ G = tabG p m es' ck' ∧ Q = [Pers.map kLast true (tputF T cl se r).2 es' ck']) := by
 refine Ct.intro Tryz.func165 rfl rfl rfl (fun c hc => ?_)
 refine GC.seq' ?_
 refine GC.region ?_
 refine GL.step rfl (t_box rfl rfl rfl) (GL.ex fun b_t7 => ?_)
 refine GL.pure rfl (p_assign rfl) ?_
 refine GL.nil (?_ : GC _ _ _ _)
 refine GC.seq' ?_
 refine GC.region ?_
 refine GL.pure rfl (p_move rfl) ?_
 refine GL.pure rfl (p_move rfl) ?_
 refine GL.pure rfl (p_move rfl) ?_
 refine GL.step rfl (t_call rfl fn_177 rfl (is := [1, 1]) (js := [0]) rfl rfl (by exact ask_ct _ _ _ _ _ _ _ hT)) (GL.ret ?_)
 rintro _ _ _ ⟨A16, cp16, l16, m16, rfl, rfl, rfl⟩
 refine GL.pure rfl (p_move rfl) ?_
 refine GL.pure rfl (p_extract rfl rfl) ?_
 refine GL.pure rfl (p_extract rfl rfl) ?_
 refine GL.pure rfl (p_extract rfl rfl) ?_
 refine GL.step rfl (t_alloc rfl ze_30) (GL.ex fun b_t10 => ?_)
 refine GL.pure rfl (p_assign rfl) ?_
 refine GL.step rfl (t_storeN (i := 0) rfl rfl rfl sz_30 rfl rfl rfl) ?_
 refine GL.pure rfl (p_assign rfl) ?_
 refine GL.nil (?_ : GC _ _ _ _)
 refine GC.seq' ?_
 refine GC.block ?_
 refine GC.seq' ?_
 refine GC.region ?_
 refine GL.pure rfl (p_move rfl) ?_
 refine GL.pure rfl (p_neq rfl rfl) ?_
 refine GL.pure rfl (p_assign rfl) ?_
 refine GL.nil (?_ : GC _ _ _ _)
 refine GC.cond rfl (fun h1 => ?_) (fun h1 => ?_)
 ·try simp only [tst_, resE_iff] at h1
  refine GC.seq' ?_
  refine GC.region ?_
  refine GL.pure rfl (p_move rfl) ?_
  refine GL.pure rfl (p_assign rfl) ?_
  refine GL.nil (?_ : GC _ _ _ _)
  refine GC.ret ?_
  refine fun a w h => Fin.back (rs := [.tmp 8]) (vs := [_]) (is := [1, 1]) (js := [1]) rfl ⟨rfl, trivial⟩ rfl rfl ?_ h
  clear h
  refine ⟨es, ck, congrArg (Value.int .i64) ?_, rfl, ?_⟩ <;> simp [tputF, *]
 ·try simp only [tst_, resE_iff] at h1
  refine GC.seq' ?_
  refine GC.region ?_
  refine GL.step rfl (t_mem rfl (m_loadN (i := 3) rfl rfl ag_30 (vs := [_, _]) sz_30 ⟨rfl, rfl, trivial⟩)) ?_
  refine GL.step rfl (t_call rfl fn_61 rfl (is := []) (js := []) rfl rfl (by exact bres_ct _ _ _ _)) (GL.ret ?_)
  rintro _ _ _ ⟨rfl, rfl, rfl⟩
  refine GL.pure rfl (p_neq rfl rfl) ?_
  refine GL.pure rfl (p_assign rfl) ?_
  refine GL.nil (?_ : GC _ _ _ _)
  refine GC.cond rfl (fun h2 => ?_) (fun h2 => ?_)
  ·try simp only [tst_, resE_iff] at h2
   refine GC.seq' ?_
   refine GC.region ?_
   refine GL.pure rfl (p_assign rfl) ?_
   refine GL.nil (?_ : GC _ _ _ _)
   refine GC.ret ?_
   refine fun a w h => Fin.back (rs := [.tmp 8]) (vs := [_]) (is := [1, 1]) (js := [1]) rfl ⟨rfl, trivial⟩ rfl rfl ?_ h
   clear h
   refine ⟨es, ck, congrArg (Value.int .i64) ?_, rfl, ?_⟩ <;> simp [tputF, *]
  ·try simp only [tst_, resE_iff] at h2
   refine GC.seq' ?_
   refine GC.region ?_
   refine GL.pure rfl (p_move rfl) ?_
   refine GL.pure rfl (p_eql rfl rfl) ?_
   refine GL.pure rfl (p_assign rfl) ?_
   refine GL.nil (?_ : GC _ _ _ _)
   refine GC.cond rfl (fun h3 => ?_) (fun h3 => ?_)
   ·try simp only [tst_, resE_iff] at h3
    refine GC.seq' ?_
    refine GC.region ?_
    refine GL.pure rfl (p_assign rfl) ?_
    refine GL.nil (?_ : GC _ _ _ _)
    refine GC.ret ?_
    refine fun a w h => Fin.back (rs := [.tmp 8]) (vs := [_]) (is := [1, 1]) (js := [1]) rfl ⟨rfl, trivial⟩ rfl rfl ?_ h
    clear h
    refine ⟨es, ck, congrArg (Value.int .i64) ?_, rfl, ?_⟩ <;> simp [tputF, *]
   ·try simp only [tst_, resE_iff] at h3
    refine GC.seq' ?_
    refine GC.region ?_
    refine GL.pure rfl (p_move rfl) ?_
    refine GL.pure rfl (p_neq rfl rfl) ?_
    refine GL.pure rfl (p_assign rfl) ?_
    refine GL.nil (?_ : GC _ _ _ _)
    refine GC.cond rfl (fun h4 => ?_) (fun h4 => ?_)
    ·try simp only [tst_, resE_iff] at h4
     refine GC.seq' ?_
     refine GC.region ?_
     refine GL.pure rfl (p_assign rfl) ?_
     refine GL.nil (?_ : GC _ _ _ _)
     refine GC.ret ?_
     refine fun a w h => Fin.back (rs := [.tmp 8]) (vs := [_]) (is := [1, 1]) (js := [1]) rfl ⟨rfl, trivial⟩ rfl rfl ?_ h
     clear h
     refine ⟨es, ck, congrArg (Value.int .i64) ?_, rfl, ?_⟩ <;> simp [tputF, *]
    ·try simp only [tst_, resE_iff] at h4
     refine GC.skip (?_ : GC _ _ _ _)
     refine GC.seq' ?_
     refine GC.regionM (m := 10) (M := fun a w => ∃ es2 : Array MapEntry, ∃ ck2 : Nat, St c 43 [] [.cells p [.map (some m)] 223, .blk m (.map es2 ck2)] [Pers.map kLast true (mput T cl ⟨se, r⟩) es2 ck2] a w) (is := [0, 0, 1]) (js := [0, 1, 2]) wide_ rfl rfl rfl ?_ ?_
     ·refine GA.take 0 rfl (by kernel_rfl) (by kernel_rfl) (by kernel_rfl) rfl (fun a w h => h.mem (is := [0, 0, 1]) (js := [0, 1, 2]) rfl rfl) (i_pure (p_move rfl)) ?_
      refine GA.take 1 rfl (by kernel_rfl) (by kernel_rfl) (by kernel_rfl) rfl (fun a w h => h.mem (is := [0, 0, 1]) (js := [0, 1, 2]) rfl rfl) (i_pure (p_nilCheck rfl)) ?_
      refine GA.take 2 rfl (by kernel_rfl) (by kernel_rfl) (by kernel_rfl) rfl (fun a w h => h.mem (is := [0, 0, 1]) (js := [0, 1, 2]) rfl rfl) (i_pure (p_fieldAddr fo_223_0 rfl)) ?_
      refine GA.take 3 rfl (by kernel_rfl) (by kernel_rfl) (by kernel_rfl) rfl (fun a w h => h.mem (is := [0, 0, 1]) (js := [0, 1, 2]) rfl rfl) (i_mem (m_load (i := 1) rfl rfl ag_221 rfl)) ?_
      refine GA.take 4 rfl (by kernel_rfl) (by kernel_rfl) (by kernel_rfl) rfl (fun a w h => h.mem (is := [0, 0, 1]) (js := [0, 1, 2]) rfl rfl) (i_pure (p_move rfl)) ?_
      refine GA.take 5 rfl (by kernel_rfl) (by kernel_rfl) (by kernel_rfl) rfl (fun a w h => h.mem (is := [0, 0, 1]) (js := [0, 1, 2]) rfl rfl) (i_pure (p_move rfl)) ?_
      refine GA.take 6 rfl (by kernel_rfl) (by kernel_rfl) (by kernel_rfl) rfl (fun a w h => h.mem (is := [0, 0, 1]) (js := [0, 1, 2]) rfl rfl) (i_mem (m_loadN (i := 2) rfl rfl ag_30 (vs := [_, _]) sz_30 ⟨rfl, rfl, trivial⟩)) ?_
      have hlen : r.data.length ≤ 262144 := resOk_len h2
      refine GA.all (rs := [7]) (by kernel_rfl) (by simp) ?_
      refine GAs.cons (i := 7) rfl rfl (t_call rfl fn_178 rfl (is := []) (js := [2]) rfl rfl (by exact own_ct _ _ _ _ (by first | omega | exact Nat.le_trans hlen (by decide)))) (by rintro a w ⟨_, _, _, ⟨A41, cp41, l41, k41, rfl, rfl, rfl⟩, h⟩; exact h.mem (is := [1, 1, 2]) (js := [0, 1, 2]) rfl rfl) (GA.ret ?_) ?_
      ·rintro _ _ _ ⟨A41, cp41, l41, k41, rfl, rfl, rfl⟩
       refine GA.take 8 rfl (by kernel_rfl) (by kernel_rfl) (by kernel_rfl) rfl (fun a w h => h.mem (is := [1, 1, 2]) (js := [0, 1, 2]) rfl rfl) (i_pure (p_build ze_229 of_229 rfl rfl)) ?_
       refine GA.freezeB (i := 0) rfl ?_
       refine GA.all (rs := [9]) (by kernel_rfl) (by simp) ?_
       refine GAs.cons (i := 9) rfl rfl (t_mapUpdate (i := 2) (j := 2) (u := (⟨se, r⟩ : Last)) (r := ((), ((), (A41, cp41)))) (js := [0]) rfl rfl rfl rfl rfl ⟨trivial, trivial, l41, k41⟩ rfl Tryz.underlying221 Tryz.underlying3 (fun _ _ => rfl)) (by rintro a w ⟨_, _, h⟩; exact h.mem (is := [0, 0, 1]) (js := [2, 3, 4]) rfl rfl) (GA.ex fun es_mu10 => GA.ex fun ck_mu10 => ?_) ?_
       ·exact GA.done (by kernel_rfl) (fun a w h => ⟨_, _, h.cut (is := [1, 1]) (js := [0]) trivial rfl rfl⟩)
       exact GAs.nil
      exact GAs.nil
     ·refine (?_ : GC _ _ _ _)
      refine GC.ex fun es2 => GC.ex fun ck2 => ?_
      refine GC.seq' ?_
      refine GC.region ?_
      refine GL.pure rfl (p_assign rfl) ?_
      refine GL.nil (?_ : GC _ _ _ _)
      refine GC.ret ?_
      refine fun a w h => Fin.back (rs := [.tmp 8]) (vs := [_]) (is := [0, 0]) (js := [0]) rfl ⟨rfl, trivial⟩ rfl rfl ?_ h
      clear h
      refine ⟨es2, ck2, congrArg (Value.int .i64) ?_, rfl, ?_⟩ <;> simp [tputF, *]
theorem TabOk.put {T : List (Int × Last)} (h : TabOk T) (cl se : Int) (r : Res) : TabOk (tputF T cl se r).2 := by
  unfold tputF
  split
  · exact h
  · split
    · exact h
    · rename_i hr
      split
      · exact h
      · split
        · exact h
        · intro k l hl
          by_cases hk : k = cl
          · subst hk
            rw [mget_mput_same] at hl
            simp only [Option.some.injEq] at hl
            subst hl
            exact resOk_len (by simpa using hr)
          · rw [mget_mput_other _ _ hk] at hl
            exact h k l hl
theorem tnew_ct : Ct Tryz.prog 164 [] [] [] (fun v G Q => ∃ p m, v = .pointer (some ⟨p, 0, none⟩) ∧ G = tabG p m #[] 0 ∧ Q = [Pers.map kLast true [] #[] 0]) := by
 refine Ct.intro Tryz.func164 rfl rfl rfl (fun c hc => ?_)
 refine GC.seq' ?_
 refine GC.region ?_
 refine GL.pure rfl (p_assign rfl) ?_
 refine GL.nil (?_ : GC _ _ _ _)
 refine GC.seq' ?_
 refine GC.region ?_
 refine GL.step rfl (t_makeMap rfl) (GL.ex fun m_t1 => ?_)
 refine GL.pure rfl (p_build ze_223 of_223 rfl rfl) ?_
 refine GL.step rfl (t_box rfl rfl rfl) (GL.ex fun b_t3 => ?_)
 refine GL.pure rfl (p_assign rfl) ?_
 refine GL.nil (?_ : GC _ _ _ _)
 refine GC.know (q := Pers.map kLast true [] #[] 0) (fun _ _ _ => ⟨trivial, Stamped.nil⟩) ?_
 refine GC.ret ?_
 refine fun a w h => Fin.back (rs := [.tmp 0]) (vs := [_]) (is := [0, 0]) (js := [0]) rfl ⟨rfl, trivial⟩ rfl rfl ?_ h
 clear h
 exact ⟨_, _, rfl, rfl, rfl⟩
theorem put_eq (p m : Nat) (es : Array MapEntry) (ck : Nat) (T : List (Int × Last)) (cl se : Int) (r : Res) (A : Option Addr) (cp : Nat) (hT : TabOk T) (e : Int) (T' : List (Int × Last)) (he : tputF T cl se r = (e, T')) :
    Ct Tryz.prog 165 [.pointer (some ⟨p, 0, none⟩), .int .i64 cl, .int .i64 se, .agg #[.int .u8 r.code, .slice A r.data.length cp]] (tabG p m es ck) [Pers.map kLast true T es ck, Pers.row Kd.u8 A r.data]
      (fun v G Q => ∃ es' ck', v = .int .i64 e ∧ G = tabG p m es' ck' ∧ Q = [Pers.map kLast true T' es' ck']) := by
  have := put_ct p m es ck T cl se r A cp hT
  rw [he] at this
  exact this
theorem TabOk.nil : TabOk [] := fun k l h => by simp [mget] at h
theorem TabOk.one (c s : Int) (r : Res) (h : r.data.length ≤ 262144) : TabOk [(c, ⟨s, r⟩)] := fun k l hl => by
  simp only [mget] at hl
  split at hl
  · simp at hl; subst hl; exact h
  · cases hl
end Go.Proofs.YtdhdmbmknpjhbaaGreat
namespace Go.Proofs.YtdhdmbmknpjhbaaGreat
open Go Go.Sx Go.Proofs
theorem rnum_ct (n : Int) : Ct Tryz.prog 114 [.int .i64 n] [] [] (fun v G Q => v = .bool (isNum n) ∧ G = [] ∧ Q = []) := by
 refine Ct.intro Tryz.func114 rfl rfl rfl (fun c hc => ?_)
 refine GC.seq' ?_
 refine GC.region ?_
 refine GL.pure rfl (p_assign rfl) ?_
 refine GL.nil (?_ : GC _ _ _ _)
 refine GC.seq' ?_
 refine GC.region ?_
 refine GL.pure rfl (p_move rfl) ?_
 refine GL.pure rfl (p_geq rfl rfl) ?_
 refine GL.pure rfl (p_move rfl) ?_
 refine GL.split (i := 5) rfl (fun h1 => ?_) (fun h1 => ?_)
 ·try simp only [tst_] at h1
  refine GL.pureG (s := 5) rfl rfl rfl (p_move rfl) ?_
  refine GL.pureG (s := 5) rfl rfl rfl (p_leq rfl rfl) ?_
  refine GL.pure rfl (p_pick_true rfl rfl) ?_
  refine GL.pure rfl (p_assign rfl) ?_
  refine GL.nil (?_ : GC _ _ _ _)
  refine GC.ret ?_
  refine fun a w h => Fin.back (rs := [.tmp 2]) (vs := [_]) (is := []) (js := []) rfl ⟨rfl, trivial⟩ rfl rfl ?_ h
  clear h
  refine ⟨congrArg Value.bool ?_, rfl, rfl⟩; simp [isNum]; omega
 ·try simp only [tst_] at h1
  refine GL.pass (s := 5) rfl rfl rfl ?_
  refine GL.pass (s := 5) rfl rfl rfl ?_
  refine GL.pure rfl (p_pick_false rfl rfl) ?_
  refine GL.pure rfl (p_assign rfl) ?_
  refine GL.nil (?_ : GC _ _ _ _)
  refine GC.ret ?_
  refine fun a w h => Fin.back (rs := [.tmp 2]) (vs := [_]) (is := []) (js := []) rfl ⟨rfl, trivial⟩ rfl rfl ?_ h
  clear h
  refine ⟨congrArg Value.bool ?_, rfl, rfl⟩; simp [isNum]; omega
theorem rres_ct (code : Int) (A : Option Addr) (n cp : Nat) : Ct Tryz.prog 30 [.agg #[.int .u8 code, .slice A n cp]] [] [] (fun v G Q => v = .int .i64 (if resOk code n then 0 else 42) ∧ G = [] ∧ Q = []) := by
 refine Ct.intro Tryz.func30 rfl rfl rfl (fun c hc => ?_)
 refine GC.seq' ?_
 refine GC.region ?_
 refine GL.step rfl (t_box rfl rfl rfl) (GL.ex fun b_t1 => ?_)
 refine GL.pure rfl (p_assign rfl) ?_
 refine GL.nil (?_ : GC _ _ _ _)
 refine GC.seq' ?_
 refine GC.seq' ?_
 refine GC.region ?_
 refine GL.pure rfl (p_fieldAddr fo_30_0 rfl) ?_
 refine GL.step rfl (t_mem rfl (m_load (i := 0) rfl rfl ag_28 rfl)) ?_
 refine GL.pure rfl (p_lss rfl rfl) ?_
 refine GL.pure rfl (p_move rfl) ?_
 refine GL.split (i := 6) rfl (fun h1 => ?_) (fun h1 => ?_)
 ·try simp only [tst_] at h1
  refine GL.pass (s := 6) rfl rfl rfl ?_
  refine GL.pass (s := 6) rfl rfl rfl ?_
  refine GL.pass (s := 6) rfl rfl rfl ?_
  refine GL.pure rfl (p_pick_true rfl rfl) ?_
  refine GL.pure rfl (p_move rfl) ?_
  refine GL.pass (s := 11) rfl rfl rfl ?_
  refine GL.pass (s := 11) rfl rfl rfl ?_
  refine GL.pass (s := 11) rfl rfl rfl ?_
  refine GL.pass (s := 11) rfl rfl rfl ?_
  refine GL.pure rfl (p_pick_true rfl rfl) ?_
  refine GL.nil (?_ : GC _ _ _ _)
  refine GC.cond_true rfl ?_
  refine GC.seq' ?_
  refine GC.region ?_
  refine GL.pure rfl (p_assign rfl) ?_
  refine GL.nil (?_ : GC _ _ _ _)
  refine GC.ret ?_
  refine fun a w h => Fin.back (rs := [.tmp 2]) (vs := [_]) (is := []) (js := []) rfl ⟨rfl, trivial⟩ rfl rfl ?_ h
  clear h
  refine ⟨congrArg (Value.int .i64) ?_, rfl, rfl⟩; first | (exfalso; omega) | (rw [if_pos (by simp [resOk]; omega)]) | (rw [if_neg (by simp [resOk]; omega)])
 ·try simp only [tst_] at h1
  refine GL.pureG (s := 6) rfl rfl rfl (p_fieldAddr fo_30_0 rfl) ?_
  refine GL.stepG rfl (s := 6) rfl rfl (t_mem rfl (m_load (i := 0) rfl rfl ag_28 rfl)) ?_
  refine GL.pureG (s := 6) rfl rfl rfl (p_gtr rfl rfl) ?_
  refine GL.pure rfl (p_pick_false rfl rfl) ?_
  refine GL.pure rfl (p_move rfl) ?_
  refine GL.split (i := 11) rfl (fun h2 => ?_) (fun h2 => ?_)
  ·try simp only [tst_] at h2
   refine GL.pass (s := 11) rfl rfl rfl ?_
   refine GL.pass (s := 11) rfl rfl rfl ?_
   refine GL.pass (s := 11) rfl rfl rfl ?_
   refine GL.pass (s := 11) rfl rfl rfl ?_
   refine GL.pure rfl (p_pick_true rfl rfl) ?_
   refine GL.nil (?_ : GC _ _ _ _)
   refine GC.cond_true rfl ?_
   refine GC.seq' ?_
   refine GC.region ?_
   refine GL.pure rfl (p_assign rfl) ?_
   refine GL.nil (?_ : GC _ _ _ _)
   refine GC.ret ?_
   refine fun a w h => Fin.back (rs := [.tmp 2]) (vs := [_]) (is := []) (js := []) rfl ⟨rfl, trivial⟩ rfl rfl ?_ h
   clear h
   refine ⟨congrArg (Value.int .i64) ?_, rfl, rfl⟩; first | (exfalso; omega) | (rw [if_pos (by simp [resOk]; omega)]) | (rw [if_neg (by simp [resOk]; omega)])
  ·try simp only [tst_] at h2
   refine GL.pureG (s := 11) rfl rfl rfl (p_fieldAddr fo_30_1 rfl) ?_
   refine GL.stepG rfl (s := 11) rfl rfl (t_mem rfl (m_load (i := 0) rfl rfl ag_25 rfl)) ?_
   refine GL.pureG (s := 11) rfl rfl rfl (p_len Tryz.underlying25 rfl) ?_
   refine GL.pureG (s := 11) rfl rfl rfl (p_gtr rfl rfl) ?_
   refine GL.pure rfl (p_pick_false rfl rfl) ?_
   refine GL.nil (?_ : GC _ _ _ _)
   refine GC.cond rfl (fun h3 => ?_) (fun h3 => ?_)
   ·try simp only [tst_] at h3
    refine GC.seq' ?_
    refine GC.region ?_
    refine GL.pure rfl (p_assign rfl) ?_
    refine GL.nil (?_ : GC _ _ _ _)
    refine GC.ret ?_
    refine fun a w h => Fin.back (rs := [.tmp 2]) (vs := [_]) (is := []) (js := []) rfl ⟨rfl, trivial⟩ rfl rfl ?_ h
    clear h
    refine ⟨congrArg (Value.int .i64) ?_, rfl, rfl⟩; first | (exfalso; omega) | (rw [if_pos (by simp [resOk]; omega)]) | (rw [if_neg (by simp [resOk]; omega)])
   ·try simp only [tst_] at h3
    refine GC.skip (?_ : GC _ _ _ _)
    refine GC.seq' ?_
    refine GC.seq' ?_
    refine GC.region ?_
    refine GL.pure rfl (p_fieldAddr fo_30_1 rfl) ?_
    refine GL.step rfl (t_mem rfl (m_load (i := 0) rfl rfl ag_25 rfl)) ?_
    refine GL.pure rfl (p_len Tryz.underlying25 rfl) ?_
    refine GL.pure rfl (p_gtr rfl rfl) ?_
    refine GL.pure rfl (p_move rfl) ?_
    refine GL.split (i := 21) rfl (fun h4 => ?_) (fun h4 => ?_)
    ·try simp only [tst_] at h4
     refine GL.pureG (s := 21) rfl rfl rfl (p_fieldAddr fo_30_0 rfl) ?_
     refine GL.stepG rfl (s := 21) rfl rfl (t_mem rfl (m_load (i := 0) rfl rfl ag_28 rfl)) ?_
     refine GL.pureG (s := 21) rfl rfl rfl (p_neq rfl rfl) ?_
     refine GL.pure rfl (p_pick_true rfl rfl) ?_
     refine GL.pure rfl (p_move rfl) ?_
     refine GL.split (i := 26) rfl (fun h5 => ?_) (fun h5 => ?_)
     ·try simp only [tst_] at h5
      refine GL.pureG (s := 26) rfl rfl rfl (p_fieldAddr fo_30_0 rfl) ?_
      refine GL.stepG rfl (s := 26) rfl rfl (t_mem rfl (m_load (i := 0) rfl rfl ag_28 rfl)) ?_
      refine GL.pureG (s := 26) rfl rfl rfl (p_neq rfl rfl) ?_
      refine GL.pure rfl (p_pick_true rfl rfl) ?_
      refine GL.nil (?_ : GC _ _ _ _)
      refine GC.cond rfl (fun h6 => ?_) (fun h6 => ?_)
      ·try simp only [tst_] at h6
       refine GC.seq' ?_
       refine GC.region ?_
       refine GL.pure rfl (p_assign rfl) ?_
       refine GL.nil (?_ : GC _ _ _ _)
       refine GC.ret ?_
       refine fun a w h => Fin.back (rs := [.tmp 2]) (vs := [_]) (is := []) (js := []) rfl ⟨rfl, trivial⟩ rfl rfl ?_ h
       clear h
       refine ⟨congrArg (Value.int .i64) ?_, rfl, rfl⟩; first | (exfalso; omega) | (rw [if_pos (by simp [resOk]; omega)]) | (rw [if_neg (by simp [resOk]; omega)])
      ·try simp only [tst_] at h6
       refine GC.skip (?_ : GC _ _ _ _)
       refine GC.seq' ?_
       refine GC.region ?_
       refine GL.pure rfl (p_assign rfl) ?_
       refine GL.nil (?_ : GC _ _ _ _)
       refine GC.ret ?_
       refine fun a w h => Fin.back (rs := [.tmp 2]) (vs := [_]) (is := []) (js := []) rfl ⟨rfl, trivial⟩ rfl rfl ?_ h
       clear h
       refine ⟨congrArg (Value.int .i64) ?_, rfl, rfl⟩; first | (exfalso; omega) | (rw [if_pos (by simp [resOk]; omega)]) | (rw [if_neg (by simp [resOk]; omega)])
     ·try simp only [tst_] at h5
      refine GL.pass (s := 26) rfl rfl rfl ?_
      refine GL.pass (s := 26) rfl rfl rfl ?_
      refine GL.pass (s := 26) rfl rfl rfl ?_
      refine GL.pure rfl (p_pick_false rfl rfl) ?_
      refine GL.nil (?_ : GC _ _ _ _)
      refine GC.cond_false rfl ?_
      refine GC.skip (?_ : GC _ _ _ _)
      refine GC.seq' ?_
      refine GC.region ?_
      refine GL.pure rfl (p_assign rfl) ?_
      refine GL.nil (?_ : GC _ _ _ _)
      refine GC.ret ?_
      refine fun a w h => Fin.back (rs := [.tmp 2]) (vs := [_]) (is := []) (js := []) rfl ⟨rfl, trivial⟩ rfl rfl ?_ h
      clear h
      refine ⟨congrArg (Value.int .i64) ?_, rfl, rfl⟩; first | (exfalso; omega) | (rw [if_pos (by simp [resOk]; omega)]) | (rw [if_neg (by simp [resOk]; omega)])
    ·try simp only [tst_] at h4
     refine GL.pass (s := 21) rfl rfl rfl ?_
     refine GL.pass (s := 21) rfl rfl rfl ?_
     refine GL.pass (s := 21) rfl rfl rfl ?_
     refine GL.pure rfl (p_pick_false rfl rfl) ?_
     refine GL.pure rfl (p_move rfl) ?_
     refine GL.pass (s := 26) rfl rfl rfl ?_
     refine GL.pass (s := 26) rfl rfl rfl ?_
     refine GL.pass (s := 26) rfl rfl rfl ?_
     refine GL.pure rfl (p_pick_false rfl rfl) ?_
     refine GL.nil (?_ : GC _ _ _ _)
     refine GC.cond_false rfl ?_
     refine GC.skip (?_ : GC _ _ _ _)
     refine GC.seq' ?_
     refine GC.region ?_
     refine GL.pure rfl (p_assign rfl) ?_
     refine GL.nil (?_ : GC _ _ _ _)
     refine GC.ret ?_
     refine fun a w h => Fin.back (rs := [.tmp 2]) (vs := [_]) (is := []) (js := []) rfl ⟨rfl, trivial⟩ rfl rfl ?_ h
     clear h
     refine ⟨congrArg (Value.int .i64) ?_, rfl, rfl⟩; first | (exfalso; omega) | (rw [if_pos (by simp [resOk]; omega)]) | (rw [if_neg (by simp [resOk]; omega)])
def rowOk (r : Row) : Bool := isNum r.client && isNum r.serial && resOk r.result.code r.result.data.length
def incB : Int → List Row → Bool
  | _, [] => true
  | b, r :: l => rowOk r && decide (b < r.client) && incB r.client l
def rightF (l : List Row) : Bool := decide (l.length ≤ 64) && incB 0 l
def lastC (l : List Row) : Nat → Int
  | 0 => 0
  | k + 1 => (gt l (k : Int)).client
theorem tdrop_gt {α : Type} [Inhabited α] {l : List α} {k : Nat} (h : k < l.length) : l.drop k = gt l (k : Int) :: l.drop (k + 1) := by
  have := gt_ok (xs := l) (i := (k : Int)) (by omega) (by omega)
  simp only [Int.toNat_natCast] at this
  rw [List.drop_eq_getElem_cons h]
  rw [List.getElem?_eq_getElem h] at this
  simp only [Option.some.injEq] at this
  rw [this]
theorem incB_step {l : List Row} {k : Nat} {b : Int} (h : k < l.length) : incB b (l.drop k) = (rowOk (gt l (k : Int)) && decide (b < (gt l (k : Int)).client) && incB (gt l (k : Int)).client (l.drop (k + 1))) := by
  rw [tdrop_gt h]; rfl
theorem incB_ok {l : List Row} {k : Nat} {b : Int} (h : k < l.length) (h1 : isNum (gt l (k : Int)).client = true) (h2 : isNum (gt l (k : Int)).serial = true) (h3 : resOk (gt l (k : Int)).result.code (gt l (k : Int)).result.data.length = true) (h4 : b < (gt l (k : Int)).client) : incB b (l.drop k) = incB (gt l (k : Int)).client (l.drop (k + 1)) := by
  rw [incB_step h, rowOk, h1, h2, h3, decide_eq_true h4]; rfl
theorem incB_bad {l : List Row} {k : Nat} {b : Int} (h : k < l.length) (h1 : isNum (gt l (k : Int)).client = false ∨ isNum (gt l (k : Int)).serial = false ∨ ¬ resOk (gt l (k : Int)).result.code (gt l (k : Int)).result.data.length = true ∨ (gt l (k : Int)).client ≤ b) : incB b (l.drop k) = false := by
  rw [incB_step h, rowOk]
  rcases h1 with h1 | h1 | h1 | h1
  · simp [h1]
  · simp [h1]
  · simp [h1]
  · simp [show ¬ b < (gt l (k : Int)).client by omega]
theorem isNum_pos {n : Int} (h : isNum n = true) : 1 ≤ n ∧ n ≤ 4611686018427387904 := by simpa [isNum] using h
theorem right_ct (A : Option Addr) (l : List Row) (cp : Nat) (hl : l.length ≤ 140737488355328) : Ct Tryz.prog 68 [.slice A l.length cp] [] [Pers.row kRow A l] (fun u G Q => u = .bool (rightF l) ∧ G = [] ∧ Q = []) := by
 refine Ct.intro Tryz.func68 rfl rfl rfl (fun c hc => ?_)
 refine GC.seq' ?_
 refine GC.region ?_
 refine GL.pure rfl (p_assign rfl) ?_
 refine GL.nil (?_ : GC _ _ _ _)
 refine GC.seq' ?_
 refine GC.seq' ?_
 refine GC.region ?_
 refine GL.pure rfl (p_move rfl) ?_
 refine GL.pure rfl (p_len Tryz.underlying37 rfl) ?_
 refine GL.pure rfl (p_gtr rfl rfl) ?_
 refine GL.nil (?_ : GC _ _ _ _)
 refine GC.cond rfl (fun h1 => ?_) (fun h1 => ?_)
 ·try simp only [tst_, resE_iff] at h1
  first
  | (exfalso; omega)
  |(skip
    refine GC.seq' ?_
    refine GC.region ?_
    refine GL.pure rfl (p_assign rfl) ?_
    refine GL.nil (?_ : GC _ _ _ _)
    refine GC.ret ?_
    refine fun a w h => Fin.back (rs := [.tmp 2]) (vs := [_]) (is := []) (js := []) rfl ⟨rfl, trivial⟩ rfl rfl ?_ h
    clear h
    exact ⟨by rw [rightF, decide_eq_false (by omega)]; rfl, rfl, rfl⟩)
 ·try simp only [tst_, resE_iff] at h1
  first
  | (exfalso; omega)
  |(skip
    refine GC.skip (?_ : GC _ _ _ _)
    refine GC.seq' ?_
    refine GC.seq' ?_
    refine GC.region ?_
    refine GL.pure rfl (p_assign rfl) ?_
    refine GL.nil (?_ : GC _ _ _ _)
    refine GC.block ?_
    refine GC.loopK1 (ks := [0]) (is := []) (js := [0]) (fun (k : Nat) => k ≤ l.length ∧ incB 0 l = incB (lastC l k) (l.drop k)) (fun (k : Nat) => [(3, .int .i64 (k : Int))]) (fun (k : Nat) => []) (fun (k : Nat) => []) (fun (k : Nat) => l.length - k) (0) rfl rfl rfl (fun a w h => ⟨⟨by omega, rfl⟩, h.cutK (is := []) (js := [0]) (ks := [0]) ⟨rfl, trivial⟩ rfl rfl rfl⟩) ?_
    intro k hk
    try dsimp only [List.cons_append, List.nil_append] at hk ⊢
    obtain ⟨hk, he⟩ := hk
    refine GC.seq' ?_
    refine GC.seq' ?_
    refine GC.region ?_
    refine GL.pure rfl (p_move rfl) ?_
    refine GL.pure rfl (p_move rfl) ?_
    refine GL.pure rfl (p_len Tryz.underlying37 rfl) ?_
    refine GL.pure rfl (p_lss rfl rfl) ?_
    refine GL.nil (?_ : GC _ _ _ _)
    refine GC.cond rfl (fun h2 => ?_) (fun h2 => ?_)
    ·try simp only [tst_, resE_iff] at h2
     first
     | (exfalso; omega)
     |(skip
       refine GC.skip (?_ : GC _ _ _ _)
       refine GC.seq' ?_
       refine GC.block ?_
       refine GC.seq' ?_
       rcases k with _ | k
       ·skip
        refine GC.layQ (y := .tmp 3) (j := 0) rfl rfl (by omega) (gt_ok (by omega) (by omega)) (fun p_x15 r_x15 hA_x15 ok_x15 => ?_)
        rcases r_x15 with ⟨_, ⟨_, ⟨_, ⟨Ax15_0, cpx15_0⟩⟩⟩⟩
        refine GC.layQ (y := .tmp 3) (j := 2) rfl rfl (by omega) (gt_ok (by omega) (by omega)) (fun p_x23 r_x23 hA_x23 ok_x23 => ?_)
        rcases r_x23 with ⟨_, ⟨_, ⟨_, ⟨Ax23_0, cpx23_0⟩⟩⟩⟩
        refine GC.layQ (y := .tmp 3) (j := 4) rfl rfl (by omega) (gt_ok (by omega) (by omega)) (fun p_x35 r_x35 hA_x35 ok_x35 => ?_)
        rcases r_x35 with ⟨_, ⟨_, ⟨_, ⟨Ax35_0, cpx35_0⟩⟩⟩⟩
        refine GC.layQ (y := .tmp 3) (j := 6) rfl rfl (by omega) (gt_ok (by omega) (by omega)) (fun p_x50 r_x50 hA_x50 ok_x50 => ?_)
        rcases r_x50 with ⟨_, ⟨_, ⟨_, ⟨Ax50_0, cpx50_0⟩⟩⟩⟩
        refine GC.regionQ wide_ (by kernel_rfl) ?_
        refine GQ.step rfl (q_pure (p_move rfl)) ?_
        refine GQ.step rfl (q_pure (p_move rfl)) ?_
        refine GQ.step rfl (q_pure (p_indexL hA_x15 rfl rfl Tryz.underlying37 sz_61 (by omega) (by omega))) ?_
        refine GQ.step rfl (q_pure (p_fieldAddr' fo_61_0 rfl)) ?_
        refine GQ.step rfl (q_mem (m_loadP (i := 6) rfl rfl ag_3 rfl)) ?_
        refine GQ.step rfl (q_call fn_114 rfl (js := []) rfl (by exact rnum_ct _)) ?_
        refine GQ.step rfl (q_pure (p_not rfl)) ?_
        refine GQ.step rfl (q_pure (p_move rfl)) ?_
        refine GQ.split (i := 20) rfl (fun h3 => ?_) (fun h3 => ?_)
        ·try simp only [tst_, resE_iff] at h3
         first
         | (exfalso; omega)
         |(skip
           refine GQ.pass (s := 20) rfl rfl rfl ?_
           refine GQ.pass (s := 20) rfl rfl rfl ?_
           refine GQ.pass (s := 20) rfl rfl rfl ?_
           refine GQ.pass (s := 20) rfl rfl rfl ?_
           refine GQ.pass (s := 20) rfl rfl rfl ?_
           refine GQ.pass (s := 20) rfl rfl rfl ?_
           refine GQ.pass (s := 20) rfl rfl rfl ?_
           refine GQ.step rfl (q_pure (p_pick_true rfl rfl)) ?_
           refine GQ.step rfl (q_pure (p_move rfl)) ?_
           refine GQ.pass (s := 29) rfl rfl rfl ?_
           refine GQ.pass (s := 29) rfl rfl rfl ?_
           refine GQ.pass (s := 29) rfl rfl rfl ?_
           refine GQ.passU (s := 32) rfl rfl rfl ?_
           refine GQ.passU (s := 32) rfl rfl rfl ?_
           refine GQ.passU (s := 32) rfl rfl rfl ?_
           refine GQ.passU (s := 32) rfl rfl rfl ?_
           refine GQ.passU (s := 32) rfl rfl rfl ?_
           refine GQ.passU (s := 32) rfl rfl rfl ?_
           refine GQ.passU (s := 32) rfl rfl rfl ?_
           refine GQ.passU (s := 32) rfl rfl rfl ?_
           refine GQ.passU (s := 32) rfl rfl rfl ?_
           refine GQ.passU (s := 32) rfl rfl rfl ?_
           refine GQ.passU (s := 32) rfl rfl rfl ?_
           refine GQ.passU (s := 32) rfl rfl rfl ?_
           refine GQ.pass (s := 29) rfl rfl rfl ?_
           refine GQ.step rfl (q_pure (p_pick_true rfl rfl)) ?_
           refine GQ.step rfl (q_pure (p_move rfl)) ?_
           refine GQ.pass (s := 47) rfl rfl rfl ?_
           refine GQ.pass (s := 47) rfl rfl rfl ?_
           refine GQ.pass (s := 47) rfl rfl rfl ?_
           refine GQ.pass (s := 47) rfl rfl rfl ?_
           refine GQ.pass (s := 47) rfl rfl rfl ?_
           refine GQ.pass (s := 47) rfl rfl rfl ?_
           refine GQ.pass (s := 47) rfl rfl rfl ?_
           refine GQ.step rfl (q_pure (p_pick_true rfl rfl)) ?_
           refine GQ.nil (?_ : GC _ _ _ _)
           refine GC.cond_true rfl ?_
           refine GC.seq' ?_
           refine GC.region ?_
           refine GL.pure rfl (p_assign rfl) ?_
           refine GL.nil (?_ : GC _ _ _ _)
           refine GC.ret ?_
           refine fun a w h => Fin.back (rs := [.tmp 2]) (vs := [_]) (is := []) (js := []) rfl ⟨rfl, trivial⟩ rfl rfl ?_ h
           clear h
           refine ⟨?_, rfl, rfl⟩
           (try simp only [show ∀ x : Nat, ((x + 1 : Nat) : Int) - 1 = x by omega] at *)
           rw [rightF, he, incB_bad (by omega) (by first | exact .inl (by assumption) | exact .inr (.inl (by assumption)) | exact .inr (.inr (.inl (by assumption))) | exact .inr (.inr (.inr (by simp only [lastC]; omega))))]
           rw [Bool.and_false]; rfl)
        ·try simp only [tst_, resE_iff] at h3
         first
         | (exfalso; omega)
         |(skip
           refine GQ.stepG (s := 20) rfl rfl rfl (q_pure (p_move rfl)) ?_
           refine GQ.stepG (s := 20) rfl rfl rfl (q_pure (p_move rfl)) ?_
           refine GQ.stepG (s := 20) rfl rfl rfl (q_pure (p_indexL hA_x23 rfl rfl Tryz.underlying37 sz_61 (by omega) (by omega))) ?_
           refine GQ.stepG (s := 20) rfl rfl rfl (q_pure (p_fieldAddr' fo_61_1 rfl)) ?_
           refine GQ.stepG (s := 20) rfl rfl rfl (q_mem (m_loadP (i := 4) rfl rfl ag_3 rfl)) ?_
           refine GQ.stepG (s := 20) rfl rfl rfl (q_call fn_114 rfl (js := []) rfl (by exact rnum_ct _)) ?_
           refine GQ.stepG (s := 20) rfl rfl rfl (q_pure (p_not rfl)) ?_
           refine GQ.step rfl (q_pure (p_pick_false rfl rfl)) ?_
           refine GQ.step rfl (q_pure (p_move rfl)) ?_
           refine GQ.split (i := 29) rfl (fun h4 => ?_) (fun h4 => ?_)
           ·try simp only [tst_, resE_iff] at h4
            first
            | (exfalso; omega)
            |(skip
              refine GQ.pass (s := 29) rfl rfl rfl ?_
              refine GQ.pass (s := 29) rfl rfl rfl ?_
              refine GQ.pass (s := 29) rfl rfl rfl ?_
              refine GQ.passU (s := 32) rfl rfl rfl ?_
              refine GQ.passU (s := 32) rfl rfl rfl ?_
              refine GQ.passU (s := 32) rfl rfl rfl ?_
              refine GQ.passU (s := 32) rfl rfl rfl ?_
              refine GQ.passU (s := 32) rfl rfl rfl ?_
              refine GQ.passU (s := 32) rfl rfl rfl ?_
              refine GQ.passU (s := 32) rfl rfl rfl ?_
              refine GQ.passU (s := 32) rfl rfl rfl ?_
              refine GQ.passU (s := 32) rfl rfl rfl ?_
              refine GQ.passU (s := 32) rfl rfl rfl ?_
              refine GQ.passU (s := 32) rfl rfl rfl ?_
              refine GQ.passU (s := 32) rfl rfl rfl ?_
              refine GQ.pass (s := 29) rfl rfl rfl ?_
              refine GQ.step rfl (q_pure (p_pick_true rfl rfl)) ?_
              refine GQ.step rfl (q_pure (p_move rfl)) ?_
              refine GQ.pass (s := 47) rfl rfl rfl ?_
              refine GQ.pass (s := 47) rfl rfl rfl ?_
              refine GQ.pass (s := 47) rfl rfl rfl ?_
              refine GQ.pass (s := 47) rfl rfl rfl ?_
              refine GQ.pass (s := 47) rfl rfl rfl ?_
              refine GQ.pass (s := 47) rfl rfl rfl ?_
              refine GQ.pass (s := 47) rfl rfl rfl ?_
              refine GQ.step rfl (q_pure (p_pick_true rfl rfl)) ?_
              refine GQ.nil (?_ : GC _ _ _ _)
              refine GC.cond_true rfl ?_
              refine GC.seq' ?_
              refine GC.region ?_
              refine GL.pure rfl (p_assign rfl) ?_
              refine GL.nil (?_ : GC _ _ _ _)
              refine GC.ret ?_
              refine fun a w h => Fin.back (rs := [.tmp 2]) (vs := [_]) (is := []) (js := []) rfl ⟨rfl, trivial⟩ rfl rfl ?_ h
              clear h
              refine ⟨?_, rfl, rfl⟩
              (try simp only [show ∀ x : Nat, ((x + 1 : Nat) : Int) - 1 = x by omega] at *)
              rw [rightF, he, incB_bad (by omega) (by first | exact .inl (by assumption) | exact .inr (.inl (by assumption)) | exact .inr (.inr (.inl (by assumption))) | exact .inr (.inr (.inr (by simp only [lastC]; omega))))]
              rw [Bool.and_false]; rfl)
           ·try simp only [tst_, resE_iff] at h4
            first
            | (exfalso; omega)
            |(skip
              refine GQ.stepG (s := 29) rfl rfl rfl (q_pure (p_move rfl)) ?_
              refine GQ.stepG (s := 29) rfl rfl rfl (q_pure (p_gtr rfl rfl)) ?_
              refine GQ.stepG (s := 29) rfl rfl rfl (q_pure (p_move rfl)) ?_
              refine GQ.split (i := 32) rfl (fun h5 => ?_) (fun h5 => ?_)
              ·try simp only [tst_, resE_iff] at h5
               first
               | (exfalso; omega)
               |(skip
                 refine GQ.stepG (s := 32) rfl rfl rfl (q_pure (p_move rfl)) ?_
                 refine GQ.stepG (s := 32) rfl rfl rfl (q_pure (p_move rfl)) ?_
                 refine GQ.stepG (s := 32) rfl rfl rfl (q_pure (p_indexL hA_x35 rfl rfl Tryz.underlying37 sz_61 (by omega) (by omega))) ?_
                 refine GQ.stepG (s := 32) rfl rfl rfl (q_pure (p_fieldAddr' fo_61_0 rfl)) ?_
                 refine GQ.stepG (s := 32) rfl rfl rfl (q_mem (m_loadP (i := 2) rfl rfl ag_3 rfl)) ?_
                 refine GQ.stepG (s := 32) rfl rfl rfl (q_pure (p_move rfl)) ?_
                 refine GQ.stepG (s := 32) rfl rfl rfl (q_pure (p_move rfl)) ?_
                 refine GQ.stepG (s := 32) rfl rfl rfl (q_pure (p_sub rfl rfl (w64 (by omega) (by omega)))) ?_
                 exact (by omega : False).elim)
              ·try simp only [tst_, resE_iff] at h5
               first
               | (exfalso; omega)
               |(skip
                 refine GQ.pass (s := 32) rfl rfl rfl ?_
                 refine GQ.pass (s := 32) rfl rfl rfl ?_
                 refine GQ.pass (s := 32) rfl rfl rfl ?_
                 refine GQ.pass (s := 32) rfl rfl rfl ?_
                 refine GQ.pass (s := 32) rfl rfl rfl ?_
                 refine GQ.pass (s := 32) rfl rfl rfl ?_
                 refine GQ.pass (s := 32) rfl rfl rfl ?_
                 refine GQ.pass (s := 32) rfl rfl rfl ?_
                 refine GQ.pass (s := 32) rfl rfl rfl ?_
                 refine GQ.pass (s := 32) rfl rfl rfl ?_
                 refine GQ.pass (s := 32) rfl rfl rfl ?_
                 refine GQ.pass (s := 32) rfl rfl rfl ?_
                 refine GQ.stepG (s := 29) rfl rfl rfl (q_pure (p_pick_false rfl rfl)) ?_
                 refine GQ.step rfl (q_pure (p_pick_false rfl rfl)) ?_
                 refine GQ.step rfl (q_pure (p_move rfl)) ?_
                 refine GQ.stepG (s := 47) rfl rfl rfl (q_pure (p_move rfl)) ?_
                 refine GQ.stepG (s := 47) rfl rfl rfl (q_pure (p_move rfl)) ?_
                 refine GQ.stepG (s := 47) rfl rfl rfl (q_pure (p_indexL hA_x50 rfl rfl Tryz.underlying37 sz_61 (by omega) (by omega))) ?_
                 refine GQ.stepG (s := 47) rfl rfl rfl (q_pure (p_fieldAddr' fo_61_2 rfl)) ?_
                 refine GQ.stepG (s := 47) rfl rfl rfl (q_mem (m_loadPN (i := 0) rfl rfl ag_30 (vs := [_, _]) sz_30 ⟨rfl, rfl, trivial⟩)) ?_
                 refine GQ.stepG (s := 47) rfl rfl rfl (q_call fn_30 rfl (js := []) rfl (by exact rres_ct _ _ _ _)) ?_
                 refine GQ.stepG (s := 47) rfl rfl rfl (q_pure (p_neq rfl rfl)) ?_
                 refine GQ.step rfl (q_pure (p_pick_false rfl rfl)) ?_
                 refine GQ.nil (?_ : GC _ _ _ _)
                 refine GC.cond rfl (fun h6 => ?_) (fun h6 => ?_)
                 ·try simp only [tst_, resE_iff] at h6
                  first
                  | (exfalso; omega)
                  |(skip
                    refine GC.seq' ?_
                    refine GC.region ?_
                    refine GL.pure rfl (p_assign rfl) ?_
                    refine GL.nil (?_ : GC _ _ _ _)
                    refine GC.ret ?_
                    refine fun a w h => Fin.back (rs := [.tmp 2]) (vs := [_]) (is := []) (js := []) rfl ⟨rfl, trivial⟩ rfl rfl ?_ h
                    clear h
                    refine ⟨?_, rfl, rfl⟩
                    (try simp only [show ∀ x : Nat, ((x + 1 : Nat) : Int) - 1 = x by omega] at *)
                    rw [rightF, he, incB_bad (by omega) (by first | exact .inl (by assumption) | exact .inr (.inl (by assumption)) | exact .inr (.inr (.inl (by assumption))) | exact .inr (.inr (.inr (by simp only [lastC]; omega))))]
                    rw [Bool.and_false]; rfl)
                 ·try simp only [tst_, resE_iff] at h6
                  first
                  | (exfalso; omega)
                  |(skip
                    refine GC.skip (?_ : GC _ _ _ _)
                    refine GC.region ?_
                    refine GL.pure rfl (p_move rfl) ?_
                    refine GL.pure rfl (p_add rfl rfl (w64 (by omega) (by omega))) ?_
                    refine GL.pure rfl (p_assign rfl) ?_
                    refine GL.nil ?_
                    (try simp only [show ∀ x : Nat, ((x + 1 : Nat) : Int) - 1 = x by omega] at *)
                    exact fun a w h => ⟨(_ + 1), (by omega), ⟨by omega, by rw [he, incB_ok (by omega) (by assumption) (by assumption) (by assumption) (by first | (have := isNum_pos (by assumption : isNum (gt l ((0 : Nat) : Int)).client = true); simp only [lastC]; omega) | (simp only [lastC]; omega))]; rfl⟩, h.cut (is := []) (js := [8]) ⟨rfl, rfl, trivial⟩ rfl rfl⟩))))
       ·skip
        refine GC.lay (x := .tmp 0) (y := .const (.int .i64 (((k + 1 : Nat) : Int) - 1))) (j := 0) rfl rfl rfl (by omega) (gt_ok (by omega) (by omega)) (fun p_xp r_xp hA_xp ok_xp => ?_)
        rcases r_xp with ⟨_, ⟨_, ⟨_, ⟨Axp_0, cpxp_0⟩⟩⟩⟩
        refine GC.layQ (y := .tmp 3) (j := 2) rfl rfl (by omega) (gt_ok (by omega) (by omega)) (fun p_x15 r_x15 hA_x15 ok_x15 => ?_)
        rcases r_x15 with ⟨_, ⟨_, ⟨_, ⟨Ax15_0, cpx15_0⟩⟩⟩⟩
        refine GC.layQ (y := .tmp 3) (j := 4) rfl rfl (by omega) (gt_ok (by omega) (by omega)) (fun p_x23 r_x23 hA_x23 ok_x23 => ?_)
        rcases r_x23 with ⟨_, ⟨_, ⟨_, ⟨Ax23_0, cpx23_0⟩⟩⟩⟩
        refine GC.layQ (y := .tmp 3) (j := 6) rfl rfl (by omega) (gt_ok (by omega) (by omega)) (fun p_x35 r_x35 hA_x35 ok_x35 => ?_)
        rcases r_x35 with ⟨_, ⟨_, ⟨_, ⟨Ax35_0, cpx35_0⟩⟩⟩⟩
        refine GC.layQ (y := .tmp 3) (j := 8) rfl rfl (by omega) (gt_ok (by omega) (by omega)) (fun p_x50 r_x50 hA_x50 ok_x50 => ?_)
        rcases r_x50 with ⟨_, ⟨_, ⟨_, ⟨Ax50_0, cpx50_0⟩⟩⟩⟩
        refine GC.regionQ wide_ (by kernel_rfl) ?_
        refine GQ.step rfl (q_pure (p_move rfl)) ?_
        refine GQ.step rfl (q_pure (p_move rfl)) ?_
        refine GQ.step rfl (q_pure (p_indexL hA_x15 rfl rfl Tryz.underlying37 sz_61 (by omega) (by omega))) ?_
        refine GQ.step rfl (q_pure (p_fieldAddr' fo_61_0 rfl)) ?_
        refine GQ.step rfl (q_mem (m_loadP (i := 6) rfl rfl ag_3 rfl)) ?_
        refine GQ.step rfl (q_call fn_114 rfl (js := []) rfl (by exact rnum_ct _)) ?_
        refine GQ.step rfl (q_pure (p_not rfl)) ?_
        refine GQ.step rfl (q_pure (p_move rfl)) ?_
        refine GQ.split (i := 20) rfl (fun h7 => ?_) (fun h7 => ?_)
        ·try simp only [tst_, resE_iff] at h7
         first
         | (exfalso; omega)
         |(skip
           refine GQ.pass (s := 20) rfl rfl rfl ?_
           refine GQ.pass (s := 20) rfl rfl rfl ?_
           refine GQ.pass (s := 20) rfl rfl rfl ?_
           refine GQ.pass (s := 20) rfl rfl rfl ?_
           refine GQ.pass (s := 20) rfl rfl rfl ?_
           refine GQ.pass (s := 20) rfl rfl rfl ?_
           refine GQ.pass (s := 20) rfl rfl rfl ?_
           refine GQ.step rfl (q_pure (p_pick_true rfl rfl)) ?_
           refine GQ.step rfl (q_pure (p_move rfl)) ?_
           refine GQ.pass (s := 29) rfl rfl rfl ?_
           refine GQ.pass (s := 29) rfl rfl rfl ?_
           refine GQ.pass (s := 29) rfl rfl rfl ?_
           refine GQ.passU (s := 32) rfl rfl rfl ?_
           refine GQ.passU (s := 32) rfl rfl rfl ?_
           refine GQ.passU (s := 32) rfl rfl rfl ?_
           refine GQ.passU (s := 32) rfl rfl rfl ?_
           refine GQ.passU (s := 32) rfl rfl rfl ?_
           refine GQ.passU (s := 32) rfl rfl rfl ?_
           refine GQ.passU (s := 32) rfl rfl rfl ?_
           refine GQ.passU (s := 32) rfl rfl rfl ?_
           refine GQ.passU (s := 32) rfl rfl rfl ?_
           refine GQ.passU (s := 32) rfl rfl rfl ?_
           refine GQ.passU (s := 32) rfl rfl rfl ?_
           refine GQ.passU (s := 32) rfl rfl rfl ?_
           refine GQ.pass (s := 29) rfl rfl rfl ?_
           refine GQ.step rfl (q_pure (p_pick_true rfl rfl)) ?_
           refine GQ.step rfl (q_pure (p_move rfl)) ?_
           refine GQ.pass (s := 47) rfl rfl rfl ?_
           refine GQ.pass (s := 47) rfl rfl rfl ?_
           refine GQ.pass (s := 47) rfl rfl rfl ?_
           refine GQ.pass (s := 47) rfl rfl rfl ?_
           refine GQ.pass (s := 47) rfl rfl rfl ?_
           refine GQ.pass (s := 47) rfl rfl rfl ?_
           refine GQ.pass (s := 47) rfl rfl rfl ?_
           refine GQ.step rfl (q_pure (p_pick_true rfl rfl)) ?_
           refine GQ.nil (?_ : GC _ _ _ _)
           refine GC.cond_true rfl ?_
           refine GC.seq' ?_
           refine GC.region ?_
           refine GL.pure rfl (p_assign rfl) ?_
           refine GL.nil (?_ : GC _ _ _ _)
           refine GC.ret ?_
           refine fun a w h => Fin.back (rs := [.tmp 2]) (vs := [_]) (is := []) (js := []) rfl ⟨rfl, trivial⟩ rfl rfl ?_ h
           clear h
           refine ⟨?_, rfl, rfl⟩
           (try simp only [show ∀ x : Nat, ((x + 1 : Nat) : Int) - 1 = x by omega] at *)
           rw [rightF, he, incB_bad (by omega) (by first | exact .inl (by assumption) | exact .inr (.inl (by assumption)) | exact .inr (.inr (.inl (by assumption))) | exact .inr (.inr (.inr (by simp only [lastC]; omega))))]
           rw [Bool.and_false]; rfl)
        ·try simp only [tst_, resE_iff] at h7
         first
         | (exfalso; omega)
         |(skip
           refine GQ.stepG (s := 20) rfl rfl rfl (q_pure (p_move rfl)) ?_
           refine GQ.stepG (s := 20) rfl rfl rfl (q_pure (p_move rfl)) ?_
           refine GQ.stepG (s := 20) rfl rfl rfl (q_pure (p_indexL hA_x23 rfl rfl Tryz.underlying37 sz_61 (by omega) (by omega))) ?_
           refine GQ.stepG (s := 20) rfl rfl rfl (q_pure (p_fieldAddr' fo_61_1 rfl)) ?_
           refine GQ.stepG (s := 20) rfl rfl rfl (q_mem (m_loadP (i := 4) rfl rfl ag_3 rfl)) ?_
           refine GQ.stepG (s := 20) rfl rfl rfl (q_call fn_114 rfl (js := []) rfl (by exact rnum_ct _)) ?_
           refine GQ.stepG (s := 20) rfl rfl rfl (q_pure (p_not rfl)) ?_
           refine GQ.step rfl (q_pure (p_pick_false rfl rfl)) ?_
           refine GQ.step rfl (q_pure (p_move rfl)) ?_
           refine GQ.split (i := 29) rfl (fun h8 => ?_) (fun h8 => ?_)
           ·try simp only [tst_, resE_iff] at h8
            first
            | (exfalso; omega)
            |(skip
              refine GQ.pass (s := 29) rfl rfl rfl ?_
              refine GQ.pass (s := 29) rfl rfl rfl ?_
              refine GQ.pass (s := 29) rfl rfl rfl ?_
              refine GQ.passU (s := 32) rfl rfl rfl ?_
              refine GQ.passU (s := 32) rfl rfl rfl ?_
              refine GQ.passU (s := 32) rfl rfl rfl ?_
              refine GQ.passU (s := 32) rfl rfl rfl ?_
              refine GQ.passU (s := 32) rfl rfl rfl ?_
              refine GQ.passU (s := 32) rfl rfl rfl ?_
              refine GQ.passU (s := 32) rfl rfl rfl ?_
              refine GQ.passU (s := 32) rfl rfl rfl ?_
              refine GQ.passU (s := 32) rfl rfl rfl ?_
              refine GQ.passU (s := 32) rfl rfl rfl ?_
              refine GQ.passU (s := 32) rfl rfl rfl ?_
              refine GQ.passU (s := 32) rfl rfl rfl ?_
              refine GQ.pass (s := 29) rfl rfl rfl ?_
              refine GQ.step rfl (q_pure (p_pick_true rfl rfl)) ?_
              refine GQ.step rfl (q_pure (p_move rfl)) ?_
              refine GQ.pass (s := 47) rfl rfl rfl ?_
              refine GQ.pass (s := 47) rfl rfl rfl ?_
              refine GQ.pass (s := 47) rfl rfl rfl ?_
              refine GQ.pass (s := 47) rfl rfl rfl ?_
              refine GQ.pass (s := 47) rfl rfl rfl ?_
              refine GQ.pass (s := 47) rfl rfl rfl ?_
              refine GQ.pass (s := 47) rfl rfl rfl ?_
              refine GQ.step rfl (q_pure (p_pick_true rfl rfl)) ?_
              refine GQ.nil (?_ : GC _ _ _ _)
              refine GC.cond_true rfl ?_
              refine GC.seq' ?_
              refine GC.region ?_
              refine GL.pure rfl (p_assign rfl) ?_
              refine GL.nil (?_ : GC _ _ _ _)
              refine GC.ret ?_
              refine fun a w h => Fin.back (rs := [.tmp 2]) (vs := [_]) (is := []) (js := []) rfl ⟨rfl, trivial⟩ rfl rfl ?_ h
              clear h
              refine ⟨?_, rfl, rfl⟩
              (try simp only [show ∀ x : Nat, ((x + 1 : Nat) : Int) - 1 = x by omega] at *)
              rw [rightF, he, incB_bad (by omega) (by first | exact .inl (by assumption) | exact .inr (.inl (by assumption)) | exact .inr (.inr (.inl (by assumption))) | exact .inr (.inr (.inr (by simp only [lastC]; omega))))]
              rw [Bool.and_false]; rfl)
           ·try simp only [tst_, resE_iff] at h8
            first
            | (exfalso; omega)
            |(skip
              refine GQ.stepG (s := 29) rfl rfl rfl (q_pure (p_move rfl)) ?_
              refine GQ.stepG (s := 29) rfl rfl rfl (q_pure (p_gtr rfl rfl)) ?_
              refine GQ.stepG (s := 29) rfl rfl rfl (q_pure (p_move rfl)) ?_
              refine GQ.split (i := 32) rfl (fun h9 => ?_) (fun h9 => ?_)
              ·try simp only [tst_, resE_iff] at h9
               first
               | (exfalso; omega)
               |(skip
                 refine GQ.stepG (s := 32) rfl rfl rfl (q_pure (p_move rfl)) ?_
                 refine GQ.stepG (s := 32) rfl rfl rfl (q_pure (p_move rfl)) ?_
                 refine GQ.stepG (s := 32) rfl rfl rfl (q_pure (p_indexL hA_x35 rfl rfl Tryz.underlying37 sz_61 (by omega) (by omega))) ?_
                 refine GQ.stepG (s := 32) rfl rfl rfl (q_pure (p_fieldAddr' fo_61_0 rfl)) ?_
                 refine GQ.stepG (s := 32) rfl rfl rfl (q_mem (m_loadP (i := 2) rfl rfl ag_3 rfl)) ?_
                 refine GQ.stepG (s := 32) rfl rfl rfl (q_pure (p_move rfl)) ?_
                 refine GQ.stepG (s := 32) rfl rfl rfl (q_pure (p_move rfl)) ?_
                 refine GQ.stepG (s := 32) rfl rfl rfl (q_pure (p_sub rfl rfl (w64 (by omega) (by omega)))) ?_
                 refine GQ.stepG (s := 32) rfl rfl rfl (q_pure (p_indexL hA_xp rfl rfl Tryz.underlying37 sz_61 (by omega) (by omega))) ?_
                 refine GQ.stepG (s := 32) rfl rfl rfl (q_pure (p_fieldAddr' fo_61_0 rfl)) ?_
                 refine GQ.stepG (s := 32) rfl rfl rfl (q_mem (m_loadP (i := 8) rfl rfl ag_3 rfl)) ?_
                 refine GQ.stepG (s := 32) rfl rfl rfl (q_pure (p_leq rfl rfl)) ?_
                 refine GQ.stepG (s := 29) rfl rfl rfl (q_pure (p_pick_true rfl rfl)) ?_
                 refine GQ.step rfl (q_pure (p_pick_false rfl rfl)) ?_
                 refine GQ.step rfl (q_pure (p_move rfl)) ?_
                 refine GQ.split (i := 47) rfl (fun h10 => ?_) (fun h10 => ?_)
                 ·try simp only [tst_, resE_iff] at h10
                  first
                  | (exfalso; omega)
                  |(skip
                    refine GQ.pass (s := 47) rfl rfl rfl ?_
                    refine GQ.pass (s := 47) rfl rfl rfl ?_
                    refine GQ.pass (s := 47) rfl rfl rfl ?_
                    refine GQ.pass (s := 47) rfl rfl rfl ?_
                    refine GQ.pass (s := 47) rfl rfl rfl ?_
                    refine GQ.pass (s := 47) rfl rfl rfl ?_
                    refine GQ.pass (s := 47) rfl rfl rfl ?_
                    refine GQ.step rfl (q_pure (p_pick_true rfl rfl)) ?_
                    refine GQ.nil (?_ : GC _ _ _ _)
                    refine GC.cond_true rfl ?_
                    refine GC.seq' ?_
                    refine GC.region ?_
                    refine GL.pure rfl (p_assign rfl) ?_
                    refine GL.nil (?_ : GC _ _ _ _)
                    refine GC.ret ?_
                    refine fun a w h => Fin.back (rs := [.tmp 2]) (vs := [_]) (is := []) (js := []) rfl ⟨rfl, trivial⟩ rfl rfl ?_ h
                    clear h
                    refine ⟨?_, rfl, rfl⟩
                    (try simp only [show ∀ x : Nat, ((x + 1 : Nat) : Int) - 1 = x by omega] at *)
                    rw [rightF, he, incB_bad (by omega) (by first | exact .inl (by assumption) | exact .inr (.inl (by assumption)) | exact .inr (.inr (.inl (by assumption))) | exact .inr (.inr (.inr (by simp only [lastC]; omega))))]
                    rw [Bool.and_false]; rfl)
                 ·try simp only [tst_, resE_iff] at h10
                  first
                  | (exfalso; omega)
                  |(skip
                    refine GQ.stepG (s := 47) rfl rfl rfl (q_pure (p_move rfl)) ?_
                    refine GQ.stepG (s := 47) rfl rfl rfl (q_pure (p_move rfl)) ?_
                    refine GQ.stepG (s := 47) rfl rfl rfl (q_pure (p_indexL hA_x50 rfl rfl Tryz.underlying37 sz_61 (by omega) (by omega))) ?_
                    refine GQ.stepG (s := 47) rfl rfl rfl (q_pure (p_fieldAddr' fo_61_2 rfl)) ?_
                    refine GQ.stepG (s := 47) rfl rfl rfl (q_mem (m_loadPN (i := 0) rfl rfl ag_30 (vs := [_, _]) sz_30 ⟨rfl, rfl, trivial⟩)) ?_
                    refine GQ.stepG (s := 47) rfl rfl rfl (q_call fn_30 rfl (js := []) rfl (by exact rres_ct _ _ _ _)) ?_
                    refine GQ.stepG (s := 47) rfl rfl rfl (q_pure (p_neq rfl rfl)) ?_
                    refine GQ.step rfl (q_pure (p_pick_false rfl rfl)) ?_
                    refine GQ.nil (?_ : GC _ _ _ _)
                    refine GC.cond rfl (fun h11 => ?_) (fun h11 => ?_)
                    ·try simp only [tst_, resE_iff] at h11
                     first
                     | (exfalso; omega)
                     |(skip
                       refine GC.seq' ?_
                       refine GC.region ?_
                       refine GL.pure rfl (p_assign rfl) ?_
                       refine GL.nil (?_ : GC _ _ _ _)
                       refine GC.ret ?_
                       refine fun a w h => Fin.back (rs := [.tmp 2]) (vs := [_]) (is := []) (js := []) rfl ⟨rfl, trivial⟩ rfl rfl ?_ h
                       clear h
                       refine ⟨?_, rfl, rfl⟩
                       (try simp only [show ∀ x : Nat, ((x + 1 : Nat) : Int) - 1 = x by omega] at *)
                       rw [rightF, he, incB_bad (by omega) (by first | exact .inl (by assumption) | exact .inr (.inl (by assumption)) | exact .inr (.inr (.inl (by assumption))) | exact .inr (.inr (.inr (by simp only [lastC]; omega))))]
                       rw [Bool.and_false]; rfl)
                    ·try simp only [tst_, resE_iff] at h11
                     first
                     | (exfalso; omega)
                     |(skip
                       refine GC.skip (?_ : GC _ _ _ _)
                       refine GC.region ?_
                       refine GL.pure rfl (p_move rfl) ?_
                       refine GL.pure rfl (p_add rfl rfl (w64 (by omega) (by omega))) ?_
                       refine GL.pure rfl (p_assign rfl) ?_
                       refine GL.nil ?_
                       (try simp only [show ∀ x : Nat, ((x + 1 : Nat) : Int) - 1 = x by omega] at *)
                       exact fun a w h => ⟨(_ + 1), (by omega), ⟨by omega, by rw [he, incB_ok (by omega) (by assumption) (by assumption) (by assumption) (by first | (have := isNum_pos (by assumption : isNum (gt l ((0 : Nat) : Int)).client = true); simp only [lastC]; omega) | (simp only [lastC]; omega))]; rfl⟩, h.cut (is := []) (js := [10]) ⟨rfl, rfl, trivial⟩ rfl rfl⟩)))
              ·try simp only [tst_, resE_iff] at h9
               first
               | (exfalso; omega)
               |(skip
                 refine GQ.pass (s := 32) rfl rfl rfl ?_
                 refine GQ.pass (s := 32) rfl rfl rfl ?_
                 refine GQ.pass (s := 32) rfl rfl rfl ?_
                 refine GQ.pass (s := 32) rfl rfl rfl ?_
                 refine GQ.pass (s := 32) rfl rfl rfl ?_
                 refine GQ.pass (s := 32) rfl rfl rfl ?_
                 refine GQ.pass (s := 32) rfl rfl rfl ?_
                 refine GQ.pass (s := 32) rfl rfl rfl ?_
                 refine GQ.pass (s := 32) rfl rfl rfl ?_
                 refine GQ.pass (s := 32) rfl rfl rfl ?_
                 refine GQ.pass (s := 32) rfl rfl rfl ?_
                 refine GQ.pass (s := 32) rfl rfl rfl ?_
                 refine GQ.stepG (s := 29) rfl rfl rfl (q_pure (p_pick_false rfl rfl)) ?_
                 refine GQ.step rfl (q_pure (p_pick_false rfl rfl)) ?_
                 refine GQ.step rfl (q_pure (p_move rfl)) ?_
                 refine GQ.stepG (s := 47) rfl rfl rfl (q_pure (p_move rfl)) ?_
                 refine GQ.stepG (s := 47) rfl rfl rfl (q_pure (p_move rfl)) ?_
                 refine GQ.stepG (s := 47) rfl rfl rfl (q_pure (p_indexL hA_x50 rfl rfl Tryz.underlying37 sz_61 (by omega) (by omega))) ?_
                 refine GQ.stepG (s := 47) rfl rfl rfl (q_pure (p_fieldAddr' fo_61_2 rfl)) ?_
                 refine GQ.stepG (s := 47) rfl rfl rfl (q_mem (m_loadPN (i := 0) rfl rfl ag_30 (vs := [_, _]) sz_30 ⟨rfl, rfl, trivial⟩)) ?_
                 refine GQ.stepG (s := 47) rfl rfl rfl (q_call fn_30 rfl (js := []) rfl (by exact rres_ct _ _ _ _)) ?_
                 refine GQ.stepG (s := 47) rfl rfl rfl (q_pure (p_neq rfl rfl)) ?_
                 refine GQ.step rfl (q_pure (p_pick_false rfl rfl)) ?_
                 refine GQ.nil (?_ : GC _ _ _ _)
                 refine GC.cond rfl (fun h12 => ?_) (fun h12 => ?_)
                 ·try simp only [tst_, resE_iff] at h12
                  first
                  | (exfalso; omega)
                  |(skip
                    refine GC.seq' ?_
                    refine GC.region ?_
                    refine GL.pure rfl (p_assign rfl) ?_
                    refine GL.nil (?_ : GC _ _ _ _)
                    refine GC.ret ?_
                    refine fun a w h => Fin.back (rs := [.tmp 2]) (vs := [_]) (is := []) (js := []) rfl ⟨rfl, trivial⟩ rfl rfl ?_ h
                    clear h
                    refine ⟨?_, rfl, rfl⟩
                    (try simp only [show ∀ x : Nat, ((x + 1 : Nat) : Int) - 1 = x by omega] at *)
                    rw [rightF, he, incB_bad (by omega) (by first | exact .inl (by assumption) | exact .inr (.inl (by assumption)) | exact .inr (.inr (.inl (by assumption))) | exact .inr (.inr (.inr (by simp only [lastC]; omega))))]
                    rw [Bool.and_false]; rfl)
                 ·try simp only [tst_, resE_iff] at h12
                  first
                  | (exfalso; omega)
                  |(skip
                    refine GC.skip (?_ : GC _ _ _ _)
                    refine GC.region ?_
                    refine GL.pure rfl (p_move rfl) ?_
                    refine GL.pure rfl (p_add rfl rfl (w64 (by omega) (by omega))) ?_
                    refine GL.pure rfl (p_assign rfl) ?_
                    refine GL.nil ?_
                    (try simp only [show ∀ x : Nat, ((x + 1 : Nat) : Int) - 1 = x by omega] at *)
                    exact fun a w h => ⟨(_ + 1), (by omega), ⟨by omega, by rw [he, incB_ok (by omega) (by assumption) (by assumption) (by assumption) (by first | (have := isNum_pos (by assumption : isNum (gt l ((0 : Nat) : Int)).client = true); simp only [lastC]; omega) | (simp only [lastC]; omega))]; rfl⟩, h.cut (is := []) (js := [10]) ⟨rfl, rfl, trivial⟩ rfl rfl⟩)))))
    ·try simp only [tst_, resE_iff] at h2
     first
     | (exfalso; omega)
     |(skip
       refine GC.exit (?_ : GC _ _ _ _)
       refine GC.seq' ?_
       refine GC.region ?_
       refine GL.pure rfl (p_assign rfl) ?_
       refine GL.nil (?_ : GC _ _ _ _)
       refine GC.ret ?_
       refine fun a w h => Fin.back (rs := [.tmp 2]) (vs := [_]) (is := []) (js := []) rfl ⟨rfl, trivial⟩ rfl rfl ?_ h
       clear h
       exact ⟨by rw [rightF, he, List.drop_of_length_le (by omega), decide_eq_true (by omega)]; rfl, rfl, rfl⟩))
def findR (L : List Row) (c : Int) : Option Row := L.find? fun r => decide (r.client = c)
def raskF (L : List Row) (c s : Int) : Int × Res × Int :=
  if isNum c = false ∨ isNum s = false then (0, rz, 5)
  else match findR L c with
    | none => if (L.length : Int) ≥ 64 then (4, rz, 0) else (1, rz, 0)
    | some r => if s > r.serial then (1, rz, 0) else if s = r.serial then (2, r.result, 0) else (3, rz, 0)
end Go.Proofs.YtdhdmbmknpjhbaaGreat
