/- Texts of this claim, in one: what the law leans on (part 3). -/
import Derived.Test.YtdhdmbmknpjhbaaGreatN2
set_option linter.unusedVariables false
set_option linter.unusedSimpArgs false
set_option maxRecDepth 100000
namespace Go.Proofs.YtdhdmbmknpjhbaaGreat
open Go Go.Sx Go.Proofs
theorem rsen_ct (e f : Entry) (A : Option Addr) (cp : Nat) (B : Option Addr) (cq : Nat) (C : Option Addr) (cr : Nat) (A' : Option Addr) (cp' : Nat) (B' : Option Addr) (cq' : Nat) (C' : Option Addr) (cr' : Nat) (hl : e.grp.members.length ≤ 140737488355328) : Ct Tryz.prog 75 [entV e A cp B cq C cr, entV f A' cp' B' cq' C' cr'] [] (entQ e A B C ++ entQ f A' B' C') (fun u G Q => u = .bool (decide (e = f)) ∧ G = [] ∧ Q = []) := by
 refine Ct.intro Tryz.func75 rfl rfl rfl (fun c hc => ?_)
 refine GC.sr_ ?_; refine GL.step rfl (t_box rfl rfl rfl) (GL.ex fun b_t2 => ?_); refine GL.step rfl (t_box rfl rfl rfl) (GL.ex fun b_t3 => ?_); refine GL.as_ rfl rfl ?_; refine GL.nl_ ?_; refine GC.sr_ ?_; refine GL.pure rfl (p_fieldAddr fo_64_0 rfl) ?_
 refine GL.step rfl (t_mem rfl (m_load (i := 1) rfl rfl ag_62 rfl)) ?_; refine GL.pure rfl (p_fieldAddr fo_64_0 rfl) ?_; refine GL.step rfl (t_mem rfl (m_load (i := 0) rfl rfl ag_62 rfl)) ?_; refine GL.pure rfl (p_eql rfl rfl) ?_
 refine GL.mv_ rfl rfl ?_; refine GL.split (i := 10) rfl (fun h1 => ?_) (fun h1 => ?_)
 ·try simp only [tst_] at h1
  refine GL.pureG (s := 10) rfl rfl rfl (p_fieldAddr fo_64_1 rfl) ?_; refine GL.stepG rfl (s := 10) rfl rfl (t_mem rfl (m_load (i := 1) rfl rfl ag_3 rfl)) ?_; refine GL.pureG (s := 10) rfl rfl rfl (p_fieldAddr fo_64_1 rfl) ?_
  refine GL.stepG rfl (s := 10) rfl rfl (t_mem rfl (m_load (i := 0) rfl rfl ag_3 rfl)) ?_; refine GL.pureG (s := 10) rfl rfl rfl (p_eql rfl rfl) ?_; refine GL.pure rfl (p_pick_true rfl rfl) ?_; refine GL.mv_ rfl rfl ?_; refine GL.split (i := 17) rfl (fun h2 => ?_) (fun h2 => ?_)
  ·try simp only [tst_] at h2
   refine GL.pureG (s := 17) rfl rfl rfl (p_fieldAddr fo_64_2 rfl) ?_; refine GL.stepG rfl (s := 17) rfl rfl (t_mem rfl (m_load (i := 1) rfl rfl ag_3 rfl)) ?_; refine GL.pureG (s := 17) rfl rfl rfl (p_fieldAddr fo_64_2 rfl) ?_
   refine GL.stepG rfl (s := 17) rfl rfl (t_mem rfl (m_load (i := 0) rfl rfl ag_3 rfl)) ?_; refine GL.pureG (s := 17) rfl rfl rfl (p_eql rfl rfl) ?_; refine GL.pure rfl (p_pick_true rfl rfl) ?_; refine GL.mv_ rfl rfl ?_; refine GL.split (i := 24) rfl (fun h3 => ?_) (fun h3 => ?_)
   ·try simp only [tst_] at h3
    refine GL.pureG (s := 24) rfl rfl rfl (p_fieldAddr fo_64_3 rfl) ?_; refine GL.stepG rfl (s := 24) rfl rfl (t_mem rfl (m_load (i := 1) rfl rfl ag_3 rfl)) ?_; refine GL.pureG (s := 24) rfl rfl rfl (p_fieldAddr fo_64_3 rfl) ?_
    refine GL.stepG rfl (s := 24) rfl rfl (t_mem rfl (m_load (i := 0) rfl rfl ag_3 rfl)) ?_; refine GL.pureG (s := 24) rfl rfl rfl (p_eql rfl rfl) ?_; refine GL.pure rfl (p_pick_true rfl rfl) ?_; refine GL.mv_ rfl rfl ?_
    refine GL.split (i := 31) rfl (fun h4 => ?_) (fun h4 => ?_)
    ·try simp only [tst_] at h4
     refine GL.pureG (s := 31) rfl rfl rfl (p_fieldAddr fo_64_4 rfl) ?_; refine GL.stepG rfl (s := 31) rfl rfl (t_mem rfl (m_load (i := 1) rfl rfl ag_3 rfl)) ?_; refine GL.pureG (s := 31) rfl rfl rfl (p_fieldAddr fo_64_4 rfl) ?_
     refine GL.stepG rfl (s := 31) rfl rfl (t_mem rfl (m_load (i := 0) rfl rfl ag_3 rfl)) ?_; refine GL.pureG (s := 31) rfl rfl rfl (p_eql rfl rfl) ?_; refine GL.pure rfl (p_pick_true rfl rfl) ?_; refine GL.mv_ rfl rfl ?_
     refine GL.split (i := 38) rfl (fun h5 => ?_) (fun h5 => ?_)
     ·try simp only [tst_] at h5
      refine GL.pureG (s := 38) rfl rfl rfl (p_fieldAddr fo_64_5 rfl) ?_; refine GL.stepG rfl (s := 38) rfl rfl (t_mem rfl (m_loadN (i := 1) rfl rfl ag_27 (vs := [_, _, _, _, _]) sz_27 ⟨rfl, rfl, rfl, rfl, rfl, trivial⟩)) ?_
      refine GL.pureG (s := 38) rfl rfl rfl (p_fieldAddr fo_64_5 rfl) ?_; refine GL.stepG rfl (s := 38) rfl rfl (t_mem rfl (m_loadN (i := 0) rfl rfl ag_27 (vs := [_, _, _, _, _]) sz_27 ⟨rfl, rfl, rfl, rfl, rfl, trivial⟩)) ?_
      refine GL.stepG rfl (s := 38) rfl rfl (t_call rfl fn_27 rfl (is := []) (js := [0, 1, 3, 4]) rfl rfl (by exact rbsame_ct e.op f.op _ _ _ _ _ _ _ _)) (GL.ret ?_)
      rintro _ _ _ ⟨rfl, rfl, rfl⟩
      refine GL.pure rfl (p_pick_true rfl rfl) ?_; refine GL.mv_ rfl rfl ?_; refine GL.split (i := 45) rfl (fun h6 => ?_) (fun h6 => ?_)
      ·try simp only [tst_] at h6
       refine GL.pureG (s := 45) rfl rfl rfl (p_fieldAddr fo_64_6 rfl) ?_; refine GL.stepG rfl (s := 45) rfl rfl (t_mem rfl (m_loadN (i := 1) rfl rfl ag_33 (vs := [_, _]) sz_33 ⟨rfl, rfl, trivial⟩)) ?_; refine GL.pureG (s := 45) rfl rfl rfl (p_fieldAddr fo_64_6 rfl) ?_
       refine GL.stepG rfl (s := 45) rfl rfl (t_mem rfl (m_loadN (i := 0) rfl rfl ag_33 (vs := [_, _]) sz_33 ⟨rfl, rfl, trivial⟩)) ?_; refine GL.stepG rfl (s := 45) rfl rfl (t_call rfl fn_42 rfl (is := []) (js := [2, 5]) rfl rfl (by exact rgsg_ct e.grp f.grp _ _ _ _ (by first | assumption | omega))) (GL.ret ?_)
       rintro _ _ _ ⟨rfl, rfl, rfl⟩
       refine GL.pure rfl (p_pick_true rfl rfl) ?_; refine GL.as_ rfl rfl ?_; refine GL.nl_ ?_; refine GC.ret ?_
       refine fun a w h => Fin.back (rs := [.tmp 4]) (vs := [_]) (is := []) (js := []) rfl ⟨rfl, trivial⟩ rfl rfl ?_ h
       clear h
       refine ⟨congrArg Value.bool ?_, rfl, rfl⟩
       simp [en_ext, *]
      ·try simp only [tst_] at h6
       iterate 5 refine GL.pass (s := 45) rfl rfl rfl ?_
       refine GL.pure rfl (p_pick_false rfl rfl) ?_; refine GL.as_ rfl rfl ?_; refine GL.nl_ ?_; refine GC.ret ?_
       refine fun a w h => Fin.back (rs := [.tmp 4]) (vs := [_]) (is := []) (js := []) rfl ⟨rfl, trivial⟩ rfl rfl ?_ h
       clear h
       refine ⟨congrArg Value.bool ?_, rfl, rfl⟩
       simp [en_ext, *]
     ·try simp only [tst_] at h5
      iterate 5 refine GL.pass (s := 38) rfl rfl rfl ?_
      refine GL.pure rfl (p_pick_false rfl rfl) ?_; refine GL.mv_ rfl rfl ?_
      iterate 5 refine GL.pass (s := 45) rfl rfl rfl ?_
      refine GL.pure rfl (p_pick_false rfl rfl) ?_; refine GL.as_ rfl rfl ?_; refine GL.nl_ ?_; refine GC.ret ?_
      refine fun a w h => Fin.back (rs := [.tmp 4]) (vs := [_]) (is := []) (js := []) rfl ⟨rfl, trivial⟩ rfl rfl ?_ h
      clear h
      refine ⟨congrArg Value.bool ?_, rfl, rfl⟩
      simp [en_ext, *]
    ·try simp only [tst_] at h4
     iterate 5 refine GL.pass (s := 31) rfl rfl rfl ?_
     refine GL.pure rfl (p_pick_false rfl rfl) ?_; refine GL.mv_ rfl rfl ?_
     iterate 5 refine GL.pass (s := 38) rfl rfl rfl ?_
     refine GL.pure rfl (p_pick_false rfl rfl) ?_; refine GL.mv_ rfl rfl ?_
     iterate 5 refine GL.pass (s := 45) rfl rfl rfl ?_
     refine GL.pure rfl (p_pick_false rfl rfl) ?_; refine GL.as_ rfl rfl ?_; refine GL.nl_ ?_; refine GC.ret ?_
     refine fun a w h => Fin.back (rs := [.tmp 4]) (vs := [_]) (is := []) (js := []) rfl ⟨rfl, trivial⟩ rfl rfl ?_ h
     clear h
     refine ⟨congrArg Value.bool ?_, rfl, rfl⟩
     simp [en_ext, *]
   ·try simp only [tst_] at h3
    iterate 5 refine GL.pass (s := 24) rfl rfl rfl ?_
    refine GL.pure rfl (p_pick_false rfl rfl) ?_; refine GL.mv_ rfl rfl ?_
    iterate 5 refine GL.pass (s := 31) rfl rfl rfl ?_
    refine GL.pure rfl (p_pick_false rfl rfl) ?_; refine GL.mv_ rfl rfl ?_
    iterate 5 refine GL.pass (s := 38) rfl rfl rfl ?_
    refine GL.pure rfl (p_pick_false rfl rfl) ?_; refine GL.mv_ rfl rfl ?_
    iterate 5 refine GL.pass (s := 45) rfl rfl rfl ?_
    refine GL.pure rfl (p_pick_false rfl rfl) ?_; refine GL.as_ rfl rfl ?_; refine GL.nl_ ?_; refine GC.ret ?_
    refine fun a w h => Fin.back (rs := [.tmp 4]) (vs := [_]) (is := []) (js := []) rfl ⟨rfl, trivial⟩ rfl rfl ?_ h
    clear h
    refine ⟨congrArg Value.bool ?_, rfl, rfl⟩
    simp [en_ext, *]
  ·try simp only [tst_] at h2
   iterate 5 refine GL.pass (s := 17) rfl rfl rfl ?_
   refine GL.pure rfl (p_pick_false rfl rfl) ?_; refine GL.mv_ rfl rfl ?_
   iterate 5 refine GL.pass (s := 24) rfl rfl rfl ?_
   refine GL.pure rfl (p_pick_false rfl rfl) ?_; refine GL.mv_ rfl rfl ?_
   iterate 5 refine GL.pass (s := 31) rfl rfl rfl ?_
   refine GL.pure rfl (p_pick_false rfl rfl) ?_; refine GL.mv_ rfl rfl ?_
   iterate 5 refine GL.pass (s := 38) rfl rfl rfl ?_
   refine GL.pure rfl (p_pick_false rfl rfl) ?_; refine GL.mv_ rfl rfl ?_
   iterate 5 refine GL.pass (s := 45) rfl rfl rfl ?_
   refine GL.pure rfl (p_pick_false rfl rfl) ?_; refine GL.as_ rfl rfl ?_; refine GL.nl_ ?_; refine GC.ret ?_
   refine fun a w h => Fin.back (rs := [.tmp 4]) (vs := [_]) (is := []) (js := []) rfl ⟨rfl, trivial⟩ rfl rfl ?_ h
   clear h
   refine ⟨congrArg Value.bool ?_, rfl, rfl⟩
   simp [en_ext, *]
 ·try simp only [tst_] at h1
  iterate 5 refine GL.pass (s := 10) rfl rfl rfl ?_
  refine GL.pure rfl (p_pick_false rfl rfl) ?_; refine GL.mv_ rfl rfl ?_
  iterate 5 refine GL.pass (s := 17) rfl rfl rfl ?_
  refine GL.pure rfl (p_pick_false rfl rfl) ?_; refine GL.mv_ rfl rfl ?_
  iterate 5 refine GL.pass (s := 24) rfl rfl rfl ?_
  refine GL.pure rfl (p_pick_false rfl rfl) ?_; refine GL.mv_ rfl rfl ?_
  iterate 5 refine GL.pass (s := 31) rfl rfl rfl ?_
  refine GL.pure rfl (p_pick_false rfl rfl) ?_; refine GL.mv_ rfl rfl ?_
  iterate 5 refine GL.pass (s := 38) rfl rfl rfl ?_
  refine GL.pure rfl (p_pick_false rfl rfl) ?_; refine GL.mv_ rfl rfl ?_
  iterate 5 refine GL.pass (s := 45) rfl rfl rfl ?_
  refine GL.pure rfl (p_pick_false rfl rfl) ?_; refine GL.as_ rfl rfl ?_; refine GL.nl_ ?_; refine GC.ret ?_
  refine fun a w h => Fin.back (rs := [.tmp 4]) (vs := [_]) (is := []) (js := []) rfl ⟨rfl, trivial⟩ rfl rfl ?_ h
  clear h
  refine ⟨congrArg Value.bool ?_, rfl, rfl⟩
  simp [en_ext, *]
theorem gt_elem {α : Type} [Inhabited α] {l : List α} {k : Nat} (h : k < l.length) : gt l (k : Int) ∈ l := by
  have := gt_ok (xs := l) (i := (k : Int)) (by omega) (by omega)
  exact List.mem_of_getElem? this
theorem eqen_ct (A : Option Addr) (a_ : List Entry) (cp : Nat) (B : Option Addr) (b_ : List Entry) (cq : Nat) (hl : a_.length ≤ 140737488355328) (hm : ∀ e ∈ a_, EntLen e) : Ct Tryz.prog 39 [.slice A a_.length cp, .slice B b_.length cq, .func (.func 40) #[] #[]] [] [Pers.row kEntry A a_, Pers.row kEntry B b_] (fun u G Q => u = .bool (decide (a_ = b_)) ∧ G = [] ∧ Q = []) := by
 refine Ct.intro Tryz.func39 rfl rfl rfl (fun c hc => ?_)
 refine GC.sr_ ?_; refine GL.as_ rfl rfl ?_; refine GL.nl_ ?_; refine GC.seq' ?_; refine GC.sr_ ?_; refine GL.mv_ rfl rfl ?_; refine GL.pure rfl (p_len Tryz.underlying40 rfl) ?_; refine GL.mv_ rfl rfl ?_; refine GL.pure rfl (p_len Tryz.underlying40 rfl) ?_
 refine GL.pure rfl (p_neq rfl rfl) ?_; refine GL.nl_ ?_; refine GC.cond rfl (fun h1 => ?_) (fun h1 => ?_)
 ·try simp only [tst_] at h1
  first
  | (exfalso; omega)
  |(skip
    refine GC.sr_ ?_; refine GL.as_ rfl rfl ?_; refine GL.nl_ ?_; refine GC.ret ?_
    refine fun a w h => Fin.back (rs := [.tmp 6]) (vs := [_]) (is := []) (js := []) rfl ⟨rfl, trivial⟩ rfl rfl ?_ h
    clear h
    exact ⟨congrArg Value.bool (decide_eq_false fun e => by subst e; omega).symm, rfl, rfl⟩)
 ·try simp only [tst_] at h1
  first
  | (exfalso; omega)
  |(skip
    refine GC.skip (?_ : GC _ _ _ _)
    refine GC.seq' ?_; refine GC.sr_ ?_; refine GL.mv_ rfl rfl ?_; refine GL.pure rfl (p_len Tryz.underlying40 rfl) ?_; refine GL.mv_ rfl rfl ?_; refine GL.nl_ ?_; refine GC.block ?_; refine GC.loopK1 (ks := [1, 2, 15, 16]) (is := []) (js := [0, 1]) (fun (k : Nat) => k ≤ a_.length ∧ ∀ j : Nat, j < k → gt a_ (j : Int) = gt b_ (j : Int)) (fun (k : Nat) => [(17, .int .i64 (k : Int))]) (fun (k : Nat) => []) (fun (k : Nat) => []) (fun (k : Nat) => a_.length - k) (0) rfl rfl rfl (fun a w h => ⟨⟨by omega, fun j hj => by omega⟩, h.cutK (is := []) (js := [0, 1]) (ks := [1, 2, 15, 16]) ⟨rfl, trivial⟩ rfl rfl rfl⟩) ?_
    intro k hk
    try dsimp only [List.cons_append, List.nil_append] at hk ⊢
    obtain ⟨hk, he⟩ := hk
    refine GC.sr_ ?_; refine GL.pure rfl (p_lss rfl rfl) ?_; refine GL.nl_ ?_; refine GC.seq' ?_; refine GC.cond rfl (fun h2 => ?_) (fun h2 => ?_)
    ·try simp only [tst_] at h2
     first
     | (exfalso; omega)
     |(skip
       refine GC.skip (?_ : GC _ _ _ _)
       refine GC.seq' ?_; refine GC.block ?_; refine GC.sr_ ?_; refine GL.mv_ rfl rfl ?_; refine GL.step rfl (t_index (i := 0) rfl rfl rfl rfl Tryz.underlying40 sz_64 (by omega) (gt_ok (by omega) (by omega))) (GL.ex fun p_x20 => GL.ex fun r_x20 => GL.and fun ok_x20 => ?_)
       rcases r_x20 with ⟨_, ⟨_, ⟨_, ⟨_, ⟨_, ⟨⟨_, ⟨_, ⟨_, ⟨⟨Ax20_0, cpx20_0⟩, ⟨Ax20_1, cpx20_1⟩⟩⟩⟩⟩, ⟨_, ⟨Ax20_2, cpx20_2⟩⟩⟩⟩⟩⟩⟩⟩
       refine GL.step rfl (t_mem rfl (m_loadPN (i := 0) rfl rfl ag_64 (vs := [_, _, _, _, _, _, _, _, _, _, _, _]) sz_64 ⟨rfl, rfl, rfl, rfl, rfl, rfl, rfl, rfl, rfl, rfl, rfl, rfl, trivial⟩)) ?_; refine GL.step rfl (t_alloc rfl ze_64) (GL.ex fun b_t8 => ?_)
       refine GL.as_ rfl rfl ?_; refine GL.step rfl (t_storeN (i := 0) rfl rfl rfl sz_64 rfl rfl rfl) ?_; refine GL.nl_ ?_; refine GC.sr_ ?_
       iterate 2 refine GL.mv_ rfl rfl ?_
       refine GL.step rfl (t_index (i := 5) rfl rfl rfl rfl Tryz.underlying40 sz_64 (by omega) (gt_ok (by omega) (by omega))) (GL.ex fun p_x24 => GL.ex fun r_x24 => GL.and fun ok_x24 => ?_)
       rcases r_x24 with ⟨_, ⟨_, ⟨_, ⟨_, ⟨_, ⟨⟨_, ⟨_, ⟨_, ⟨⟨Ax24_0, cpx24_0⟩, ⟨Ax24_1, cpx24_1⟩⟩⟩⟩⟩, ⟨_, ⟨Ax24_2, cpx24_2⟩⟩⟩⟩⟩⟩⟩⟩
       refine GL.step rfl (t_mem rfl (m_loadPN (i := 0) rfl rfl ag_64 (vs := [_, _, _, _, _, _, _, _, _, _, _, _]) sz_64 ⟨rfl, rfl, rfl, rfl, rfl, rfl, rfl, rfl, rfl, rfl, rfl, rfl, trivial⟩)) ?_; refine GL.step rfl (t_alloc rfl ze_64) (GL.ex fun b_t9 => ?_)
       refine GL.step rfl (t_storeN (i := 0) rfl rfl rfl sz_64 rfl rfl rfl) ?_; refine GL.nl_ ?_; refine GC.sr_ ?_; refine GL.mv_ rfl rfl ?_; refine GL.step rfl (t_mem rfl (m_loadN (i := 1) rfl rfl ag_64 (vs := [_, _, _, _, _, _, _, _, _, _, _, _]) sz_64 ⟨rfl, rfl, rfl, rfl, rfl, rfl, rfl, rfl, rfl, rfl, rfl, rfl, trivial⟩)) ?_
       refine GL.step rfl (t_mem rfl (m_loadN (i := 0) rfl rfl ag_64 (vs := [_, _, _, _, _, _, _, _, _, _, _, _]) sz_64 ⟨rfl, rfl, rfl, rfl, rfl, rfl, rfl, rfl, rfl, rfl, rfl, rfl, trivial⟩)) ?_; refine GL.step rfl (t_callv rfl fn_40 rfl rfl (is := []) (js := [5, 6, 7, 1, 2, 3]) rfl rfl (by exact msen_ct (gt a_ (k : Int)) (gt b_ (k : Int)) _ _ _ _ _ _ _ _ _ _ _ _ (by have := (hm _ (gt_elem (l := a_) (k := k) (by omega))).m; omega))) (GL.ret ?_)
       rintro _ _ _ ⟨rfl, rfl, rfl⟩
       refine GL.pure rfl (p_not rfl) ?_; refine GL.nl_ ?_; refine GC.cond rfl (fun h3 => ?_) (fun h3 => ?_)
       ·try simp only [tst_] at h3
        first
        | (exfalso; omega)
        |(skip
          refine GC.sr_ ?_; refine GL.as_ rfl rfl ?_; refine GL.nl_ ?_; refine GC.ret ?_
          refine fun a w h => Fin.back (rs := [.tmp 6]) (vs := [_]) (is := []) (js := []) rfl ⟨rfl, trivial⟩ rfl rfl ?_ h
          clear h
          exact ⟨congrArg Value.bool (decide_eq_false (gt_ne (k := (k : Int)) (by assumption))).symm, rfl, rfl⟩)
       ·try simp only [tst_] at h3
        first
        | (exfalso; omega)
        |(skip
          refine GC.skip (?_ : GC _ _ _ _)
          refine GC.region ?_; refine GL.pure rfl (p_add rfl rfl (w64 (by omega) (by omega))) ?_; refine GL.mv_ rfl rfl ?_; refine GL.nil ?_
          exact fun a w h => ⟨(k + 1), (by omega), ⟨by omega, fun j hj => (Nat.lt_succ_iff_lt_or_eq.1 hj).elim (he j) (fun e => by subst e; assumption)⟩, h.cut (is := []) (js := [8, 9]) ⟨rfl, rfl, rfl, rfl, rfl, trivial⟩ rfl rfl⟩))
    ·try simp only [tst_] at h2
     first
     | (exfalso; omega)
     |(skip
       refine GC.exit (?_ : GC _ _ _ _)
       refine GC.sr_ ?_; refine GL.as_ rfl rfl ?_; refine GL.nl_ ?_; refine GC.ret ?_
       refine fun a w h => Fin.back (rs := [.tmp 6]) (vs := [_]) (is := []) (js := []) rfl ⟨rfl, trivial⟩ rfl rfl ?_ h
       clear h
       exact ⟨congrArg Value.bool (decide_eq_true (list_ext_gt (by omega) fun j hj => he j (by omega))).symm, rfl, rfl⟩))
theorem rens_ct (A : Option Addr) (a_ : List Entry) (cp : Nat) (B : Option Addr) (b_ : List Entry) (cq : Nat) (hl : a_.length ≤ 140737488355328) (hm : ∀ e ∈ a_, EntLen e) : Ct Tryz.prog 44 [.slice A a_.length cp, .slice B b_.length cq] [] [Pers.row kEntry A a_, Pers.row kEntry B b_] (fun u G Q => u = .bool (decide (a_ = b_)) ∧ G = [] ∧ Q = []) := by
 refine Ct.intro Tryz.func44 rfl rfl rfl (fun c hc => ?_)
 refine GC.sr_ ?_; refine GL.as_ rfl rfl ?_; refine GL.nl_ ?_; refine GC.seq' ?_; refine GC.sr_ ?_; refine GL.mv_ rfl rfl ?_; refine GL.pure rfl (p_len Tryz.underlying40 rfl) ?_; refine GL.mv_ rfl rfl ?_; refine GL.pure rfl (p_len Tryz.underlying40 rfl) ?_
 refine GL.pure rfl (p_neq rfl rfl) ?_; refine GL.nl_ ?_; refine GC.cond rfl (fun h1 => ?_) (fun h1 => ?_)
 ·try simp only [tst_] at h1
  first
  | (exfalso; omega)
  |(skip
    refine GC.sr_ ?_; refine GL.as_ rfl rfl ?_; refine GL.nl_ ?_; refine GC.ret ?_
    refine fun a w h => Fin.back (rs := [.tmp 4]) (vs := [_]) (is := []) (js := []) rfl ⟨rfl, trivial⟩ rfl rfl ?_ h
    clear h
    exact ⟨congrArg Value.bool (decide_eq_false fun e => by subst e; omega).symm, rfl, rfl⟩)
 ·try simp only [tst_] at h1
  first
  | (exfalso; omega)
  |(skip
    refine GC.skip (?_ : GC _ _ _ _)
    refine GC.seq' ?_; refine GC.sr_ ?_; refine GL.as_ rfl rfl ?_; refine GL.nl_ ?_; refine GC.block ?_; refine GC.loopK1 (ks := [0, 1]) (is := []) (js := [0, 1]) (fun (k : Nat) => k ≤ a_.length ∧ ∀ j : Nat, j < k → gt a_ (j : Int) = gt b_ (j : Int)) (fun (k : Nat) => [(5, .int .i64 (k : Int))]) (fun (k : Nat) => []) (fun (k : Nat) => []) (fun (k : Nat) => a_.length - k) (0) rfl rfl rfl (fun a w h => ⟨⟨by omega, fun j hj => by omega⟩, h.cutK (is := []) (js := [0, 1]) (ks := [0, 1]) ⟨rfl, trivial⟩ rfl rfl rfl⟩) ?_
    intro k hk
    try dsimp only [List.cons_append, List.nil_append] at hk ⊢
    obtain ⟨hk, he⟩ := hk
    refine GC.seq' ?_; refine GC.sr_ ?_
    iterate 2 refine GL.mv_ rfl rfl ?_
    refine GL.pure rfl (p_len Tryz.underlying40 rfl) ?_; refine GL.pure rfl (p_lss rfl rfl) ?_; refine GL.nl_ ?_; refine GC.cond rfl (fun h2 => ?_) (fun h2 => ?_)
    ·try simp only [tst_] at h2
     first
     | (exfalso; omega)
     |(skip
       refine GC.skip (?_ : GC _ _ _ _)
       refine GC.seq' ?_; refine GC.block ?_; refine GC.seq' ?_; refine GC.layQ (y := .tmp 5) (j := 0) rfl rfl (by omega) (gt_ok (by omega) (by omega)) (fun p_x19 r_x19 hA_x19 ok_x19 => ?_)
       rcases r_x19 with ⟨_, ⟨_, ⟨_, ⟨_, ⟨_, ⟨⟨_, ⟨_, ⟨_, ⟨⟨Ax19_0, cpx19_0⟩, ⟨Ax19_1, cpx19_1⟩⟩⟩⟩⟩, ⟨_, ⟨Ax19_2, cpx19_2⟩⟩⟩⟩⟩⟩⟩⟩
       refine GC.layQ (y := .tmp 5) (j := 5) rfl rfl (by omega) (gt_ok (by omega) (by omega)) (fun p_x23 r_x23 hA_x23 ok_x23 => ?_)
       rcases r_x23 with ⟨_, ⟨_, ⟨_, ⟨_, ⟨_, ⟨⟨_, ⟨_, ⟨_, ⟨⟨Ax23_0, cpx23_0⟩, ⟨Ax23_1, cpx23_1⟩⟩⟩⟩⟩, ⟨_, ⟨Ax23_2, cpx23_2⟩⟩⟩⟩⟩⟩⟩⟩
       refine GC.regionQ wide_ (by kernel_rfl) ?_
       iterate 2 refine GQ.step rfl (q_pure (p_move rfl)) ?_
       refine GQ.step rfl (q_pure (p_indexL hA_x19 rfl rfl Tryz.underlying40 sz_64 (by omega) (by omega))) ?_; refine GQ.step rfl (q_mem (m_loadPN (i := 4) rfl rfl ag_64 (vs := [_, _, _, _, _, _, _, _, _, _, _, _]) sz_64 ⟨rfl, rfl, rfl, rfl, rfl, rfl, rfl, rfl, rfl, rfl, rfl, rfl, trivial⟩)) ?_
       iterate 2 refine GQ.step rfl (q_pure (p_move rfl)) ?_
       refine GQ.step rfl (q_pure (p_indexL hA_x23 rfl rfl Tryz.underlying40 sz_64 (by omega) (by omega))) ?_; refine GQ.step rfl (q_mem (m_loadPN (i := 0) rfl rfl ag_64 (vs := [_, _, _, _, _, _, _, _, _, _, _, _]) sz_64 ⟨rfl, rfl, rfl, rfl, rfl, rfl, rfl, rfl, rfl, rfl, rfl, rfl, trivial⟩)) ?_
       refine GQ.step rfl (q_call fn_75 rfl (js := [5, 6, 7, 1, 2, 3]) rfl (by exact rsen_ct (gt a_ (k : Int)) (gt b_ (k : Int)) _ _ _ _ _ _ _ _ _ _ _ _ (by have := (hm _ (gt_elem (l := a_) (k := k) (by omega))).m; omega))) ?_
       refine GQ.step rfl (q_pure (p_not rfl)) ?_
       refine GQ.nil (?_ : GC _ _ _ _)
       refine GC.cond rfl (fun h3 => ?_) (fun h3 => ?_)
       ·try simp only [tst_] at h3
        first
        | (exfalso; omega)
        |(skip
          refine GC.sr_ ?_; refine GL.as_ rfl rfl ?_; refine GL.nl_ ?_; refine GC.ret ?_
          refine fun a w h => Fin.back (rs := [.tmp 4]) (vs := [_]) (is := []) (js := []) rfl ⟨rfl, trivial⟩ rfl rfl ?_ h
          clear h
          exact ⟨congrArg Value.bool (decide_eq_false (gt_ne (k := (k : Int)) (by assumption))).symm, rfl, rfl⟩)
       ·try simp only [tst_] at h3
        first
        | (exfalso; omega)
        |(skip
          refine GC.skip (?_ : GC _ _ _ _)
          refine GC.region ?_; refine GL.mv_ rfl rfl ?_; refine GL.pure rfl (p_add rfl rfl (w64 (by omega) (by omega))) ?_; refine GL.as_ rfl rfl ?_; refine GL.nil ?_
          exact fun a w h => ⟨(k + 1), (by omega), ⟨by omega, fun j hj => (Nat.lt_succ_iff_lt_or_eq.1 hj).elim (he j) (fun e => by subst e; assumption)⟩, h.cut (is := []) (js := [8, 9]) ⟨rfl, rfl, rfl, trivial⟩ rfl rfl⟩))
    ·try simp only [tst_] at h2
     first
     | (exfalso; omega)
     |(skip
       refine GC.exit (?_ : GC _ _ _ _)
       refine GC.sr_ ?_; refine GL.as_ rfl rfl ?_; refine GL.nl_ ?_; refine GC.ret ?_
       refine fun a w h => Fin.back (rs := [.tmp 4]) (vs := [_]) (is := []) (js := []) rfl ⟨rfl, trivial⟩ rfl rfl ?_ h
       clear h
       exact ⟨congrArg Value.bool (decide_eq_true (list_ext_gt (by omega) fun j hj => he j (by omega))).symm, rfl, rfl⟩))
end Go.Proofs.YtdhdmbmknpjhbaaGreat
namespace Go.Proofs.YtdhdmbmknpjhbaaGreat
open Go Go.Sx Go.Proofs
theorem run_eqShape (w : World) (a b c d : Int) : (Op.equalIn 10000 35 (.agg #[.int .i64 a, .int .i64 b]) (.agg #[.int .i64 c, .int .i64 d])).run Tryz.prog w = .ok (decide (a = c) && decide (b = d)) w := by
  have h1 : Tryz.prog.fieldsOf 35 = (match Tryz.prog.underlying 35 with | some (.struct fs) => fs | _ => #[]) := rfl
  rw [run_equalIn_agg w 9999 _ _ _ (by rw [h1, Tryz.underlying35]) (by kernel_rfl), h1, Tryz.underlying35]
  have p1 : ∀ (l : List Value) (v : Value) (o : Nat) (w : World), nth l o = some v → (part 3 l.toArray o).run Tryz.prog w = .ok v w := fun l v o w h => part_one ag_3 h w
  have e0 : ∀ w, (part 3 #[.int .i64 a, .int .i64 b] 0).run Tryz.prog w = .ok (.int .i64 a) w := fun w => p1 [_, _] _ 0 w rfl
  have e1 : ∀ w, (part 3 #[.int .i64 a, .int .i64 b] 1).run Tryz.prog w = .ok (.int .i64 b) w := fun w => p1 [_, _] _ 1 w rfl
  have e2 : ∀ w, (part 3 #[.int .i64 c, .int .i64 d] 0).run Tryz.prog w = .ok (.int .i64 c) w := fun w => p1 [_, _] _ 0 w rfl
  have e3 : ∀ w, (part 3 #[.int .i64 c, .int .i64 d] 1).run Tryz.prog w = .ok (.int .i64 d) w := fun w => p1 [_, _] _ 1 w rfl
  have q : ∀ (x y : Int) (w : World), (Op.equalIn 9999 3 (.int .i64 x) (.int .i64 y)).run Tryz.prog w = .ok (x == y) w := fun x y w => run_equalIn_int w 9998 _ _ _ _ _ Tryz.underlying3
  simp only [Op.eqFields, Sem.run_bind, Sem.run_ite, e0, e1, e2, e3, q, Result.andThen_ok]
  by_cases h : a = c <;> by_cases h' : b = d <;> subst_vars <;> simp [Sem.run_ite, e0, e1, e2, e3, q, Result.andThen, *]
end Go.Proofs.YtdhdmbmknpjhbaaGreat
namespace Go.Proofs.YtdhdmbmknpjhbaaGreat
open Go Go.Sx Go.Proofs
section
variable {n : Nat} {env : List (Nat × Value)} {dst : Nat} {ty : TypeId} {pos : String} {aft : Array Edge} {g : Option (Nat × Bool)} {x y : Operand} {u : TypeId}
theorem p_shapeEql {a b c d : Int} (hx : ev env x = some (shpV a b)) (hy : ev env y = some (shpV c d)) : Pv Tryz.prog n env ⟨some dst, .binOp .eql 35 x y u, ty, pos, aft, g⟩ (.bool (decide (a = c) && decide (b = d))) := fun act w he => by
  simp only [execOp, he.eval hx, he.eval hy, run_eqGuard_agg w _ _ _ _ _ _ (show Tryz.prog.eqGuardType Tryz.prog.depth 35 = false by kernel_rfl), Sem.run_bind, Result.andThen_ok, run_eql_struct, run_eqShape, Sem.run_pure]
end
end Go.Proofs.YtdhdmbmknpjhbaaGreat
namespace Go.Proofs.YtdhdmbmknpjhbaaGreat
open Go Go.Sx Go.Proofs
theorem mstt_ct (s t : Stt) (A : Option Addr) (cp : Nat) (B : Option Addr) (cq : Nat) (C : Option Addr) (cr : Nat) (A' : Option Addr) (cp' : Nat) (B' : Option Addr) (cq' : Nat) (C' : Option Addr) (cr' : Nat) (h1_ : s.pages.length ≤ 140737488355328) (h2_ : s.rows.length ≤ 140737488355328) (h3_ : s.grp.members.length ≤ 140737488355328) : Ct Tryz.prog 38 [sttV s A cp B cq C cr, sttV t A' cp' B' cq' C' cr'] [] (sttQ s A B C ++ sttQ t A' B' C') (fun u G Q => u = .bool (decide (s = t)) ∧ G = [] ∧ Q = []) := by
 refine Ct.intro Tryz.func38 rfl rfl rfl (fun c hc => ?_)
 refine GC.sr_ ?_; refine GL.step rfl (t_box rfl rfl rfl) (GL.ex fun b_t2 => ?_); refine GL.step rfl (t_box rfl rfl rfl) (GL.ex fun b_t3 => ?_); refine GL.as_ rfl rfl ?_; refine GL.nl_ ?_; refine GC.sr_ ?_; refine GL.pure rfl (p_fieldAddr fo_39_2 rfl) ?_
 refine GL.step rfl (t_mem rfl (m_load (i := 1) rfl rfl ag_36 rfl)) ?_; refine GL.pure rfl (p_fieldAddr fo_39_2 rfl) ?_; refine GL.step rfl (t_mem rfl (m_load (i := 0) rfl rfl ag_36 rfl)) ?_; refine GL.step rfl (t_call rfl fn_69 rfl (is := []) (js := [0, 3]) rfl rfl (by exact eqpg_ct _ s.pages _ _ t.pages _ (by first | assumption | omega))) (GL.ret ?_)
 rintro _ _ _ ⟨rfl, rfl, rfl⟩
 refine GL.as_ rfl rfl ?_; refine GL.nl_ ?_; refine GC.sr_ ?_
 iterate 2 refine GL.mv_ rfl rfl ?_
 refine GL.split (i := 12) rfl (fun h1 => ?_) (fun h1 => ?_)
 ·try simp only [tst_, Bool.and_eq_true, Bool.and_eq_false_iff] at h1
  refine GL.pureG (s := 12) rfl rfl rfl (p_fieldAddr fo_39_0 rfl) ?_; refine GL.stepG rfl (s := 12) rfl rfl (t_mem rfl (m_load (i := 1) rfl rfl ag_3 rfl)) ?_; refine GL.pureG (s := 12) rfl rfl rfl (p_fieldAddr fo_39_0 rfl) ?_
  refine GL.stepG rfl (s := 12) rfl rfl (t_mem rfl (m_load (i := 0) rfl rfl ag_3 rfl)) ?_; refine GL.pureG (s := 12) rfl rfl rfl (p_eql rfl rfl) ?_; refine GL.pure rfl (p_pick_true rfl rfl) ?_; refine GL.mv_ rfl rfl ?_; refine GL.split (i := 19) rfl (fun h2 => ?_) (fun h2 => ?_)
  ·try simp only [tst_, Bool.and_eq_true, Bool.and_eq_false_iff] at h2
   refine GL.pureG (s := 19) rfl rfl rfl (p_fieldAddr fo_39_1 rfl) ?_; refine GL.stepG rfl (s := 19) rfl rfl (t_mem rfl (m_loadN (i := 1) rfl rfl ag_35 (vs := [_, _]) sz_35 ⟨rfl, rfl, trivial⟩)) ?_; refine GL.pureG (s := 19) rfl rfl rfl (p_fieldAddr fo_39_1 rfl) ?_
   refine GL.stepG rfl (s := 19) rfl rfl (t_mem rfl (m_loadN (i := 0) rfl rfl ag_35 (vs := [_, _]) sz_35 ⟨rfl, rfl, trivial⟩)) ?_; refine GL.pureG (s := 19) rfl rfl rfl (p_shapeEql rfl rfl) ?_; refine GL.pure rfl (p_pick_true rfl rfl) ?_
   refine GL.mv_ rfl rfl ?_; refine GL.split (i := 26) rfl (fun h3 => ?_) (fun h3 => ?_)
   ·try simp only [tst_, Bool.and_eq_true, Bool.and_eq_false_iff] at h3
    refine GL.pureG (s := 26) rfl rfl rfl (p_fieldAddr fo_39_3 rfl) ?_; refine GL.stepG rfl (s := 26) rfl rfl (t_mem rfl (m_load (i := 1) rfl rfl ag_37 rfl)) ?_; refine GL.pureG (s := 26) rfl rfl rfl (p_fieldAddr fo_39_3 rfl) ?_
    refine GL.stepG rfl (s := 26) rfl rfl (t_mem rfl (m_load (i := 0) rfl rfl ag_37 rfl)) ?_; refine GL.stepG rfl (s := 26) rfl rfl (t_call rfl fn_71 rfl (is := []) (js := [1, 4]) rfl rfl (by exact tsame_ct _ s.rows _ _ t.rows _ (by first | assumption | omega))) (GL.ret ?_)
    rintro _ _ _ ⟨rfl, rfl, rfl⟩
    refine GL.pure rfl (p_pick_true rfl rfl) ?_; refine GL.mv_ rfl rfl ?_; refine GL.split (i := 33) rfl (fun h4 => ?_) (fun h4 => ?_)
    ·try simp only [tst_, Bool.and_eq_true, Bool.and_eq_false_iff] at h4
     refine GL.pureG (s := 33) rfl rfl rfl (p_fieldAddr fo_39_4 rfl) ?_; refine GL.stepG rfl (s := 33) rfl rfl (t_mem rfl (m_loadN (i := 1) rfl rfl ag_33 (vs := [_, _]) sz_33 ⟨rfl, rfl, trivial⟩)) ?_; refine GL.pureG (s := 33) rfl rfl rfl (p_fieldAddr fo_39_4 rfl) ?_
     refine GL.stepG rfl (s := 33) rfl rfl (t_mem rfl (m_loadN (i := 0) rfl rfl ag_33 (vs := [_, _]) sz_33 ⟨rfl, rfl, trivial⟩)) ?_; refine GL.stepG rfl (s := 33) rfl rfl (t_call rfl fn_72 rfl (is := []) (js := [2, 5]) rfl rfl (by exact msgr_ct s.grp t.grp _ _ _ _ (by first | assumption | omega))) (GL.ret ?_)
     rintro _ _ _ ⟨rfl, rfl, rfl⟩
     refine GL.pure rfl (p_pick_true rfl rfl) ?_; refine GL.as_ rfl rfl ?_; refine GL.nl_ ?_; refine GC.ret ?_
     refine fun a w h => Fin.back (rs := [.tmp 4]) (vs := [_]) (is := []) (js := []) rfl ⟨rfl, trivial⟩ rfl rfl ?_ h
     clear h
     refine ⟨congrArg Value.bool ?_, rfl, rfl⟩
     simp [st_ext, sh_ext, *]
     (try (intros; simp_all))
    ·try simp only [tst_, Bool.and_eq_true, Bool.and_eq_false_iff] at h4
     iterate 5 refine GL.pass (s := 33) rfl rfl rfl ?_
     refine GL.pure rfl (p_pick_false rfl rfl) ?_; refine GL.as_ rfl rfl ?_; refine GL.nl_ ?_; refine GC.ret ?_
     refine fun a w h => Fin.back (rs := [.tmp 4]) (vs := [_]) (is := []) (js := []) rfl ⟨rfl, trivial⟩ rfl rfl ?_ h
     clear h
     refine ⟨congrArg Value.bool ?_, rfl, rfl⟩
     simp [st_ext, sh_ext, *]
     (try (intros; simp_all))
   ·try simp only [tst_, Bool.and_eq_true, Bool.and_eq_false_iff] at h3
    iterate 5 refine GL.pass (s := 26) rfl rfl rfl ?_
    refine GL.pure rfl (p_pick_false rfl rfl) ?_; refine GL.mv_ rfl rfl ?_
    iterate 5 refine GL.pass (s := 33) rfl rfl rfl ?_
    refine GL.pure rfl (p_pick_false rfl rfl) ?_; refine GL.as_ rfl rfl ?_; refine GL.nl_ ?_; refine GC.ret ?_
    refine fun a w h => Fin.back (rs := [.tmp 4]) (vs := [_]) (is := []) (js := []) rfl ⟨rfl, trivial⟩ rfl rfl ?_ h
    clear h
    refine ⟨congrArg Value.bool ?_, rfl, rfl⟩
    simp [st_ext, sh_ext, *]
    (try (intros; simp_all))
  ·try simp only [tst_, Bool.and_eq_true, Bool.and_eq_false_iff] at h2
   iterate 5 refine GL.pass (s := 19) rfl rfl rfl ?_
   refine GL.pure rfl (p_pick_false rfl rfl) ?_; refine GL.mv_ rfl rfl ?_
   iterate 5 refine GL.pass (s := 26) rfl rfl rfl ?_
   refine GL.pure rfl (p_pick_false rfl rfl) ?_; refine GL.mv_ rfl rfl ?_
   iterate 5 refine GL.pass (s := 33) rfl rfl rfl ?_
   refine GL.pure rfl (p_pick_false rfl rfl) ?_; refine GL.as_ rfl rfl ?_; refine GL.nl_ ?_; refine GC.ret ?_
   refine fun a w h => Fin.back (rs := [.tmp 4]) (vs := [_]) (is := []) (js := []) rfl ⟨rfl, trivial⟩ rfl rfl ?_ h
   clear h
   refine ⟨congrArg Value.bool ?_, rfl, rfl⟩
   simp [st_ext, sh_ext, *]
   (try (intros; simp_all))
 ·try simp only [tst_, Bool.and_eq_true, Bool.and_eq_false_iff] at h1
  iterate 5 refine GL.pass (s := 12) rfl rfl rfl ?_
  refine GL.pure rfl (p_pick_false rfl rfl) ?_; refine GL.mv_ rfl rfl ?_
  iterate 5 refine GL.pass (s := 19) rfl rfl rfl ?_
  refine GL.pure rfl (p_pick_false rfl rfl) ?_; refine GL.mv_ rfl rfl ?_
  iterate 5 refine GL.pass (s := 26) rfl rfl rfl ?_
  refine GL.pure rfl (p_pick_false rfl rfl) ?_; refine GL.mv_ rfl rfl ?_
  iterate 5 refine GL.pass (s := 33) rfl rfl rfl ?_
  refine GL.pure rfl (p_pick_false rfl rfl) ?_; refine GL.as_ rfl rfl ?_; refine GL.nl_ ?_; refine GC.ret ?_
  refine fun a w h => Fin.back (rs := [.tmp 4]) (vs := [_]) (is := []) (js := []) rfl ⟨rfl, trivial⟩ rfl rfl ?_ h
  clear h
  refine ⟨congrArg Value.bool ?_, rfl, rfl⟩
  simp [st_ext, sh_ext, *]
  (try (intros; simp_all))
theorem rstt_ct (s t : Stt) (A : Option Addr) (cp : Nat) (B : Option Addr) (cq : Nat) (C : Option Addr) (cr : Nat) (A' : Option Addr) (cp' : Nat) (B' : Option Addr) (cq' : Nat) (C' : Option Addr) (cr' : Nat) (h1_ : s.pages.length ≤ 140737488355328) (h2_ : s.rows.length ≤ 140737488355328) (h3_ : s.grp.members.length ≤ 140737488355328) : Ct Tryz.prog 43 [sttV s A cp B cq C cr, sttV t A' cp' B' cq' C' cr'] [] (sttQ s A B C ++ sttQ t A' B' C') (fun u G Q => u = .bool (decide (s = t)) ∧ G = [] ∧ Q = []) := by
 refine Ct.intro Tryz.func43 rfl rfl rfl (fun c hc => ?_)
 refine GC.sr_ ?_; refine GL.step rfl (t_box rfl rfl rfl) (GL.ex fun b_t2 => ?_); refine GL.step rfl (t_box rfl rfl rfl) (GL.ex fun b_t3 => ?_); refine GL.as_ rfl rfl ?_; refine GL.nl_ ?_; refine GC.sr_ ?_; refine GL.pure rfl (p_fieldAddr fo_39_0 rfl) ?_
 refine GL.step rfl (t_mem rfl (m_load (i := 1) rfl rfl ag_3 rfl)) ?_; refine GL.pure rfl (p_fieldAddr fo_39_0 rfl) ?_; refine GL.step rfl (t_mem rfl (m_load (i := 0) rfl rfl ag_3 rfl)) ?_; refine GL.pure rfl (p_eql rfl rfl) ?_
 refine GL.mv_ rfl rfl ?_; refine GL.split (i := 10) rfl (fun h1 => ?_) (fun h1 => ?_)
 ·try simp only [tst_, Bool.and_eq_true, Bool.and_eq_false_iff] at h1
  refine GL.pureG (s := 10) rfl rfl rfl (p_fieldAddr fo_39_1 rfl) ?_; refine GL.stepG rfl (s := 10) rfl rfl (t_mem rfl (m_loadN (i := 1) rfl rfl ag_35 (vs := [_, _]) sz_35 ⟨rfl, rfl, trivial⟩)) ?_; refine GL.pureG (s := 10) rfl rfl rfl (p_fieldAddr fo_39_1 rfl) ?_
  refine GL.stepG rfl (s := 10) rfl rfl (t_mem rfl (m_loadN (i := 0) rfl rfl ag_35 (vs := [_, _]) sz_35 ⟨rfl, rfl, trivial⟩)) ?_; refine GL.pureG (s := 10) rfl rfl rfl (p_shapeEql rfl rfl) ?_; refine GL.pure rfl (p_pick_true rfl rfl) ?_
  refine GL.mv_ rfl rfl ?_; refine GL.split (i := 17) rfl (fun h2 => ?_) (fun h2 => ?_)
  ·try simp only [tst_, Bool.and_eq_true, Bool.and_eq_false_iff] at h2
   refine GL.pureG (s := 17) rfl rfl rfl (p_fieldAddr fo_39_2 rfl) ?_; refine GL.stepG rfl (s := 17) rfl rfl (t_mem rfl (m_load (i := 1) rfl rfl ag_36 rfl)) ?_; refine GL.pureG (s := 17) rfl rfl rfl (p_fieldAddr fo_39_2 rfl) ?_
   refine GL.stepG rfl (s := 17) rfl rfl (t_mem rfl (m_load (i := 0) rfl rfl ag_36 rfl)) ?_; refine GL.stepG rfl (s := 17) rfl rfl (t_call rfl fn_73 rfl (is := []) (js := [0, 3]) rfl rfl (by exact rpgs_ct _ s.pages _ _ t.pages _ (by first | assumption | omega))) (GL.ret ?_)
   rintro _ _ _ ⟨rfl, rfl, rfl⟩
   refine GL.pure rfl (p_pick_true rfl rfl) ?_; refine GL.mv_ rfl rfl ?_; refine GL.split (i := 24) rfl (fun h3 => ?_) (fun h3 => ?_)
   ·try simp only [tst_, Bool.and_eq_true, Bool.and_eq_false_iff] at h3
    refine GL.pureG (s := 24) rfl rfl rfl (p_fieldAddr fo_39_3 rfl) ?_; refine GL.stepG rfl (s := 24) rfl rfl (t_mem rfl (m_load (i := 1) rfl rfl ag_37 rfl)) ?_; refine GL.pureG (s := 24) rfl rfl rfl (p_fieldAddr fo_39_3 rfl) ?_
    refine GL.stepG rfl (s := 24) rfl rfl (t_mem rfl (m_load (i := 0) rfl rfl ag_37 rfl)) ?_; refine GL.stepG rfl (s := 24) rfl rfl (t_call rfl fn_74 rfl (is := []) (js := [1, 4]) rfl rfl (by exact rsame_ct _ s.rows _ _ t.rows _ (by first | assumption | omega))) (GL.ret ?_)
    rintro _ _ _ ⟨rfl, rfl, rfl⟩
    refine GL.pure rfl (p_pick_true rfl rfl) ?_; refine GL.mv_ rfl rfl ?_; refine GL.split (i := 31) rfl (fun h4 => ?_) (fun h4 => ?_)
    ·try simp only [tst_, Bool.and_eq_true, Bool.and_eq_false_iff] at h4
     refine GL.pureG (s := 31) rfl rfl rfl (p_fieldAddr fo_39_4 rfl) ?_; refine GL.stepG rfl (s := 31) rfl rfl (t_mem rfl (m_loadN (i := 1) rfl rfl ag_33 (vs := [_, _]) sz_33 ⟨rfl, rfl, trivial⟩)) ?_; refine GL.pureG (s := 31) rfl rfl rfl (p_fieldAddr fo_39_4 rfl) ?_
     refine GL.stepG rfl (s := 31) rfl rfl (t_mem rfl (m_loadN (i := 0) rfl rfl ag_33 (vs := [_, _]) sz_33 ⟨rfl, rfl, trivial⟩)) ?_; refine GL.stepG rfl (s := 31) rfl rfl (t_call rfl fn_42 rfl (is := []) (js := [2, 5]) rfl rfl (by exact rgsg_ct s.grp t.grp _ _ _ _ (by first | assumption | omega))) (GL.ret ?_)
     rintro _ _ _ ⟨rfl, rfl, rfl⟩
     refine GL.pure rfl (p_pick_true rfl rfl) ?_; refine GL.as_ rfl rfl ?_; refine GL.nl_ ?_; refine GC.ret ?_
     refine fun a w h => Fin.back (rs := [.tmp 4]) (vs := [_]) (is := []) (js := []) rfl ⟨rfl, trivial⟩ rfl rfl ?_ h
     clear h
     refine ⟨congrArg Value.bool ?_, rfl, rfl⟩
     simp [st_ext, sh_ext, *]
     (try (intros; simp_all))
    ·try simp only [tst_, Bool.and_eq_true, Bool.and_eq_false_iff] at h4
     iterate 5 refine GL.pass (s := 31) rfl rfl rfl ?_
     refine GL.pure rfl (p_pick_false rfl rfl) ?_; refine GL.as_ rfl rfl ?_; refine GL.nl_ ?_; refine GC.ret ?_
     refine fun a w h => Fin.back (rs := [.tmp 4]) (vs := [_]) (is := []) (js := []) rfl ⟨rfl, trivial⟩ rfl rfl ?_ h
     clear h
     refine ⟨congrArg Value.bool ?_, rfl, rfl⟩
     simp [st_ext, sh_ext, *]
     (try (intros; simp_all))
   ·try simp only [tst_, Bool.and_eq_true, Bool.and_eq_false_iff] at h3
    iterate 5 refine GL.pass (s := 24) rfl rfl rfl ?_
    refine GL.pure rfl (p_pick_false rfl rfl) ?_; refine GL.mv_ rfl rfl ?_
    iterate 5 refine GL.pass (s := 31) rfl rfl rfl ?_
    refine GL.pure rfl (p_pick_false rfl rfl) ?_; refine GL.as_ rfl rfl ?_; refine GL.nl_ ?_; refine GC.ret ?_
    refine fun a w h => Fin.back (rs := [.tmp 4]) (vs := [_]) (is := []) (js := []) rfl ⟨rfl, trivial⟩ rfl rfl ?_ h
    clear h
    refine ⟨congrArg Value.bool ?_, rfl, rfl⟩
    simp [st_ext, sh_ext, *]
    (try (intros; simp_all))
  ·try simp only [tst_, Bool.and_eq_true, Bool.and_eq_false_iff] at h2
   iterate 5 refine GL.pass (s := 17) rfl rfl rfl ?_
   refine GL.pure rfl (p_pick_false rfl rfl) ?_; refine GL.mv_ rfl rfl ?_
   iterate 5 refine GL.pass (s := 24) rfl rfl rfl ?_
   refine GL.pure rfl (p_pick_false rfl rfl) ?_; refine GL.mv_ rfl rfl ?_
   iterate 5 refine GL.pass (s := 31) rfl rfl rfl ?_
   refine GL.pure rfl (p_pick_false rfl rfl) ?_; refine GL.as_ rfl rfl ?_; refine GL.nl_ ?_; refine GC.ret ?_
   refine fun a w h => Fin.back (rs := [.tmp 4]) (vs := [_]) (is := []) (js := []) rfl ⟨rfl, trivial⟩ rfl rfl ?_ h
   clear h
   refine ⟨congrArg Value.bool ?_, rfl, rfl⟩
   simp [st_ext, sh_ext, *]
   (try (intros; simp_all))
 ·try simp only [tst_, Bool.and_eq_true, Bool.and_eq_false_iff] at h1
  iterate 5 refine GL.pass (s := 10) rfl rfl rfl ?_
  refine GL.pure rfl (p_pick_false rfl rfl) ?_; refine GL.mv_ rfl rfl ?_
  iterate 5 refine GL.pass (s := 17) rfl rfl rfl ?_
  refine GL.pure rfl (p_pick_false rfl rfl) ?_; refine GL.mv_ rfl rfl ?_
  iterate 5 refine GL.pass (s := 24) rfl rfl rfl ?_
  refine GL.pure rfl (p_pick_false rfl rfl) ?_; refine GL.mv_ rfl rfl ?_
  iterate 5 refine GL.pass (s := 31) rfl rfl rfl ?_
  refine GL.pure rfl (p_pick_false rfl rfl) ?_; refine GL.as_ rfl rfl ?_; refine GL.nl_ ?_; refine GC.ret ?_
  refine fun a w h => Fin.back (rs := [.tmp 4]) (vs := [_]) (is := []) (js := []) rfl ⟨rfl, trivial⟩ rfl rfl ?_ h
  clear h
  refine ⟨congrArg Value.bool ?_, rfl, rfl⟩
  simp [st_ext, sh_ext, *]
  (try (intros; simp_all))
theorem mzst_ct (s : Stt) (A : Option Addr) (cp : Nat) (B : Option Addr) (cq : Nat) (C : Option Addr) (cr : Nat) (h1_ : s.pages.length ≤ 140737488355328) (h2_ : s.rows.length ≤ 140737488355328) (h3_ : s.grp.members.length ≤ 140737488355328) : Ct Tryz.prog 38 [sttV s A cp B cq C cr, .agg #[.int .i64 0, .int .i64 0, .int .i64 0, .slice none 0 0, .slice none 0 0, .int .i64 0, .slice none 0 0]] [] (sttQ s A B C) (fun u G Q => u = .bool (decide (s = zst)) ∧ G = [] ∧ Q = []) :=
  Ct.qperm (mstt_ct s zst A cp B cq C cr none 0 none 0 none 0 h1_ h2_ h3_) (by intro q hq; simp only [List.mem_cons, List.mem_append, List.not_mem_nil, or_false] at hq ⊢; rcases hq with (rfl | rfl | rfl) | rfl | rfl | rfl <;> first | exact .inr (fun _ _ => .inl rfl) | simp)
end Go.Proofs.YtdhdmbmknpjhbaaGreat
namespace Go.Sx
open Go
section
variable {P : Program} {c : Cx} {n : Nat} {env env' envK E : List (Nat × Value)} {G G' Gr GK : List Own} {Q Q' QK : List Pers} {a : Act} {w : World}
variable {α β γ δ : Type} {x z : Code} {R : Exit → Asr} {ks is js : List Nat}
theorem GC.joinK1 (φ : α → Prop) (F : α → List (Nat × Value)) (GF : α → List Own) (QF : α → List Pers) (hK : kept env ks = some envK) (hG : pickQ G is = some GK) (hQ : pickQ Q js = some QK)
    (hx : GC P (Exit.then (fun a w => ∃ y, φ y ∧ St c n (F y ++ envK) (GF y ++ GK) (QF y ++ QK) a w) R) x (St c n env G Q))
    (hz : ∀ y, φ y → GC P R z (St c n (F y ++ envK) (GF y ++ GK) (QF y ++ QK))) : GC P R (.seq x z) (St c n env G Q) :=
  GC.seq hx fun a w ⟨y, hp, h⟩ => hz y hp a w h
theorem GC.joinK2 (φ : α → β → Prop) (F : α → β → List (Nat × Value)) (GF : α → β → List Own) (QF : α → β → List Pers) (hK : kept env ks = some envK) (hG : pickQ G is = some GK) (hQ : pickQ Q js = some QK)
    (hx : GC P (Exit.then (fun a w => ∃ y1 y2, φ y1 y2 ∧ St c n (F y1 y2 ++ envK) (GF y1 y2 ++ GK) (QF y1 y2 ++ QK) a w) R) x (St c n env G Q))
    (hz : ∀ y1 y2, φ y1 y2 → GC P R z (St c n (F y1 y2 ++ envK) (GF y1 y2 ++ GK) (QF y1 y2 ++ QK))) : GC P R (.seq x z) (St c n env G Q) :=
  GC.seq hx fun a w ⟨y1, y2, hp, h⟩ => hz y1 y2 hp a w h
theorem GC.joinK3 (φ : α → β → γ → Prop) (F : α → β → γ → List (Nat × Value)) (GF : α → β → γ → List Own) (QF : α → β → γ → List Pers) (hK : kept env ks = some envK) (hG : pickQ G is = some GK) (hQ : pickQ Q js = some QK)
    (hx : GC P (Exit.then (fun a w => ∃ y1 y2 y3, φ y1 y2 y3 ∧ St c n (F y1 y2 y3 ++ envK) (GF y1 y2 y3 ++ GK) (QF y1 y2 y3 ++ QK) a w) R) x (St c n env G Q))
    (hz : ∀ y1 y2 y3, φ y1 y2 y3 → GC P R z (St c n (F y1 y2 y3 ++ envK) (GF y1 y2 y3 ++ GK) (QF y1 y2 y3 ++ QK))) : GC P R (.seq x z) (St c n env G Q) :=
  GC.seq hx fun a w ⟨y1, y2, y3, hp, h⟩ => hz y1 y2 y3 hp a w h
theorem St.reval {i : Nat} {v v' : Value} (h : St c n env G Q a w) (hi : look env i = some v) (hv : v = v') : St c n ((i, v') :: env) G Q a w := by
  obtain ⟨S, he, hh, hr⟩ := h
  subst hv
  exact ⟨S, he.over hi, hh, hr⟩
theorem GL.reval {ops : Array Oper} {rest : List Oper} (i : Nat) {v v' : Value} (hi : look env i = some v) (hv : v = v') (k : GL P ops R rest (St c n ((i, v') :: env) G Q)) : GL P ops R rest (St c n env G Q) := GL.imp (fun a w h => h.reval hi hv) k
theorem GC.reval (i : Nat) {v v' : Value} (hi : look env i = some v) (hv : v = v') (k : GC P R x (St c n ((i, v') :: env) G Q)) : GC P R x (St c n env G Q) := GC.imp (fun a w h => h.reval hi hv) k
end
end Go.Sx
namespace Go.Proofs.YtdhdmbmknpjhbaaGreat
open Go Go.Sx Go.Proofs
theorem wsame_ct (m k : Msg) (s t : Lie) (hm : MsgLen m) : Ct Tryz.prog 14 [msgV m s, msgV k t] [] (msgQ m s ++ msgQ k t) (fun u G Q => u = .bool (decide (m = k)) ∧ G = [] ∧ Q = []) := by
 refine Ct.intro Tryz.func14 rfl rfl rfl (fun c hc => ?_)
 refine GC.sr_ ?_; refine GL.step rfl (t_box rfl rfl rfl) (GL.ex fun b_t2 => ?_); refine GL.step rfl (t_box rfl rfl rfl) (GL.ex fun b_t3 => ?_); refine GL.as_ rfl rfl ?_; refine GL.nl_ ?_; refine GC.joinK1 (ks := [2, 3, 4]) (is := [0, 1]) (js := [0, 1, 2, 3, 4, 5, 6, 7, 8, 9, 10, 11, 12, 13, 14, 15]) (fun (u_ : Unit) => True) (fun (u_ : Unit) => [(5, .bool (decide (m.kind = k.kind ∧ m.src = k.src ∧ m.dst = k.dst ∧ m.nonce = k.nonce ∧ m.client = k.client ∧ m.serial = k.serial)))]) (fun (u_ : Unit) => []) (fun (u_ : Unit) => []) rfl rfl rfl ?_ ?_
 ·refine GC.region ?_; refine GL.pure rfl (p_fieldAddr fo_42_0 rfl) ?_; refine GL.step rfl (t_mem rfl (m_load (i := 1) rfl rfl ag_22 rfl)) ?_; refine GL.pure rfl (p_fieldAddr fo_42_0 rfl) ?_; refine GL.step rfl (t_mem rfl (m_load (i := 0) rfl rfl ag_22 rfl)) ?_
  refine GL.pure rfl (p_eql rfl rfl) ?_; refine GL.mv_ rfl rfl ?_; refine GL.split (i := 14) rfl (fun h1 => ?_) (fun h1 => ?_)
  ·try simp only [tst_] at h1
   refine GL.pureG (s := 14) rfl rfl rfl (p_fieldAddr fo_42_1 rfl) ?_; refine GL.stepG rfl (s := 14) rfl rfl (t_mem rfl (m_load (i := 1) rfl rfl ag_3 rfl)) ?_; refine GL.pureG (s := 14) rfl rfl rfl (p_fieldAddr fo_42_1 rfl) ?_
   refine GL.stepG rfl (s := 14) rfl rfl (t_mem rfl (m_load (i := 0) rfl rfl ag_3 rfl)) ?_; refine GL.pureG (s := 14) rfl rfl rfl (p_eql rfl rfl) ?_; refine GL.pure rfl (p_pick_true rfl rfl) ?_; refine GL.mv_ rfl rfl ?_; refine GL.split (i := 21) rfl (fun h2 => ?_) (fun h2 => ?_)
   ·try simp only [tst_] at h2
    refine GL.pureG (s := 21) rfl rfl rfl (p_fieldAddr fo_42_2 rfl) ?_; refine GL.stepG rfl (s := 21) rfl rfl (t_mem rfl (m_load (i := 1) rfl rfl ag_3 rfl)) ?_; refine GL.pureG (s := 21) rfl rfl rfl (p_fieldAddr fo_42_2 rfl) ?_
    refine GL.stepG rfl (s := 21) rfl rfl (t_mem rfl (m_load (i := 0) rfl rfl ag_3 rfl)) ?_; refine GL.pureG (s := 21) rfl rfl rfl (p_eql rfl rfl) ?_; refine GL.pure rfl (p_pick_true rfl rfl) ?_; refine GL.mv_ rfl rfl ?_
    refine GL.split (i := 28) rfl (fun h3 => ?_) (fun h3 => ?_)
    ·try simp only [tst_] at h3
     refine GL.pureG (s := 28) rfl rfl rfl (p_fieldAddr fo_42_8 rfl) ?_; refine GL.stepG rfl (s := 28) rfl rfl (t_mem rfl (m_load (i := 1) rfl rfl ag_23 rfl)) ?_; refine GL.pureG (s := 28) rfl rfl rfl (p_fieldAddr fo_42_8 rfl) ?_
     refine GL.stepG rfl (s := 28) rfl rfl (t_mem rfl (m_load (i := 0) rfl rfl ag_23 rfl)) ?_; refine GL.pureG (s := 28) rfl rfl rfl (p_eql rfl rfl) ?_; refine GL.pure rfl (p_pick_true rfl rfl) ?_; refine GL.mv_ rfl rfl ?_
     refine GL.split (i := 35) rfl (fun h4 => ?_) (fun h4 => ?_)
     ·try simp only [tst_] at h4
      refine GL.pureG (s := 35) rfl rfl rfl (p_fieldAddr fo_42_9 rfl) ?_; refine GL.stepG rfl (s := 35) rfl rfl (t_mem rfl (m_load (i := 1) rfl rfl ag_3 rfl)) ?_; refine GL.pureG (s := 35) rfl rfl rfl (p_fieldAddr fo_42_9 rfl) ?_
      refine GL.stepG rfl (s := 35) rfl rfl (t_mem rfl (m_load (i := 0) rfl rfl ag_3 rfl)) ?_; refine GL.pureG (s := 35) rfl rfl rfl (p_eql rfl rfl) ?_; refine GL.pure rfl (p_pick_true rfl rfl) ?_; refine GL.mv_ rfl rfl ?_
      refine GL.split (i := 42) rfl (fun h5 => ?_) (fun h5 => ?_)
      ·try simp only [tst_] at h5
       refine GL.pureG (s := 42) rfl rfl rfl (p_fieldAddr fo_42_10 rfl) ?_; refine GL.stepG rfl (s := 42) rfl rfl (t_mem rfl (m_load (i := 1) rfl rfl ag_3 rfl)) ?_; refine GL.pureG (s := 42) rfl rfl rfl (p_fieldAddr fo_42_10 rfl) ?_
       refine GL.stepG rfl (s := 42) rfl rfl (t_mem rfl (m_load (i := 0) rfl rfl ag_3 rfl)) ?_; refine GL.pureG (s := 42) rfl rfl rfl (p_eql rfl rfl) ?_; refine GL.pure rfl (p_pick_true rfl rfl) ?_; refine GL.as_ rfl rfl ?_
       refine GL.split (i := 5) rfl (fun h6 => ?_) (fun h6 => ?_)
       ·try simp only [tst_] at h6
        refine GL.nil ?_
        exact fun a w h => ⟨(()), trivial, by rw [decide_eq_true (show m.kind = k.kind ∧ m.src = k.src ∧ m.dst = k.dst ∧ m.nonce = k.nonce ∧ m.client = k.client ∧ m.serial = k.serial by simp [*])]; exact h.cut (is := [0, 0]) (js := [0, 1, 2, 3, 4, 5, 6, 7, 8, 9, 10, 11, 12, 13, 14, 15]) ⟨rfl, rfl, rfl, rfl, trivial⟩ rfl rfl⟩
       ·try simp only [tst_] at h6
        refine GL.nil ?_
        exact fun a w h => ⟨(()), trivial, by rw [decide_eq_false (show ¬ (m.kind = k.kind ∧ m.src = k.src ∧ m.dst = k.dst ∧ m.nonce = k.nonce ∧ m.client = k.client ∧ m.serial = k.serial) by simp [*])]; exact h.cut (is := [0, 0]) (js := [0, 1, 2, 3, 4, 5, 6, 7, 8, 9, 10, 11, 12, 13, 14, 15]) ⟨rfl, rfl, rfl, rfl, trivial⟩ rfl rfl⟩
      ·try simp only [tst_] at h5
       iterate 5 refine GL.pass (s := 42) rfl rfl rfl ?_
       refine GL.pure rfl (p_pick_false rfl rfl) ?_; refine GL.as_ rfl rfl ?_; refine GL.nil ?_
       exact fun a w h => ⟨(()), trivial, by rw [decide_eq_false (show ¬ (m.kind = k.kind ∧ m.src = k.src ∧ m.dst = k.dst ∧ m.nonce = k.nonce ∧ m.client = k.client ∧ m.serial = k.serial) by simp [*])]; exact h.cut (is := [0, 0]) (js := [0, 1, 2, 3, 4, 5, 6, 7, 8, 9, 10, 11, 12, 13, 14, 15]) ⟨rfl, rfl, rfl, rfl, trivial⟩ rfl rfl⟩
     ·try simp only [tst_] at h4
      iterate 5 refine GL.pass (s := 35) rfl rfl rfl ?_
      refine GL.pure rfl (p_pick_false rfl rfl) ?_; refine GL.mv_ rfl rfl ?_
      iterate 5 refine GL.pass (s := 42) rfl rfl rfl ?_
      refine GL.pure rfl (p_pick_false rfl rfl) ?_; refine GL.as_ rfl rfl ?_; refine GL.nil ?_
      exact fun a w h => ⟨(()), trivial, by rw [decide_eq_false (show ¬ (m.kind = k.kind ∧ m.src = k.src ∧ m.dst = k.dst ∧ m.nonce = k.nonce ∧ m.client = k.client ∧ m.serial = k.serial) by simp [*])]; exact h.cut (is := [0, 0]) (js := [0, 1, 2, 3, 4, 5, 6, 7, 8, 9, 10, 11, 12, 13, 14, 15]) ⟨rfl, rfl, rfl, rfl, trivial⟩ rfl rfl⟩
    ·try simp only [tst_] at h3
     iterate 5 refine GL.pass (s := 28) rfl rfl rfl ?_
     refine GL.pure rfl (p_pick_false rfl rfl) ?_; refine GL.mv_ rfl rfl ?_
     iterate 5 refine GL.pass (s := 35) rfl rfl rfl ?_
     refine GL.pure rfl (p_pick_false rfl rfl) ?_; refine GL.mv_ rfl rfl ?_
     iterate 5 refine GL.pass (s := 42) rfl rfl rfl ?_
     refine GL.pure rfl (p_pick_false rfl rfl) ?_; refine GL.as_ rfl rfl ?_; refine GL.nil ?_
     exact fun a w h => ⟨(()), trivial, by rw [decide_eq_false (show ¬ (m.kind = k.kind ∧ m.src = k.src ∧ m.dst = k.dst ∧ m.nonce = k.nonce ∧ m.client = k.client ∧ m.serial = k.serial) by simp [*])]; exact h.cut (is := [0, 0]) (js := [0, 1, 2, 3, 4, 5, 6, 7, 8, 9, 10, 11, 12, 13, 14, 15]) ⟨rfl, rfl, rfl, rfl, trivial⟩ rfl rfl⟩
   ·try simp only [tst_] at h2
    iterate 5 refine GL.pass (s := 21) rfl rfl rfl ?_
    refine GL.pure rfl (p_pick_false rfl rfl) ?_; refine GL.mv_ rfl rfl ?_
    iterate 5 refine GL.pass (s := 28) rfl rfl rfl ?_
    refine GL.pure rfl (p_pick_false rfl rfl) ?_; refine GL.mv_ rfl rfl ?_
    iterate 5 refine GL.pass (s := 35) rfl rfl rfl ?_
    refine GL.pure rfl (p_pick_false rfl rfl) ?_; refine GL.mv_ rfl rfl ?_
    iterate 5 refine GL.pass (s := 42) rfl rfl rfl ?_
    refine GL.pure rfl (p_pick_false rfl rfl) ?_; refine GL.as_ rfl rfl ?_; refine GL.nil ?_
    exact fun a w h => ⟨(()), trivial, by rw [decide_eq_false (show ¬ (m.kind = k.kind ∧ m.src = k.src ∧ m.dst = k.dst ∧ m.nonce = k.nonce ∧ m.client = k.client ∧ m.serial = k.serial) by simp [*])]; exact h.cut (is := [0, 0]) (js := [0, 1, 2, 3, 4, 5, 6, 7, 8, 9, 10, 11, 12, 13, 14, 15]) ⟨rfl, rfl, rfl, rfl, trivial⟩ rfl rfl⟩
  ·try simp only [tst_] at h1
   iterate 5 refine GL.pass (s := 14) rfl rfl rfl ?_
   refine GL.pure rfl (p_pick_false rfl rfl) ?_; refine GL.mv_ rfl rfl ?_
   iterate 5 refine GL.pass (s := 21) rfl rfl rfl ?_
   refine GL.pure rfl (p_pick_false rfl rfl) ?_; refine GL.mv_ rfl rfl ?_
   iterate 5 refine GL.pass (s := 28) rfl rfl rfl ?_
   refine GL.pure rfl (p_pick_false rfl rfl) ?_; refine GL.mv_ rfl rfl ?_
   iterate 5 refine GL.pass (s := 35) rfl rfl rfl ?_
   refine GL.pure rfl (p_pick_false rfl rfl) ?_; refine GL.mv_ rfl rfl ?_
   iterate 5 refine GL.pass (s := 42) rfl rfl rfl ?_
   refine GL.pure rfl (p_pick_false rfl rfl) ?_; refine GL.as_ rfl rfl ?_; refine GL.nil ?_
   exact fun a w h => ⟨(()), trivial, by rw [decide_eq_false (show ¬ (m.kind = k.kind ∧ m.src = k.src ∧ m.dst = k.dst ∧ m.nonce = k.nonce ∧ m.client = k.client ∧ m.serial = k.serial) by simp [*])]; exact h.cut (is := [0, 0]) (js := [0, 1, 2, 3, 4, 5, 6, 7, 8, 9, 10, 11, 12, 13, 14, 15]) ⟨rfl, rfl, rfl, rfl, trivial⟩ rfl rfl⟩
 ·intro u_ hj1
  try dsimp only [List.cons_append, List.nil_append] at hj1 ⊢
  refine GC.joinK1 (ks := [2, 3, 4, 5]) (is := [0, 1]) (js := [0, 1, 2, 3, 4, 5, 6, 7, 8, 9, 10, 11, 12, 13, 14, 15]) (fun (u_ : Unit) => True) (fun (u_ : Unit) => [(6, .bool (decide (m.epoch = k.epoch ∧ m.view = k.view ∧ m.num = k.num ∧ m.commit = k.commit ∧ m.normal = k.normal)))]) (fun (u_ : Unit) => []) (fun (u_ : Unit) => []) rfl rfl rfl ?_ ?_
  ·refine GC.region ?_; refine GL.pure rfl (p_fieldAddr fo_42_3 rfl) ?_; refine GL.step rfl (t_mem rfl (m_load (i := 1) rfl rfl ag_3 rfl)) ?_; refine GL.pure rfl (p_fieldAddr fo_42_3 rfl) ?_; refine GL.step rfl (t_mem rfl (m_load (i := 0) rfl rfl ag_3 rfl)) ?_
   refine GL.pure rfl (p_eql rfl rfl) ?_; refine GL.mv_ rfl rfl ?_; refine GL.split (i := 54) rfl (fun h7 => ?_) (fun h7 => ?_)
   ·try simp only [tst_] at h7
    refine GL.pureG (s := 54) rfl rfl rfl (p_fieldAddr fo_42_4 rfl) ?_; refine GL.stepG rfl (s := 54) rfl rfl (t_mem rfl (m_load (i := 1) rfl rfl ag_3 rfl)) ?_; refine GL.pureG (s := 54) rfl rfl rfl (p_fieldAddr fo_42_4 rfl) ?_
    refine GL.stepG rfl (s := 54) rfl rfl (t_mem rfl (m_load (i := 0) rfl rfl ag_3 rfl)) ?_; refine GL.pureG (s := 54) rfl rfl rfl (p_eql rfl rfl) ?_; refine GL.pure rfl (p_pick_true rfl rfl) ?_; refine GL.mv_ rfl rfl ?_
    refine GL.split (i := 61) rfl (fun h8 => ?_) (fun h8 => ?_)
    ·try simp only [tst_] at h8
     refine GL.pureG (s := 61) rfl rfl rfl (p_fieldAddr fo_42_5 rfl) ?_; refine GL.stepG rfl (s := 61) rfl rfl (t_mem rfl (m_load (i := 1) rfl rfl ag_3 rfl)) ?_; refine GL.pureG (s := 61) rfl rfl rfl (p_fieldAddr fo_42_5 rfl) ?_
     refine GL.stepG rfl (s := 61) rfl rfl (t_mem rfl (m_load (i := 0) rfl rfl ag_3 rfl)) ?_; refine GL.pureG (s := 61) rfl rfl rfl (p_eql rfl rfl) ?_; refine GL.pure rfl (p_pick_true rfl rfl) ?_; refine GL.mv_ rfl rfl ?_
     refine GL.split (i := 68) rfl (fun h9 => ?_) (fun h9 => ?_)
     ·try simp only [tst_] at h9
      refine GL.pureG (s := 68) rfl rfl rfl (p_fieldAddr fo_42_6 rfl) ?_; refine GL.stepG rfl (s := 68) rfl rfl (t_mem rfl (m_load (i := 1) rfl rfl ag_3 rfl)) ?_; refine GL.pureG (s := 68) rfl rfl rfl (p_fieldAddr fo_42_6 rfl) ?_
      refine GL.stepG rfl (s := 68) rfl rfl (t_mem rfl (m_load (i := 0) rfl rfl ag_3 rfl)) ?_; refine GL.pureG (s := 68) rfl rfl rfl (p_eql rfl rfl) ?_; refine GL.pure rfl (p_pick_true rfl rfl) ?_; refine GL.mv_ rfl rfl ?_
      refine GL.split (i := 75) rfl (fun h10 => ?_) (fun h10 => ?_)
      ·try simp only [tst_] at h10
       refine GL.pureG (s := 75) rfl rfl rfl (p_fieldAddr fo_42_7 rfl) ?_; refine GL.stepG rfl (s := 75) rfl rfl (t_mem rfl (m_load (i := 1) rfl rfl ag_3 rfl)) ?_; refine GL.pureG (s := 75) rfl rfl rfl (p_fieldAddr fo_42_7 rfl) ?_
       refine GL.stepG rfl (s := 75) rfl rfl (t_mem rfl (m_load (i := 0) rfl rfl ag_3 rfl)) ?_; refine GL.pureG (s := 75) rfl rfl rfl (p_eql rfl rfl) ?_; refine GL.pure rfl (p_pick_true rfl rfl) ?_; refine GL.as_ rfl rfl ?_
       refine GL.split (i := 6) rfl (fun h11 => ?_) (fun h11 => ?_)
       ·try simp only [tst_] at h11
        refine GL.nil ?_
        exact fun a w h => ⟨(()), trivial, by rw [decide_eq_true (show m.epoch = k.epoch ∧ m.view = k.view ∧ m.num = k.num ∧ m.commit = k.commit ∧ m.normal = k.normal by simp [*])]; exact h.cut (is := [0, 0]) (js := [0, 1, 2, 3, 4, 5, 6, 7, 8, 9, 10, 11, 12, 13, 14, 15]) ⟨rfl, rfl, rfl, rfl, rfl, trivial⟩ rfl rfl⟩
       ·try simp only [tst_] at h11
        refine GL.nil ?_
        exact fun a w h => ⟨(()), trivial, by rw [decide_eq_false (show ¬ (m.epoch = k.epoch ∧ m.view = k.view ∧ m.num = k.num ∧ m.commit = k.commit ∧ m.normal = k.normal) by simp [*])]; exact h.cut (is := [0, 0]) (js := [0, 1, 2, 3, 4, 5, 6, 7, 8, 9, 10, 11, 12, 13, 14, 15]) ⟨rfl, rfl, rfl, rfl, rfl, trivial⟩ rfl rfl⟩
      ·try simp only [tst_] at h10
       iterate 5 refine GL.pass (s := 75) rfl rfl rfl ?_
       refine GL.pure rfl (p_pick_false rfl rfl) ?_; refine GL.as_ rfl rfl ?_; refine GL.nil ?_
       exact fun a w h => ⟨(()), trivial, by rw [decide_eq_false (show ¬ (m.epoch = k.epoch ∧ m.view = k.view ∧ m.num = k.num ∧ m.commit = k.commit ∧ m.normal = k.normal) by simp [*])]; exact h.cut (is := [0, 0]) (js := [0, 1, 2, 3, 4, 5, 6, 7, 8, 9, 10, 11, 12, 13, 14, 15]) ⟨rfl, rfl, rfl, rfl, rfl, trivial⟩ rfl rfl⟩
     ·try simp only [tst_] at h9
      iterate 5 refine GL.pass (s := 68) rfl rfl rfl ?_
      refine GL.pure rfl (p_pick_false rfl rfl) ?_; refine GL.mv_ rfl rfl ?_
      iterate 5 refine GL.pass (s := 75) rfl rfl rfl ?_
      refine GL.pure rfl (p_pick_false rfl rfl) ?_; refine GL.as_ rfl rfl ?_; refine GL.nil ?_
      exact fun a w h => ⟨(()), trivial, by rw [decide_eq_false (show ¬ (m.epoch = k.epoch ∧ m.view = k.view ∧ m.num = k.num ∧ m.commit = k.commit ∧ m.normal = k.normal) by simp [*])]; exact h.cut (is := [0, 0]) (js := [0, 1, 2, 3, 4, 5, 6, 7, 8, 9, 10, 11, 12, 13, 14, 15]) ⟨rfl, rfl, rfl, rfl, rfl, trivial⟩ rfl rfl⟩
    ·try simp only [tst_] at h8
     iterate 5 refine GL.pass (s := 61) rfl rfl rfl ?_
     refine GL.pure rfl (p_pick_false rfl rfl) ?_; refine GL.mv_ rfl rfl ?_
     iterate 5 refine GL.pass (s := 68) rfl rfl rfl ?_
     refine GL.pure rfl (p_pick_false rfl rfl) ?_; refine GL.mv_ rfl rfl ?_
     iterate 5 refine GL.pass (s := 75) rfl rfl rfl ?_
     refine GL.pure rfl (p_pick_false rfl rfl) ?_; refine GL.as_ rfl rfl ?_; refine GL.nil ?_
     exact fun a w h => ⟨(()), trivial, by rw [decide_eq_false (show ¬ (m.epoch = k.epoch ∧ m.view = k.view ∧ m.num = k.num ∧ m.commit = k.commit ∧ m.normal = k.normal) by simp [*])]; exact h.cut (is := [0, 0]) (js := [0, 1, 2, 3, 4, 5, 6, 7, 8, 9, 10, 11, 12, 13, 14, 15]) ⟨rfl, rfl, rfl, rfl, rfl, trivial⟩ rfl rfl⟩
   ·try simp only [tst_] at h7
    iterate 5 refine GL.pass (s := 54) rfl rfl rfl ?_
    refine GL.pure rfl (p_pick_false rfl rfl) ?_; refine GL.mv_ rfl rfl ?_
    iterate 5 refine GL.pass (s := 61) rfl rfl rfl ?_
    refine GL.pure rfl (p_pick_false rfl rfl) ?_; refine GL.mv_ rfl rfl ?_
    iterate 5 refine GL.pass (s := 68) rfl rfl rfl ?_
    refine GL.pure rfl (p_pick_false rfl rfl) ?_; refine GL.mv_ rfl rfl ?_
    iterate 5 refine GL.pass (s := 75) rfl rfl rfl ?_
    refine GL.pure rfl (p_pick_false rfl rfl) ?_; refine GL.as_ rfl rfl ?_; refine GL.nil ?_
    exact fun a w h => ⟨(()), trivial, by rw [decide_eq_false (show ¬ (m.epoch = k.epoch ∧ m.view = k.view ∧ m.num = k.num ∧ m.commit = k.commit ∧ m.normal = k.normal) by simp [*])]; exact h.cut (is := [0, 0]) (js := [0, 1, 2, 3, 4, 5, 6, 7, 8, 9, 10, 11, 12, 13, 14, 15]) ⟨rfl, rfl, rfl, rfl, rfl, trivial⟩ rfl rfl⟩
  ·intro u_ hj2
   try dsimp only [List.cons_append, List.nil_append] at hj2 ⊢
   refine GC.joinK1 (ks := [2, 3, 4, 5, 6]) (is := [0, 1]) (js := [0, 1, 2, 3, 4, 5, 6, 7, 8, 9, 10, 11, 12, 13, 14, 15]) (fun (u_ : Unit) => True) (fun (u_ : Unit) => [(7, .bool (decide (m.res = k.res)))]) (fun (u_ : Unit) => []) (fun (u_ : Unit) => []) rfl rfl rfl ?_ ?_
   ·refine GC.region ?_; refine GL.pure rfl (p_fieldAddr fo_42_12 rfl) ?_; refine GL.pure rfl (p_fieldAddr fo_30_0 rfl) ?_; refine GL.step rfl (t_mem rfl (m_load (i := 1) rfl rfl ag_28 rfl)) ?_; refine GL.pure rfl (p_fieldAddr fo_42_12 rfl) ?_
    refine GL.pure rfl (p_fieldAddr fo_30_0 rfl) ?_; refine GL.step rfl (t_mem rfl (m_load (i := 0) rfl rfl ag_28 rfl)) ?_; refine GL.pure rfl (p_eql rfl rfl) ?_; refine GL.mv_ rfl rfl ?_; refine GL.split (i := 89) rfl (fun h12 => ?_) (fun h12 => ?_)
    ·try simp only [tst_] at h12
     refine GL.pureG (s := 89) rfl rfl rfl (p_fieldAddr fo_42_12 rfl) ?_; refine GL.pureG (s := 89) rfl rfl rfl (p_fieldAddr fo_30_1 rfl) ?_; refine GL.stepG rfl (s := 89) rfl rfl (t_mem rfl (m_load (i := 1) rfl rfl ag_25 rfl)) ?_
     refine GL.pureG (s := 89) rfl rfl rfl (p_fieldAddr fo_42_12 rfl) ?_; refine GL.pureG (s := 89) rfl rfl rfl (p_fieldAddr fo_30_1 rfl) ?_; refine GL.stepG rfl (s := 89) rfl rfl (t_mem rfl (m_load (i := 0) rfl rfl ag_25 rfl)) ?_
     refine GL.stepG rfl (s := 89) rfl rfl (t_call rfl fn_35 rfl (is := []) (js := [2, 10]) rfl rfl (by exact equal_ct _ _ _ _ _ _)) (GL.ret ?_)
     rintro _ _ _ ⟨rfl, rfl, rfl⟩
     refine GL.pure rfl (p_pick_true rfl rfl) ?_; refine GL.as_ rfl rfl ?_; refine GL.split (i := 7) rfl (fun h13 => ?_) (fun h13 => ?_)
     ·try simp only [tst_] at h13
      refine GL.nil ?_
      exact fun a w h => ⟨(()), trivial, by rw [decide_eq_true (show m.res = k.res by simp [rs_ext, *])]; exact h.cut (is := [0, 0]) (js := [0, 1, 2, 3, 4, 5, 6, 7, 8, 9, 10, 11, 12, 13, 14, 15]) ⟨rfl, rfl, rfl, rfl, rfl, rfl, trivial⟩ rfl rfl⟩
     ·try simp only [tst_] at h13
      refine GL.nil ?_
      exact fun a w h => ⟨(()), trivial, by rw [decide_eq_false (show ¬ (m.res = k.res) by simp [rs_ext, *])]; exact h.cut (is := [0, 0]) (js := [0, 1, 2, 3, 4, 5, 6, 7, 8, 9, 10, 11, 12, 13, 14, 15]) ⟨rfl, rfl, rfl, rfl, rfl, rfl, trivial⟩ rfl rfl⟩
    ·try simp only [tst_] at h12
     iterate 7 refine GL.pass (s := 89) rfl rfl rfl ?_
     refine GL.pure rfl (p_pick_false rfl rfl) ?_; refine GL.as_ rfl rfl ?_; refine GL.nil ?_
     exact fun a w h => ⟨(()), trivial, by rw [decide_eq_false (show ¬ (m.res = k.res) by simp [rs_ext, *])]; exact h.cut (is := [0, 0]) (js := [0, 1, 2, 3, 4, 5, 6, 7, 8, 9, 10, 11, 12, 13, 14, 15]) ⟨rfl, rfl, rfl, rfl, rfl, rfl, trivial⟩ rfl rfl⟩
   ·intro u_ hj3
    try dsimp only [List.cons_append, List.nil_append] at hj3 ⊢
    refine GC.joinK1 (ks := [2, 3, 4, 5, 6, 7]) (is := [0, 1]) (js := [0, 1, 2, 3, 4, 5, 6, 7, 8, 9, 10, 11, 12, 13, 14, 15]) (fun (u_ : Unit) => True) (fun (u_ : Unit) => [(8, .bool (decide (m.grp = k.grp)))]) (fun (u_ : Unit) => []) (fun (u_ : Unit) => []) rfl rfl rfl ?_ ?_
    ·refine GC.region ?_; refine GL.pure rfl (p_fieldAddr fo_42_13 rfl) ?_; refine GL.pure rfl (p_fieldAddr fo_33_0 rfl) ?_; refine GL.step rfl (t_mem rfl (m_load (i := 1) rfl rfl ag_3 rfl)) ?_; refine GL.pure rfl (p_fieldAddr fo_42_13 rfl) ?_
     refine GL.pure rfl (p_fieldAddr fo_33_0 rfl) ?_; refine GL.step rfl (t_mem rfl (m_load (i := 0) rfl rfl ag_3 rfl)) ?_; refine GL.pure rfl (p_eql rfl rfl) ?_; refine GL.mv_ rfl rfl ?_; refine GL.split (i := 105) rfl (fun h14 => ?_) (fun h14 => ?_)
     ·try simp only [tst_] at h14
      refine GL.pureG (s := 105) rfl rfl rfl (p_fieldAddr fo_42_13 rfl) ?_; refine GL.pureG (s := 105) rfl rfl rfl (p_fieldAddr fo_33_1 rfl) ?_; refine GL.stepG rfl (s := 105) rfl rfl (t_mem rfl (m_load (i := 1) rfl rfl ag_31 rfl)) ?_
      refine GL.pureG (s := 105) rfl rfl rfl (p_fieldAddr fo_42_13 rfl) ?_; refine GL.pureG (s := 105) rfl rfl rfl (p_fieldAddr fo_33_1 rfl) ?_; refine GL.stepG rfl (s := 105) rfl rfl (t_mem rfl (m_load (i := 0) rfl rfl ag_31 rfl)) ?_
      refine GL.stepG rfl (s := 105) rfl rfl (t_call rfl fn_36 rfl (is := []) (js := [3, 11]) rfl rfl (by exact equal_i _ m.grp.members _ _ k.grp.members _ (by have := hm.g; omega))) (GL.ret ?_)
      rintro _ _ _ ⟨rfl, rfl, rfl⟩
      refine GL.pure rfl (p_pick_true rfl rfl) ?_; refine GL.as_ rfl rfl ?_; refine GL.split (i := 8) rfl (fun h15 => ?_) (fun h15 => ?_)
      ·try simp only [tst_] at h15
       refine GL.nil ?_
       exact fun a w h => ⟨(()), trivial, by rw [decide_eq_true (show m.grp = k.grp by simp [gr_ext, *])]; exact h.cut (is := [0, 0]) (js := [0, 1, 2, 3, 4, 5, 6, 7, 8, 9, 10, 11, 12, 13, 14, 15]) ⟨rfl, rfl, rfl, rfl, rfl, rfl, rfl, trivial⟩ rfl rfl⟩
      ·try simp only [tst_] at h15
       refine GL.nil ?_
       exact fun a w h => ⟨(()), trivial, by rw [decide_eq_false (show ¬ (m.grp = k.grp) by simp [gr_ext, *])]; exact h.cut (is := [0, 0]) (js := [0, 1, 2, 3, 4, 5, 6, 7, 8, 9, 10, 11, 12, 13, 14, 15]) ⟨rfl, rfl, rfl, rfl, rfl, rfl, rfl, trivial⟩ rfl rfl⟩
     ·try simp only [tst_] at h14
      iterate 7 refine GL.pass (s := 105) rfl rfl rfl ?_
      refine GL.pure rfl (p_pick_false rfl rfl) ?_; refine GL.as_ rfl rfl ?_; refine GL.nil ?_
      exact fun a w h => ⟨(()), trivial, by rw [decide_eq_false (show ¬ (m.grp = k.grp) by simp [gr_ext, *])]; exact h.cut (is := [0, 0]) (js := [0, 1, 2, 3, 4, 5, 6, 7, 8, 9, 10, 11, 12, 13, 14, 15]) ⟨rfl, rfl, rfl, rfl, rfl, rfl, rfl, trivial⟩ rfl rfl⟩
    ·intro u_ hj4
     try dsimp only [List.cons_append, List.nil_append] at hj4 ⊢
     refine GC.sr_ ?_
     iterate 2 refine GL.mv_ rfl rfl ?_
     refine GL.split (i := 115) rfl (fun h16 => ?_) (fun h16 => ?_)
     ·try simp only [tst_] at h16
      refine GL.pureG (s := 115) rfl rfl rfl (p_move rfl) ?_; refine GL.pure rfl (p_pick_true rfl rfl) ?_; refine GL.mv_ rfl rfl ?_; refine GL.split (i := 118) rfl (fun h17 => ?_) (fun h17 => ?_)
      ·try simp only [tst_] at h17
       refine GL.pureG (s := 118) rfl rfl rfl (p_move rfl) ?_; refine GL.pure rfl (p_pick_true rfl rfl) ?_; refine GL.mv_ rfl rfl ?_; refine GL.split (i := 121) rfl (fun h18 => ?_) (fun h18 => ?_)
       ·try simp only [tst_] at h18
        refine GL.pureG (s := 121) rfl rfl rfl (p_move rfl) ?_; refine GL.pure rfl (p_pick_true rfl rfl) ?_; refine GL.mv_ rfl rfl ?_; refine GL.split (i := 124) rfl (fun h19 => ?_) (fun h19 => ?_)
        ·try simp only [tst_] at h19
         refine GL.pureG (s := 124) rfl rfl rfl (p_fieldAddr fo_42_11 rfl) ?_; refine GL.stepG rfl (s := 124) rfl rfl (t_mem rfl (m_loadN (i := 1) rfl rfl ag_27 (vs := [_, _, _, _, _]) sz_27 ⟨rfl, rfl, rfl, rfl, rfl, trivial⟩)) ?_
         refine GL.pureG (s := 124) rfl rfl rfl (p_fieldAddr fo_42_11 rfl) ?_; refine GL.stepG rfl (s := 124) rfl rfl (t_mem rfl (m_loadN (i := 0) rfl rfl ag_27 (vs := [_, _, _, _, _]) sz_27 ⟨rfl, rfl, rfl, rfl, rfl, trivial⟩)) ?_
         refine GL.stepG rfl (s := 124) rfl rfl (t_call rfl fn_37 rfl (is := []) (js := [0, 1, 8, 9]) rfl rfl (by exact bsame_ct m.op k.op _ _ _ _ _ _ _ _)) (GL.ret ?_)
         rintro _ _ _ ⟨rfl, rfl, rfl⟩
         refine GL.pure rfl (p_pick_true rfl rfl) ?_; refine GL.mv_ rfl rfl ?_; refine GL.split (i := 131) rfl (fun h20 => ?_) (fun h20 => ?_)
         ·try simp only [tst_] at h20
          refine GL.pureG (s := 131) rfl rfl rfl (p_fieldAddr fo_42_14 rfl) ?_; refine GL.stepG rfl (s := 131) rfl rfl (t_mem rfl (m_loadN (i := 1) rfl rfl ag_39 (vs := [_, _, _, _, _, _, _]) sz_39 ⟨rfl, rfl, rfl, rfl, rfl, rfl, rfl, trivial⟩)) ?_
          refine GL.pureG (s := 131) rfl rfl rfl (p_fieldAddr fo_42_14 rfl) ?_; refine GL.stepG rfl (s := 131) rfl rfl (t_mem rfl (m_loadN (i := 0) rfl rfl ag_39 (vs := [_, _, _, _, _, _, _]) sz_39 ⟨rfl, rfl, rfl, rfl, rfl, rfl, rfl, trivial⟩)) ?_
          refine GL.stepG rfl (s := 131) rfl rfl (t_call rfl fn_38 rfl (is := []) (js := [4, 5, 6, 12, 13, 14]) rfl rfl (by exact mstt_ct m.stt k.stt _ _ _ _ _ _ _ _ _ _ _ _ (by have := hm.s.p; omega) (by have := hm.s.r; omega) (by have := hm.s.m; omega))) (GL.ret ?_)
          rintro _ _ _ ⟨rfl, rfl, rfl⟩
          refine GL.pure rfl (p_pick_true rfl rfl) ?_; refine GL.mv_ rfl rfl ?_; refine GL.split (i := 138) rfl (fun h21 => ?_) (fun h21 => ?_)
          ·try simp only [tst_] at h21
           refine GL.pureG (s := 138) rfl rfl rfl (p_fieldAddr fo_42_15 rfl) ?_; refine GL.stepG rfl (s := 138) rfl rfl (t_mem rfl (m_load (i := 1) rfl rfl ag_40 rfl)) ?_; refine GL.pureG (s := 138) rfl rfl rfl (p_fieldAddr fo_42_15 rfl) ?_
           refine GL.stepG rfl (s := 138) rfl rfl (t_mem rfl (m_load (i := 0) rfl rfl ag_40 rfl)) ?_; refine GL.stepG rfl (s := 138) rfl rfl (t_call rfl fn_39 rfl (is := []) (js := [7, 15]) rfl rfl (by exact eqen_ct _ m.log _ _ k.log _ (by have := hm.l; omega) hm.e)) (GL.ret ?_)
           rintro _ _ _ ⟨rfl, rfl, rfl⟩
           refine GL.pure rfl (p_pick_true rfl rfl) ?_; refine GL.as_ rfl rfl ?_; refine GL.nl_ ?_; refine GC.ret ?_
           refine fun a w h => Fin.back (rs := [.tmp 4]) (vs := [_]) (is := []) (js := []) rfl ⟨rfl, trivial⟩ rfl rfl ?_ h
           clear h
           first | (refine ⟨congrArg Value.bool (decide_eq_true ?_).symm, rfl, rfl⟩; simp_all [ms_ext, gr_ext, rs_ext]; done) | (refine ⟨congrArg Value.bool (decide_eq_false ?_).symm, rfl, rfl⟩; intro e; subst e; simp_all; done) | (refine ⟨congrArg Value.bool ?_, rfl, rfl⟩; rw [Bool.eq_iff_iff]; simp_all [ms_ext, gr_ext, rs_ext]; done)
          ·try simp only [tst_] at h21
           iterate 5 refine GL.pass (s := 138) rfl rfl rfl ?_
           refine GL.pure rfl (p_pick_false rfl rfl) ?_; refine GL.as_ rfl rfl ?_; refine GL.nl_ ?_; refine GC.ret ?_
           refine fun a w h => Fin.back (rs := [.tmp 4]) (vs := [_]) (is := []) (js := []) rfl ⟨rfl, trivial⟩ rfl rfl ?_ h
           clear h
           first | (refine ⟨congrArg Value.bool (decide_eq_true ?_).symm, rfl, rfl⟩; simp_all [ms_ext, gr_ext, rs_ext]; done) | (refine ⟨congrArg Value.bool (decide_eq_false ?_).symm, rfl, rfl⟩; intro e; subst e; simp_all; done) | (refine ⟨congrArg Value.bool ?_, rfl, rfl⟩; rw [Bool.eq_iff_iff]; simp_all [ms_ext, gr_ext, rs_ext]; done)
         ·try simp only [tst_] at h20
          iterate 5 refine GL.pass (s := 131) rfl rfl rfl ?_
          refine GL.pure rfl (p_pick_false rfl rfl) ?_; refine GL.mv_ rfl rfl ?_
          iterate 5 refine GL.pass (s := 138) rfl rfl rfl ?_
          refine GL.pure rfl (p_pick_false rfl rfl) ?_; refine GL.as_ rfl rfl ?_; refine GL.nl_ ?_; refine GC.ret ?_
          refine fun a w h => Fin.back (rs := [.tmp 4]) (vs := [_]) (is := []) (js := []) rfl ⟨rfl, trivial⟩ rfl rfl ?_ h
          clear h
          first | (refine ⟨congrArg Value.bool (decide_eq_true ?_).symm, rfl, rfl⟩; simp_all [ms_ext, gr_ext, rs_ext]; done) | (refine ⟨congrArg Value.bool (decide_eq_false ?_).symm, rfl, rfl⟩; intro e; subst e; simp_all; done) | (refine ⟨congrArg Value.bool ?_, rfl, rfl⟩; rw [Bool.eq_iff_iff]; simp_all [ms_ext, gr_ext, rs_ext]; done)
        ·try simp only [tst_] at h19
         iterate 5 refine GL.pass (s := 124) rfl rfl rfl ?_
         refine GL.pure rfl (p_pick_false rfl rfl) ?_; refine GL.mv_ rfl rfl ?_
         iterate 5 refine GL.pass (s := 131) rfl rfl rfl ?_
         refine GL.pure rfl (p_pick_false rfl rfl) ?_; refine GL.mv_ rfl rfl ?_
         iterate 5 refine GL.pass (s := 138) rfl rfl rfl ?_
         refine GL.pure rfl (p_pick_false rfl rfl) ?_; refine GL.as_ rfl rfl ?_; refine GL.nl_ ?_; refine GC.ret ?_
         refine fun a w h => Fin.back (rs := [.tmp 4]) (vs := [_]) (is := []) (js := []) rfl ⟨rfl, trivial⟩ rfl rfl ?_ h
         clear h
         first | (refine ⟨congrArg Value.bool (decide_eq_true ?_).symm, rfl, rfl⟩; simp_all [ms_ext, gr_ext, rs_ext]; done) | (refine ⟨congrArg Value.bool (decide_eq_false ?_).symm, rfl, rfl⟩; intro e; subst e; simp_all; done) | (refine ⟨congrArg Value.bool ?_, rfl, rfl⟩; rw [Bool.eq_iff_iff]; simp_all [ms_ext, gr_ext, rs_ext]; done)
       ·try simp only [tst_] at h18
        refine GL.pass (s := 121) rfl rfl rfl ?_; refine GL.pure rfl (p_pick_false rfl rfl) ?_; refine GL.mv_ rfl rfl ?_
        iterate 5 refine GL.pass (s := 124) rfl rfl rfl ?_
        refine GL.pure rfl (p_pick_false rfl rfl) ?_; refine GL.mv_ rfl rfl ?_
        iterate 5 refine GL.pass (s := 131) rfl rfl rfl ?_
        refine GL.pure rfl (p_pick_false rfl rfl) ?_; refine GL.mv_ rfl rfl ?_
        iterate 5 refine GL.pass (s := 138) rfl rfl rfl ?_
        refine GL.pure rfl (p_pick_false rfl rfl) ?_; refine GL.as_ rfl rfl ?_; refine GL.nl_ ?_; refine GC.ret ?_
        refine fun a w h => Fin.back (rs := [.tmp 4]) (vs := [_]) (is := []) (js := []) rfl ⟨rfl, trivial⟩ rfl rfl ?_ h
        clear h
        first | (refine ⟨congrArg Value.bool (decide_eq_true ?_).symm, rfl, rfl⟩; simp_all [ms_ext, gr_ext, rs_ext]; done) | (refine ⟨congrArg Value.bool (decide_eq_false ?_).symm, rfl, rfl⟩; intro e; subst e; simp_all; done) | (refine ⟨congrArg Value.bool ?_, rfl, rfl⟩; rw [Bool.eq_iff_iff]; simp_all [ms_ext, gr_ext, rs_ext]; done)
      ·try simp only [tst_] at h17
       refine GL.pass (s := 118) rfl rfl rfl ?_; refine GL.pure rfl (p_pick_false rfl rfl) ?_; refine GL.mv_ rfl rfl ?_; refine GL.pass (s := 121) rfl rfl rfl ?_; refine GL.pure rfl (p_pick_false rfl rfl) ?_; refine GL.mv_ rfl rfl ?_
       iterate 5 refine GL.pass (s := 124) rfl rfl rfl ?_
       refine GL.pure rfl (p_pick_false rfl rfl) ?_; refine GL.mv_ rfl rfl ?_
       iterate 5 refine GL.pass (s := 131) rfl rfl rfl ?_
       refine GL.pure rfl (p_pick_false rfl rfl) ?_; refine GL.mv_ rfl rfl ?_
       iterate 5 refine GL.pass (s := 138) rfl rfl rfl ?_
       refine GL.pure rfl (p_pick_false rfl rfl) ?_; refine GL.as_ rfl rfl ?_; refine GL.nl_ ?_; refine GC.ret ?_
       refine fun a w h => Fin.back (rs := [.tmp 4]) (vs := [_]) (is := []) (js := []) rfl ⟨rfl, trivial⟩ rfl rfl ?_ h
       clear h
       first | (refine ⟨congrArg Value.bool (decide_eq_true ?_).symm, rfl, rfl⟩; simp_all [ms_ext, gr_ext, rs_ext]; done) | (refine ⟨congrArg Value.bool (decide_eq_false ?_).symm, rfl, rfl⟩; intro e; subst e; simp_all; done) | (refine ⟨congrArg Value.bool ?_, rfl, rfl⟩; rw [Bool.eq_iff_iff]; simp_all [ms_ext, gr_ext, rs_ext]; done)
     ·try simp only [tst_] at h16
      refine GL.pass (s := 115) rfl rfl rfl ?_; refine GL.pure rfl (p_pick_false rfl rfl) ?_; refine GL.mv_ rfl rfl ?_; refine GL.pass (s := 118) rfl rfl rfl ?_; refine GL.pure rfl (p_pick_false rfl rfl) ?_; refine GL.mv_ rfl rfl ?_
      refine GL.pass (s := 121) rfl rfl rfl ?_; refine GL.pure rfl (p_pick_false rfl rfl) ?_; refine GL.mv_ rfl rfl ?_
      iterate 5 refine GL.pass (s := 124) rfl rfl rfl ?_
      refine GL.pure rfl (p_pick_false rfl rfl) ?_; refine GL.mv_ rfl rfl ?_
      iterate 5 refine GL.pass (s := 131) rfl rfl rfl ?_
      refine GL.pure rfl (p_pick_false rfl rfl) ?_; refine GL.mv_ rfl rfl ?_
      iterate 5 refine GL.pass (s := 138) rfl rfl rfl ?_
      refine GL.pure rfl (p_pick_false rfl rfl) ?_; refine GL.as_ rfl rfl ?_; refine GL.nl_ ?_; refine GC.ret ?_
      refine fun a w h => Fin.back (rs := [.tmp 4]) (vs := [_]) (is := []) (js := []) rfl ⟨rfl, trivial⟩ rfl rfl ?_ h
      clear h
      first | (refine ⟨congrArg Value.bool (decide_eq_true ?_).symm, rfl, rfl⟩; simp_all [ms_ext, gr_ext, rs_ext]; done) | (refine ⟨congrArg Value.bool (decide_eq_false ?_).symm, rfl, rfl⟩; intro e; subst e; simp_all; done) | (refine ⟨congrArg Value.bool ?_, rfl, rfl⟩; rw [Bool.eq_iff_iff]; simp_all [ms_ext, gr_ext, rs_ext]; done)
theorem rmsame_ct (m k : Msg) (s t : Lie) (hm : MsgLen m) : Ct Tryz.prog 15 [msgV m s, msgV k t] [] (msgQ m s ++ msgQ k t) (fun u G Q => u = .bool (decide (m = k)) ∧ G = [] ∧ Q = []) := by
 refine Ct.intro Tryz.func15 rfl rfl rfl (fun c hc => ?_)
 refine GC.sr_ ?_; refine GL.step rfl (t_box rfl rfl rfl) (GL.ex fun b_t2 => ?_); refine GL.step rfl (t_box rfl rfl rfl) (GL.ex fun b_t3 => ?_); refine GL.as_ rfl rfl ?_; refine GL.nl_ ?_; refine GC.joinK1 (ks := [2, 3, 4]) (is := [0, 1]) (js := [0, 1, 2, 3, 4, 5, 6, 7, 8, 9, 10, 11, 12, 13, 14, 15]) (fun (u_ : Unit) => True) (fun (u_ : Unit) => [(5, .bool (decide (m.kind = k.kind ∧ m.src = k.src ∧ m.dst = k.dst ∧ m.epoch = k.epoch ∧ m.view = k.view ∧ m.num = k.num ∧ m.commit = k.commit ∧ m.normal = k.normal ∧ m.nonce = k.nonce ∧ m.client = k.client ∧ m.serial = k.serial)))]) (fun (u_ : Unit) => []) (fun (u_ : Unit) => []) rfl rfl rfl ?_ ?_
 ·refine GC.region ?_; refine GL.pure rfl (p_fieldAddr fo_42_0 rfl) ?_; refine GL.step rfl (t_mem rfl (m_load (i := 1) rfl rfl ag_22 rfl)) ?_; refine GL.pure rfl (p_fieldAddr fo_42_0 rfl) ?_; refine GL.step rfl (t_mem rfl (m_load (i := 0) rfl rfl ag_22 rfl)) ?_
  refine GL.pure rfl (p_eql rfl rfl) ?_; refine GL.mv_ rfl rfl ?_; refine GL.split (i := 11) rfl (fun h1 => ?_) (fun h1 => ?_)
  ·try simp only [tst_] at h1
   refine GL.pureG (s := 11) rfl rfl rfl (p_fieldAddr fo_42_1 rfl) ?_; refine GL.stepG rfl (s := 11) rfl rfl (t_mem rfl (m_load (i := 1) rfl rfl ag_3 rfl)) ?_; refine GL.pureG (s := 11) rfl rfl rfl (p_fieldAddr fo_42_1 rfl) ?_
   refine GL.stepG rfl (s := 11) rfl rfl (t_mem rfl (m_load (i := 0) rfl rfl ag_3 rfl)) ?_; refine GL.pureG (s := 11) rfl rfl rfl (p_eql rfl rfl) ?_; refine GL.pure rfl (p_pick_true rfl rfl) ?_; refine GL.mv_ rfl rfl ?_; refine GL.split (i := 18) rfl (fun h2 => ?_) (fun h2 => ?_)
   ·try simp only [tst_] at h2
    refine GL.pureG (s := 18) rfl rfl rfl (p_fieldAddr fo_42_2 rfl) ?_; refine GL.stepG rfl (s := 18) rfl rfl (t_mem rfl (m_load (i := 1) rfl rfl ag_3 rfl)) ?_; refine GL.pureG (s := 18) rfl rfl rfl (p_fieldAddr fo_42_2 rfl) ?_
    refine GL.stepG rfl (s := 18) rfl rfl (t_mem rfl (m_load (i := 0) rfl rfl ag_3 rfl)) ?_; refine GL.pureG (s := 18) rfl rfl rfl (p_eql rfl rfl) ?_; refine GL.pure rfl (p_pick_true rfl rfl) ?_; refine GL.mv_ rfl rfl ?_
    refine GL.split (i := 25) rfl (fun h3 => ?_) (fun h3 => ?_)
    ·try simp only [tst_] at h3
     refine GL.pureG (s := 25) rfl rfl rfl (p_fieldAddr fo_42_3 rfl) ?_; refine GL.stepG rfl (s := 25) rfl rfl (t_mem rfl (m_load (i := 1) rfl rfl ag_3 rfl)) ?_; refine GL.pureG (s := 25) rfl rfl rfl (p_fieldAddr fo_42_3 rfl) ?_
     refine GL.stepG rfl (s := 25) rfl rfl (t_mem rfl (m_load (i := 0) rfl rfl ag_3 rfl)) ?_; refine GL.pureG (s := 25) rfl rfl rfl (p_eql rfl rfl) ?_; refine GL.pure rfl (p_pick_true rfl rfl) ?_; refine GL.mv_ rfl rfl ?_
     refine GL.split (i := 32) rfl (fun h4 => ?_) (fun h4 => ?_)
     ·try simp only [tst_] at h4
      refine GL.pureG (s := 32) rfl rfl rfl (p_fieldAddr fo_42_4 rfl) ?_; refine GL.stepG rfl (s := 32) rfl rfl (t_mem rfl (m_load (i := 1) rfl rfl ag_3 rfl)) ?_; refine GL.pureG (s := 32) rfl rfl rfl (p_fieldAddr fo_42_4 rfl) ?_
      refine GL.stepG rfl (s := 32) rfl rfl (t_mem rfl (m_load (i := 0) rfl rfl ag_3 rfl)) ?_; refine GL.pureG (s := 32) rfl rfl rfl (p_eql rfl rfl) ?_; refine GL.pure rfl (p_pick_true rfl rfl) ?_; refine GL.mv_ rfl rfl ?_
      refine GL.split (i := 39) rfl (fun h5 => ?_) (fun h5 => ?_)
      ·try simp only [tst_] at h5
       refine GL.pureG (s := 39) rfl rfl rfl (p_fieldAddr fo_42_5 rfl) ?_; refine GL.stepG rfl (s := 39) rfl rfl (t_mem rfl (m_load (i := 1) rfl rfl ag_3 rfl)) ?_; refine GL.pureG (s := 39) rfl rfl rfl (p_fieldAddr fo_42_5 rfl) ?_
       refine GL.stepG rfl (s := 39) rfl rfl (t_mem rfl (m_load (i := 0) rfl rfl ag_3 rfl)) ?_; refine GL.pureG (s := 39) rfl rfl rfl (p_eql rfl rfl) ?_; refine GL.pure rfl (p_pick_true rfl rfl) ?_; refine GL.mv_ rfl rfl ?_
       refine GL.split (i := 46) rfl (fun h6 => ?_) (fun h6 => ?_)
       ·try simp only [tst_] at h6
        refine GL.pureG (s := 46) rfl rfl rfl (p_fieldAddr fo_42_6 rfl) ?_; refine GL.stepG rfl (s := 46) rfl rfl (t_mem rfl (m_load (i := 1) rfl rfl ag_3 rfl)) ?_; refine GL.pureG (s := 46) rfl rfl rfl (p_fieldAddr fo_42_6 rfl) ?_
        refine GL.stepG rfl (s := 46) rfl rfl (t_mem rfl (m_load (i := 0) rfl rfl ag_3 rfl)) ?_; refine GL.pureG (s := 46) rfl rfl rfl (p_eql rfl rfl) ?_; refine GL.pure rfl (p_pick_true rfl rfl) ?_; refine GL.mv_ rfl rfl ?_
        refine GL.split (i := 53) rfl (fun h7 => ?_) (fun h7 => ?_)
        ·try simp only [tst_] at h7
         refine GL.pureG (s := 53) rfl rfl rfl (p_fieldAddr fo_42_7 rfl) ?_; refine GL.stepG rfl (s := 53) rfl rfl (t_mem rfl (m_load (i := 1) rfl rfl ag_3 rfl)) ?_; refine GL.pureG (s := 53) rfl rfl rfl (p_fieldAddr fo_42_7 rfl) ?_
         refine GL.stepG rfl (s := 53) rfl rfl (t_mem rfl (m_load (i := 0) rfl rfl ag_3 rfl)) ?_; refine GL.pureG (s := 53) rfl rfl rfl (p_eql rfl rfl) ?_; refine GL.pure rfl (p_pick_true rfl rfl) ?_; refine GL.mv_ rfl rfl ?_
         refine GL.split (i := 60) rfl (fun h8 => ?_) (fun h8 => ?_)
         ·try simp only [tst_] at h8
          refine GL.pureG (s := 60) rfl rfl rfl (p_fieldAddr fo_42_8 rfl) ?_; refine GL.stepG rfl (s := 60) rfl rfl (t_mem rfl (m_load (i := 1) rfl rfl ag_23 rfl)) ?_; refine GL.pureG (s := 60) rfl rfl rfl (p_fieldAddr fo_42_8 rfl) ?_
          refine GL.stepG rfl (s := 60) rfl rfl (t_mem rfl (m_load (i := 0) rfl rfl ag_23 rfl)) ?_; refine GL.pureG (s := 60) rfl rfl rfl (p_eql rfl rfl) ?_; refine GL.pure rfl (p_pick_true rfl rfl) ?_; refine GL.mv_ rfl rfl ?_
          refine GL.split (i := 67) rfl (fun h9 => ?_) (fun h9 => ?_)
          ·try simp only [tst_] at h9
           refine GL.pureG (s := 67) rfl rfl rfl (p_fieldAddr fo_42_9 rfl) ?_; refine GL.stepG rfl (s := 67) rfl rfl (t_mem rfl (m_load (i := 1) rfl rfl ag_3 rfl)) ?_; refine GL.pureG (s := 67) rfl rfl rfl (p_fieldAddr fo_42_9 rfl) ?_
           refine GL.stepG rfl (s := 67) rfl rfl (t_mem rfl (m_load (i := 0) rfl rfl ag_3 rfl)) ?_; refine GL.pureG (s := 67) rfl rfl rfl (p_eql rfl rfl) ?_; refine GL.pure rfl (p_pick_true rfl rfl) ?_; refine GL.mv_ rfl rfl ?_
           refine GL.split (i := 74) rfl (fun h10 => ?_) (fun h10 => ?_)
           ·try simp only [tst_] at h10
            refine GL.pureG (s := 74) rfl rfl rfl (p_fieldAddr fo_42_10 rfl) ?_; refine GL.stepG rfl (s := 74) rfl rfl (t_mem rfl (m_load (i := 1) rfl rfl ag_3 rfl)) ?_; refine GL.pureG (s := 74) rfl rfl rfl (p_fieldAddr fo_42_10 rfl) ?_
            refine GL.stepG rfl (s := 74) rfl rfl (t_mem rfl (m_load (i := 0) rfl rfl ag_3 rfl)) ?_; refine GL.pureG (s := 74) rfl rfl rfl (p_eql rfl rfl) ?_; refine GL.pure rfl (p_pick_true rfl rfl) ?_; refine GL.as_ rfl rfl ?_
            refine GL.split (i := 5) rfl (fun h11 => ?_) (fun h11 => ?_)
            ·try simp only [tst_] at h11
             refine GL.nil ?_
             exact fun a w h => ⟨(()), trivial, by rw [decide_eq_true (show m.kind = k.kind ∧ m.src = k.src ∧ m.dst = k.dst ∧ m.epoch = k.epoch ∧ m.view = k.view ∧ m.num = k.num ∧ m.commit = k.commit ∧ m.normal = k.normal ∧ m.nonce = k.nonce ∧ m.client = k.client ∧ m.serial = k.serial by simp [*])]; exact h.cut (is := [0, 0]) (js := [0, 1, 2, 3, 4, 5, 6, 7, 8, 9, 10, 11, 12, 13, 14, 15]) ⟨rfl, rfl, rfl, rfl, trivial⟩ rfl rfl⟩
            ·try simp only [tst_] at h11
             refine GL.nil ?_
             exact fun a w h => ⟨(()), trivial, by rw [decide_eq_false (show ¬ (m.kind = k.kind ∧ m.src = k.src ∧ m.dst = k.dst ∧ m.epoch = k.epoch ∧ m.view = k.view ∧ m.num = k.num ∧ m.commit = k.commit ∧ m.normal = k.normal ∧ m.nonce = k.nonce ∧ m.client = k.client ∧ m.serial = k.serial) by simp [*])]; exact h.cut (is := [0, 0]) (js := [0, 1, 2, 3, 4, 5, 6, 7, 8, 9, 10, 11, 12, 13, 14, 15]) ⟨rfl, rfl, rfl, rfl, trivial⟩ rfl rfl⟩
           ·try simp only [tst_] at h10
            iterate 5 refine GL.pass (s := 74) rfl rfl rfl ?_
            refine GL.pure rfl (p_pick_false rfl rfl) ?_; refine GL.as_ rfl rfl ?_; refine GL.nil ?_
            exact fun a w h => ⟨(()), trivial, by rw [decide_eq_false (show ¬ (m.kind = k.kind ∧ m.src = k.src ∧ m.dst = k.dst ∧ m.epoch = k.epoch ∧ m.view = k.view ∧ m.num = k.num ∧ m.commit = k.commit ∧ m.normal = k.normal ∧ m.nonce = k.nonce ∧ m.client = k.client ∧ m.serial = k.serial) by simp [*])]; exact h.cut (is := [0, 0]) (js := [0, 1, 2, 3, 4, 5, 6, 7, 8, 9, 10, 11, 12, 13, 14, 15]) ⟨rfl, rfl, rfl, rfl, trivial⟩ rfl rfl⟩
          ·try simp only [tst_] at h9
           iterate 5 refine GL.pass (s := 67) rfl rfl rfl ?_
           refine GL.pure rfl (p_pick_false rfl rfl) ?_; refine GL.mv_ rfl rfl ?_
           iterate 5 refine GL.pass (s := 74) rfl rfl rfl ?_
           refine GL.pure rfl (p_pick_false rfl rfl) ?_; refine GL.as_ rfl rfl ?_; refine GL.nil ?_
           exact fun a w h => ⟨(()), trivial, by rw [decide_eq_false (show ¬ (m.kind = k.kind ∧ m.src = k.src ∧ m.dst = k.dst ∧ m.epoch = k.epoch ∧ m.view = k.view ∧ m.num = k.num ∧ m.commit = k.commit ∧ m.normal = k.normal ∧ m.nonce = k.nonce ∧ m.client = k.client ∧ m.serial = k.serial) by simp [*])]; exact h.cut (is := [0, 0]) (js := [0, 1, 2, 3, 4, 5, 6, 7, 8, 9, 10, 11, 12, 13, 14, 15]) ⟨rfl, rfl, rfl, rfl, trivial⟩ rfl rfl⟩
         ·try simp only [tst_] at h8
          iterate 5 refine GL.pass (s := 60) rfl rfl rfl ?_
          refine GL.pure rfl (p_pick_false rfl rfl) ?_; refine GL.mv_ rfl rfl ?_
          iterate 5 refine GL.pass (s := 67) rfl rfl rfl ?_
          refine GL.pure rfl (p_pick_false rfl rfl) ?_; refine GL.mv_ rfl rfl ?_
          iterate 5 refine GL.pass (s := 74) rfl rfl rfl ?_
          refine GL.pure rfl (p_pick_false rfl rfl) ?_; refine GL.as_ rfl rfl ?_; refine GL.nil ?_
          exact fun a w h => ⟨(()), trivial, by rw [decide_eq_false (show ¬ (m.kind = k.kind ∧ m.src = k.src ∧ m.dst = k.dst ∧ m.epoch = k.epoch ∧ m.view = k.view ∧ m.num = k.num ∧ m.commit = k.commit ∧ m.normal = k.normal ∧ m.nonce = k.nonce ∧ m.client = k.client ∧ m.serial = k.serial) by simp [*])]; exact h.cut (is := [0, 0]) (js := [0, 1, 2, 3, 4, 5, 6, 7, 8, 9, 10, 11, 12, 13, 14, 15]) ⟨rfl, rfl, rfl, rfl, trivial⟩ rfl rfl⟩
        ·try simp only [tst_] at h7
         iterate 5 refine GL.pass (s := 53) rfl rfl rfl ?_
         refine GL.pure rfl (p_pick_false rfl rfl) ?_; refine GL.mv_ rfl rfl ?_
         iterate 5 refine GL.pass (s := 60) rfl rfl rfl ?_
         refine GL.pure rfl (p_pick_false rfl rfl) ?_; refine GL.mv_ rfl rfl ?_
         iterate 5 refine GL.pass (s := 67) rfl rfl rfl ?_
         refine GL.pure rfl (p_pick_false rfl rfl) ?_; refine GL.mv_ rfl rfl ?_
         iterate 5 refine GL.pass (s := 74) rfl rfl rfl ?_
         refine GL.pure rfl (p_pick_false rfl rfl) ?_; refine GL.as_ rfl rfl ?_; refine GL.nil ?_
         exact fun a w h => ⟨(()), trivial, by rw [decide_eq_false (show ¬ (m.kind = k.kind ∧ m.src = k.src ∧ m.dst = k.dst ∧ m.epoch = k.epoch ∧ m.view = k.view ∧ m.num = k.num ∧ m.commit = k.commit ∧ m.normal = k.normal ∧ m.nonce = k.nonce ∧ m.client = k.client ∧ m.serial = k.serial) by simp [*])]; exact h.cut (is := [0, 0]) (js := [0, 1, 2, 3, 4, 5, 6, 7, 8, 9, 10, 11, 12, 13, 14, 15]) ⟨rfl, rfl, rfl, rfl, trivial⟩ rfl rfl⟩
       ·try simp only [tst_] at h6
        iterate 5 refine GL.pass (s := 46) rfl rfl rfl ?_
        refine GL.pure rfl (p_pick_false rfl rfl) ?_; refine GL.mv_ rfl rfl ?_
        iterate 5 refine GL.pass (s := 53) rfl rfl rfl ?_
        refine GL.pure rfl (p_pick_false rfl rfl) ?_; refine GL.mv_ rfl rfl ?_
        iterate 5 refine GL.pass (s := 60) rfl rfl rfl ?_
        refine GL.pure rfl (p_pick_false rfl rfl) ?_; refine GL.mv_ rfl rfl ?_
        iterate 5 refine GL.pass (s := 67) rfl rfl rfl ?_
        refine GL.pure rfl (p_pick_false rfl rfl) ?_; refine GL.mv_ rfl rfl ?_
        iterate 5 refine GL.pass (s := 74) rfl rfl rfl ?_
        refine GL.pure rfl (p_pick_false rfl rfl) ?_; refine GL.as_ rfl rfl ?_; refine GL.nil ?_
        exact fun a w h => ⟨(()), trivial, by rw [decide_eq_false (show ¬ (m.kind = k.kind ∧ m.src = k.src ∧ m.dst = k.dst ∧ m.epoch = k.epoch ∧ m.view = k.view ∧ m.num = k.num ∧ m.commit = k.commit ∧ m.normal = k.normal ∧ m.nonce = k.nonce ∧ m.client = k.client ∧ m.serial = k.serial) by simp [*])]; exact h.cut (is := [0, 0]) (js := [0, 1, 2, 3, 4, 5, 6, 7, 8, 9, 10, 11, 12, 13, 14, 15]) ⟨rfl, rfl, rfl, rfl, trivial⟩ rfl rfl⟩
      ·try simp only [tst_] at h5
       iterate 5 refine GL.pass (s := 39) rfl rfl rfl ?_
       refine GL.pure rfl (p_pick_false rfl rfl) ?_; refine GL.mv_ rfl rfl ?_
       iterate 5 refine GL.pass (s := 46) rfl rfl rfl ?_
       refine GL.pure rfl (p_pick_false rfl rfl) ?_; refine GL.mv_ rfl rfl ?_
       iterate 5 refine GL.pass (s := 53) rfl rfl rfl ?_
       refine GL.pure rfl (p_pick_false rfl rfl) ?_; refine GL.mv_ rfl rfl ?_
       iterate 5 refine GL.pass (s := 60) rfl rfl rfl ?_
       refine GL.pure rfl (p_pick_false rfl rfl) ?_; refine GL.mv_ rfl rfl ?_
       iterate 5 refine GL.pass (s := 67) rfl rfl rfl ?_
       refine GL.pure rfl (p_pick_false rfl rfl) ?_; refine GL.mv_ rfl rfl ?_
       iterate 5 refine GL.pass (s := 74) rfl rfl rfl ?_
       refine GL.pure rfl (p_pick_false rfl rfl) ?_; refine GL.as_ rfl rfl ?_; refine GL.nil ?_
       exact fun a w h => ⟨(()), trivial, by rw [decide_eq_false (show ¬ (m.kind = k.kind ∧ m.src = k.src ∧ m.dst = k.dst ∧ m.epoch = k.epoch ∧ m.view = k.view ∧ m.num = k.num ∧ m.commit = k.commit ∧ m.normal = k.normal ∧ m.nonce = k.nonce ∧ m.client = k.client ∧ m.serial = k.serial) by simp [*])]; exact h.cut (is := [0, 0]) (js := [0, 1, 2, 3, 4, 5, 6, 7, 8, 9, 10, 11, 12, 13, 14, 15]) ⟨rfl, rfl, rfl, rfl, trivial⟩ rfl rfl⟩
     ·try simp only [tst_] at h4
      iterate 5 refine GL.pass (s := 32) rfl rfl rfl ?_
      refine GL.pure rfl (p_pick_false rfl rfl) ?_; refine GL.mv_ rfl rfl ?_
      iterate 5 refine GL.pass (s := 39) rfl rfl rfl ?_
      refine GL.pure rfl (p_pick_false rfl rfl) ?_; refine GL.mv_ rfl rfl ?_
      iterate 5 refine GL.pass (s := 46) rfl rfl rfl ?_
      refine GL.pure rfl (p_pick_false rfl rfl) ?_; refine GL.mv_ rfl rfl ?_
      iterate 5 refine GL.pass (s := 53) rfl rfl rfl ?_
      refine GL.pure rfl (p_pick_false rfl rfl) ?_; refine GL.mv_ rfl rfl ?_
      iterate 5 refine GL.pass (s := 60) rfl rfl rfl ?_
      refine GL.pure rfl (p_pick_false rfl rfl) ?_; refine GL.mv_ rfl rfl ?_
      iterate 5 refine GL.pass (s := 67) rfl rfl rfl ?_
      refine GL.pure rfl (p_pick_false rfl rfl) ?_; refine GL.mv_ rfl rfl ?_
      iterate 5 refine GL.pass (s := 74) rfl rfl rfl ?_
      refine GL.pure rfl (p_pick_false rfl rfl) ?_; refine GL.as_ rfl rfl ?_; refine GL.nil ?_
      exact fun a w h => ⟨(()), trivial, by rw [decide_eq_false (show ¬ (m.kind = k.kind ∧ m.src = k.src ∧ m.dst = k.dst ∧ m.epoch = k.epoch ∧ m.view = k.view ∧ m.num = k.num ∧ m.commit = k.commit ∧ m.normal = k.normal ∧ m.nonce = k.nonce ∧ m.client = k.client ∧ m.serial = k.serial) by simp [*])]; exact h.cut (is := [0, 0]) (js := [0, 1, 2, 3, 4, 5, 6, 7, 8, 9, 10, 11, 12, 13, 14, 15]) ⟨rfl, rfl, rfl, rfl, trivial⟩ rfl rfl⟩
    ·try simp only [tst_] at h3
     iterate 5 refine GL.pass (s := 25) rfl rfl rfl ?_
     refine GL.pure rfl (p_pick_false rfl rfl) ?_; refine GL.mv_ rfl rfl ?_
     iterate 5 refine GL.pass (s := 32) rfl rfl rfl ?_
     refine GL.pure rfl (p_pick_false rfl rfl) ?_; refine GL.mv_ rfl rfl ?_
     iterate 5 refine GL.pass (s := 39) rfl rfl rfl ?_
     refine GL.pure rfl (p_pick_false rfl rfl) ?_; refine GL.mv_ rfl rfl ?_
     iterate 5 refine GL.pass (s := 46) rfl rfl rfl ?_
     refine GL.pure rfl (p_pick_false rfl rfl) ?_; refine GL.mv_ rfl rfl ?_
     iterate 5 refine GL.pass (s := 53) rfl rfl rfl ?_
     refine GL.pure rfl (p_pick_false rfl rfl) ?_; refine GL.mv_ rfl rfl ?_
     iterate 5 refine GL.pass (s := 60) rfl rfl rfl ?_
     refine GL.pure rfl (p_pick_false rfl rfl) ?_; refine GL.mv_ rfl rfl ?_
     iterate 5 refine GL.pass (s := 67) rfl rfl rfl ?_
     refine GL.pure rfl (p_pick_false rfl rfl) ?_; refine GL.mv_ rfl rfl ?_
     iterate 5 refine GL.pass (s := 74) rfl rfl rfl ?_
     refine GL.pure rfl (p_pick_false rfl rfl) ?_; refine GL.as_ rfl rfl ?_; refine GL.nil ?_
     exact fun a w h => ⟨(()), trivial, by rw [decide_eq_false (show ¬ (m.kind = k.kind ∧ m.src = k.src ∧ m.dst = k.dst ∧ m.epoch = k.epoch ∧ m.view = k.view ∧ m.num = k.num ∧ m.commit = k.commit ∧ m.normal = k.normal ∧ m.nonce = k.nonce ∧ m.client = k.client ∧ m.serial = k.serial) by simp [*])]; exact h.cut (is := [0, 0]) (js := [0, 1, 2, 3, 4, 5, 6, 7, 8, 9, 10, 11, 12, 13, 14, 15]) ⟨rfl, rfl, rfl, rfl, trivial⟩ rfl rfl⟩
   ·try simp only [tst_] at h2
    iterate 5 refine GL.pass (s := 18) rfl rfl rfl ?_
    refine GL.pure rfl (p_pick_false rfl rfl) ?_; refine GL.mv_ rfl rfl ?_
    iterate 5 refine GL.pass (s := 25) rfl rfl rfl ?_
    refine GL.pure rfl (p_pick_false rfl rfl) ?_; refine GL.mv_ rfl rfl ?_
    iterate 5 refine GL.pass (s := 32) rfl rfl rfl ?_
    refine GL.pure rfl (p_pick_false rfl rfl) ?_; refine GL.mv_ rfl rfl ?_
    iterate 5 refine GL.pass (s := 39) rfl rfl rfl ?_
    refine GL.pure rfl (p_pick_false rfl rfl) ?_; refine GL.mv_ rfl rfl ?_
    iterate 5 refine GL.pass (s := 46) rfl rfl rfl ?_
    refine GL.pure rfl (p_pick_false rfl rfl) ?_; refine GL.mv_ rfl rfl ?_
    iterate 5 refine GL.pass (s := 53) rfl rfl rfl ?_
    refine GL.pure rfl (p_pick_false rfl rfl) ?_; refine GL.mv_ rfl rfl ?_
    iterate 5 refine GL.pass (s := 60) rfl rfl rfl ?_
    refine GL.pure rfl (p_pick_false rfl rfl) ?_; refine GL.mv_ rfl rfl ?_
    iterate 5 refine GL.pass (s := 67) rfl rfl rfl ?_
    refine GL.pure rfl (p_pick_false rfl rfl) ?_; refine GL.mv_ rfl rfl ?_
    iterate 5 refine GL.pass (s := 74) rfl rfl rfl ?_
    refine GL.pure rfl (p_pick_false rfl rfl) ?_; refine GL.as_ rfl rfl ?_; refine GL.nil ?_
    exact fun a w h => ⟨(()), trivial, by rw [decide_eq_false (show ¬ (m.kind = k.kind ∧ m.src = k.src ∧ m.dst = k.dst ∧ m.epoch = k.epoch ∧ m.view = k.view ∧ m.num = k.num ∧ m.commit = k.commit ∧ m.normal = k.normal ∧ m.nonce = k.nonce ∧ m.client = k.client ∧ m.serial = k.serial) by simp [*])]; exact h.cut (is := [0, 0]) (js := [0, 1, 2, 3, 4, 5, 6, 7, 8, 9, 10, 11, 12, 13, 14, 15]) ⟨rfl, rfl, rfl, rfl, trivial⟩ rfl rfl⟩
  ·try simp only [tst_] at h1
   iterate 5 refine GL.pass (s := 11) rfl rfl rfl ?_
   refine GL.pure rfl (p_pick_false rfl rfl) ?_; refine GL.mv_ rfl rfl ?_
   iterate 5 refine GL.pass (s := 18) rfl rfl rfl ?_
   refine GL.pure rfl (p_pick_false rfl rfl) ?_; refine GL.mv_ rfl rfl ?_
   iterate 5 refine GL.pass (s := 25) rfl rfl rfl ?_
   refine GL.pure rfl (p_pick_false rfl rfl) ?_; refine GL.mv_ rfl rfl ?_
   iterate 5 refine GL.pass (s := 32) rfl rfl rfl ?_
   refine GL.pure rfl (p_pick_false rfl rfl) ?_; refine GL.mv_ rfl rfl ?_
   iterate 5 refine GL.pass (s := 39) rfl rfl rfl ?_
   refine GL.pure rfl (p_pick_false rfl rfl) ?_; refine GL.mv_ rfl rfl ?_
   iterate 5 refine GL.pass (s := 46) rfl rfl rfl ?_
   refine GL.pure rfl (p_pick_false rfl rfl) ?_; refine GL.mv_ rfl rfl ?_
   iterate 5 refine GL.pass (s := 53) rfl rfl rfl ?_
   refine GL.pure rfl (p_pick_false rfl rfl) ?_; refine GL.mv_ rfl rfl ?_
   iterate 5 refine GL.pass (s := 60) rfl rfl rfl ?_
   refine GL.pure rfl (p_pick_false rfl rfl) ?_; refine GL.mv_ rfl rfl ?_
   iterate 5 refine GL.pass (s := 67) rfl rfl rfl ?_
   refine GL.pure rfl (p_pick_false rfl rfl) ?_; refine GL.mv_ rfl rfl ?_
   iterate 5 refine GL.pass (s := 74) rfl rfl rfl ?_
   refine GL.pure rfl (p_pick_false rfl rfl) ?_; refine GL.as_ rfl rfl ?_; refine GL.nil ?_
   exact fun a w h => ⟨(()), trivial, by rw [decide_eq_false (show ¬ (m.kind = k.kind ∧ m.src = k.src ∧ m.dst = k.dst ∧ m.epoch = k.epoch ∧ m.view = k.view ∧ m.num = k.num ∧ m.commit = k.commit ∧ m.normal = k.normal ∧ m.nonce = k.nonce ∧ m.client = k.client ∧ m.serial = k.serial) by simp [*])]; exact h.cut (is := [0, 0]) (js := [0, 1, 2, 3, 4, 5, 6, 7, 8, 9, 10, 11, 12, 13, 14, 15]) ⟨rfl, rfl, rfl, rfl, trivial⟩ rfl rfl⟩
 ·intro u_ hj1
  try dsimp only [List.cons_append, List.nil_append] at hj1 ⊢
  refine GC.sr_ ?_
  iterate 2 refine GL.mv_ rfl rfl ?_
  refine GL.split (i := 82) rfl (fun h12 => ?_) (fun h12 => ?_)
  ·try simp only [tst_] at h12
   refine GL.pureG (s := 82) rfl rfl rfl (p_fieldAddr fo_42_11 rfl) ?_; refine GL.stepG rfl (s := 82) rfl rfl (t_mem rfl (m_loadN (i := 1) rfl rfl ag_27 (vs := [_, _, _, _, _]) sz_27 ⟨rfl, rfl, rfl, rfl, rfl, trivial⟩)) ?_
   refine GL.pureG (s := 82) rfl rfl rfl (p_fieldAddr fo_42_11 rfl) ?_; refine GL.stepG rfl (s := 82) rfl rfl (t_mem rfl (m_loadN (i := 0) rfl rfl ag_27 (vs := [_, _, _, _, _]) sz_27 ⟨rfl, rfl, rfl, rfl, rfl, trivial⟩)) ?_
   refine GL.stepG rfl (s := 82) rfl rfl (t_call rfl fn_27 rfl (is := []) (js := [0, 1, 8, 9]) rfl rfl (by exact rbsame_ct m.op k.op _ _ _ _ _ _ _ _)) (GL.ret ?_)
   rintro _ _ _ ⟨rfl, rfl, rfl⟩
   refine GL.pure rfl (p_pick_true rfl rfl) ?_; refine GL.mv_ rfl rfl ?_; refine GL.split (i := 89) rfl (fun h13 => ?_) (fun h13 => ?_)
   ·try simp only [tst_] at h13
    refine GL.pureG (s := 89) rfl rfl rfl (p_fieldAddr fo_42_12 rfl) ?_; refine GL.stepG rfl (s := 89) rfl rfl (t_mem rfl (m_loadN (i := 1) rfl rfl ag_30 (vs := [_, _]) sz_30 ⟨rfl, rfl, trivial⟩)) ?_; refine GL.pureG (s := 89) rfl rfl rfl (p_fieldAddr fo_42_12 rfl) ?_
    refine GL.stepG rfl (s := 89) rfl rfl (t_mem rfl (m_loadN (i := 0) rfl rfl ag_30 (vs := [_, _]) sz_30 ⟨rfl, rfl, trivial⟩)) ?_; refine GL.stepG rfl (s := 89) rfl rfl (t_call rfl fn_41 rfl (is := []) (js := [2, 10]) rfl rfl (by exact srs_ct m.res k.res _ _ _ _)) (GL.ret ?_)
    rintro _ _ _ ⟨rfl, rfl, rfl⟩
    refine GL.pure rfl (p_pick_true rfl rfl) ?_; refine GL.mv_ rfl rfl ?_; refine GL.split (i := 96) rfl (fun h14 => ?_) (fun h14 => ?_)
    ·try simp only [tst_] at h14
     refine GL.pureG (s := 96) rfl rfl rfl (p_fieldAddr fo_42_13 rfl) ?_; refine GL.stepG rfl (s := 96) rfl rfl (t_mem rfl (m_loadN (i := 1) rfl rfl ag_33 (vs := [_, _]) sz_33 ⟨rfl, rfl, trivial⟩)) ?_; refine GL.pureG (s := 96) rfl rfl rfl (p_fieldAddr fo_42_13 rfl) ?_
     refine GL.stepG rfl (s := 96) rfl rfl (t_mem rfl (m_loadN (i := 0) rfl rfl ag_33 (vs := [_, _]) sz_33 ⟨rfl, rfl, trivial⟩)) ?_; refine GL.stepG rfl (s := 96) rfl rfl (t_call rfl fn_42 rfl (is := []) (js := [3, 11]) rfl rfl (by exact rgsg_ct m.grp k.grp _ _ _ _ (by have := hm.g; omega))) (GL.ret ?_)
     rintro _ _ _ ⟨rfl, rfl, rfl⟩
     refine GL.pure rfl (p_pick_true rfl rfl) ?_; refine GL.mv_ rfl rfl ?_; refine GL.split (i := 103) rfl (fun h15 => ?_) (fun h15 => ?_)
     ·try simp only [tst_] at h15
      refine GL.pureG (s := 103) rfl rfl rfl (p_fieldAddr fo_42_14 rfl) ?_; refine GL.stepG rfl (s := 103) rfl rfl (t_mem rfl (m_loadN (i := 1) rfl rfl ag_39 (vs := [_, _, _, _, _, _, _]) sz_39 ⟨rfl, rfl, rfl, rfl, rfl, rfl, rfl, trivial⟩)) ?_
      refine GL.pureG (s := 103) rfl rfl rfl (p_fieldAddr fo_42_14 rfl) ?_; refine GL.stepG rfl (s := 103) rfl rfl (t_mem rfl (m_loadN (i := 0) rfl rfl ag_39 (vs := [_, _, _, _, _, _, _]) sz_39 ⟨rfl, rfl, rfl, rfl, rfl, rfl, rfl, trivial⟩)) ?_
      refine GL.stepG rfl (s := 103) rfl rfl (t_call rfl fn_43 rfl (is := []) (js := [4, 5, 6, 12, 13, 14]) rfl rfl (by exact rstt_ct m.stt k.stt _ _ _ _ _ _ _ _ _ _ _ _ (by have := hm.s.p; omega) (by have := hm.s.r; omega) (by have := hm.s.m; omega))) (GL.ret ?_)
      rintro _ _ _ ⟨rfl, rfl, rfl⟩
      refine GL.pure rfl (p_pick_true rfl rfl) ?_; refine GL.mv_ rfl rfl ?_; refine GL.split (i := 110) rfl (fun h16 => ?_) (fun h16 => ?_)
      ·try simp only [tst_] at h16
       refine GL.pureG (s := 110) rfl rfl rfl (p_fieldAddr fo_42_15 rfl) ?_; refine GL.stepG rfl (s := 110) rfl rfl (t_mem rfl (m_load (i := 1) rfl rfl ag_40 rfl)) ?_; refine GL.pureG (s := 110) rfl rfl rfl (p_fieldAddr fo_42_15 rfl) ?_
       refine GL.stepG rfl (s := 110) rfl rfl (t_mem rfl (m_load (i := 0) rfl rfl ag_40 rfl)) ?_; refine GL.stepG rfl (s := 110) rfl rfl (t_call rfl fn_44 rfl (is := []) (js := [7, 15]) rfl rfl (by exact rens_ct _ m.log _ _ k.log _ (by have := hm.l; omega) hm.e)) (GL.ret ?_)
       rintro _ _ _ ⟨rfl, rfl, rfl⟩
       refine GL.pure rfl (p_pick_true rfl rfl) ?_; refine GL.as_ rfl rfl ?_; refine GL.nl_ ?_; refine GC.ret ?_
       refine fun a w h => Fin.back (rs := [.tmp 4]) (vs := [_]) (is := []) (js := []) rfl ⟨rfl, trivial⟩ rfl rfl ?_ h
       clear h
       first | (refine ⟨congrArg Value.bool (decide_eq_true ?_).symm, rfl, rfl⟩; simp_all [ms_ext, gr_ext, rs_ext]; done) | (refine ⟨congrArg Value.bool (decide_eq_false ?_).symm, rfl, rfl⟩; intro e; subst e; simp_all; done) | (refine ⟨congrArg Value.bool ?_, rfl, rfl⟩; rw [Bool.eq_iff_iff]; simp_all [ms_ext, gr_ext, rs_ext]; done)
      ·try simp only [tst_] at h16
       iterate 5 refine GL.pass (s := 110) rfl rfl rfl ?_
       refine GL.pure rfl (p_pick_false rfl rfl) ?_; refine GL.as_ rfl rfl ?_; refine GL.nl_ ?_; refine GC.ret ?_
       refine fun a w h => Fin.back (rs := [.tmp 4]) (vs := [_]) (is := []) (js := []) rfl ⟨rfl, trivial⟩ rfl rfl ?_ h
       clear h
       first | (refine ⟨congrArg Value.bool (decide_eq_true ?_).symm, rfl, rfl⟩; simp_all [ms_ext, gr_ext, rs_ext]; done) | (refine ⟨congrArg Value.bool (decide_eq_false ?_).symm, rfl, rfl⟩; intro e; subst e; simp_all; done) | (refine ⟨congrArg Value.bool ?_, rfl, rfl⟩; rw [Bool.eq_iff_iff]; simp_all [ms_ext, gr_ext, rs_ext]; done)
     ·try simp only [tst_] at h15
      iterate 5 refine GL.pass (s := 103) rfl rfl rfl ?_
      refine GL.pure rfl (p_pick_false rfl rfl) ?_; refine GL.mv_ rfl rfl ?_
      iterate 5 refine GL.pass (s := 110) rfl rfl rfl ?_
      refine GL.pure rfl (p_pick_false rfl rfl) ?_; refine GL.as_ rfl rfl ?_; refine GL.nl_ ?_; refine GC.ret ?_
      refine fun a w h => Fin.back (rs := [.tmp 4]) (vs := [_]) (is := []) (js := []) rfl ⟨rfl, trivial⟩ rfl rfl ?_ h
      clear h
      first | (refine ⟨congrArg Value.bool (decide_eq_true ?_).symm, rfl, rfl⟩; simp_all [ms_ext, gr_ext, rs_ext]; done) | (refine ⟨congrArg Value.bool (decide_eq_false ?_).symm, rfl, rfl⟩; intro e; subst e; simp_all; done) | (refine ⟨congrArg Value.bool ?_, rfl, rfl⟩; rw [Bool.eq_iff_iff]; simp_all [ms_ext, gr_ext, rs_ext]; done)
    ·try simp only [tst_] at h14
     iterate 5 refine GL.pass (s := 96) rfl rfl rfl ?_
     refine GL.pure rfl (p_pick_false rfl rfl) ?_; refine GL.mv_ rfl rfl ?_
     iterate 5 refine GL.pass (s := 103) rfl rfl rfl ?_
     refine GL.pure rfl (p_pick_false rfl rfl) ?_; refine GL.mv_ rfl rfl ?_
     iterate 5 refine GL.pass (s := 110) rfl rfl rfl ?_
     refine GL.pure rfl (p_pick_false rfl rfl) ?_; refine GL.as_ rfl rfl ?_; refine GL.nl_ ?_; refine GC.ret ?_
     refine fun a w h => Fin.back (rs := [.tmp 4]) (vs := [_]) (is := []) (js := []) rfl ⟨rfl, trivial⟩ rfl rfl ?_ h
     clear h
     first | (refine ⟨congrArg Value.bool (decide_eq_true ?_).symm, rfl, rfl⟩; simp_all [ms_ext, gr_ext, rs_ext]; done) | (refine ⟨congrArg Value.bool (decide_eq_false ?_).symm, rfl, rfl⟩; intro e; subst e; simp_all; done) | (refine ⟨congrArg Value.bool ?_, rfl, rfl⟩; rw [Bool.eq_iff_iff]; simp_all [ms_ext, gr_ext, rs_ext]; done)
   ·try simp only [tst_] at h13
    iterate 5 refine GL.pass (s := 89) rfl rfl rfl ?_
    refine GL.pure rfl (p_pick_false rfl rfl) ?_; refine GL.mv_ rfl rfl ?_
    iterate 5 refine GL.pass (s := 96) rfl rfl rfl ?_
    refine GL.pure rfl (p_pick_false rfl rfl) ?_; refine GL.mv_ rfl rfl ?_
    iterate 5 refine GL.pass (s := 103) rfl rfl rfl ?_
    refine GL.pure rfl (p_pick_false rfl rfl) ?_; refine GL.mv_ rfl rfl ?_
    iterate 5 refine GL.pass (s := 110) rfl rfl rfl ?_
    refine GL.pure rfl (p_pick_false rfl rfl) ?_; refine GL.as_ rfl rfl ?_; refine GL.nl_ ?_; refine GC.ret ?_
    refine fun a w h => Fin.back (rs := [.tmp 4]) (vs := [_]) (is := []) (js := []) rfl ⟨rfl, trivial⟩ rfl rfl ?_ h
    clear h
    first | (refine ⟨congrArg Value.bool (decide_eq_true ?_).symm, rfl, rfl⟩; simp_all [ms_ext, gr_ext, rs_ext]; done) | (refine ⟨congrArg Value.bool (decide_eq_false ?_).symm, rfl, rfl⟩; intro e; subst e; simp_all; done) | (refine ⟨congrArg Value.bool ?_, rfl, rfl⟩; rw [Bool.eq_iff_iff]; simp_all [ms_ext, gr_ext, rs_ext]; done)
  ·try simp only [tst_] at h12
   iterate 5 refine GL.pass (s := 82) rfl rfl rfl ?_
   refine GL.pure rfl (p_pick_false rfl rfl) ?_; refine GL.mv_ rfl rfl ?_
   iterate 5 refine GL.pass (s := 89) rfl rfl rfl ?_
   refine GL.pure rfl (p_pick_false rfl rfl) ?_; refine GL.mv_ rfl rfl ?_
   iterate 5 refine GL.pass (s := 96) rfl rfl rfl ?_
   refine GL.pure rfl (p_pick_false rfl rfl) ?_; refine GL.mv_ rfl rfl ?_
   iterate 5 refine GL.pass (s := 103) rfl rfl rfl ?_
   refine GL.pure rfl (p_pick_false rfl rfl) ?_; refine GL.mv_ rfl rfl ?_
   iterate 5 refine GL.pass (s := 110) rfl rfl rfl ?_
   refine GL.pure rfl (p_pick_false rfl rfl) ?_; refine GL.as_ rfl rfl ?_; refine GL.nl_ ?_; refine GC.ret ?_
   refine fun a w h => Fin.back (rs := [.tmp 4]) (vs := [_]) (is := []) (js := []) rfl ⟨rfl, trivial⟩ rfl rfl ?_ h
   clear h
   first | (refine ⟨congrArg Value.bool (decide_eq_true ?_).symm, rfl, rfl⟩; simp_all [ms_ext, gr_ext, rs_ext]; done) | (refine ⟨congrArg Value.bool (decide_eq_false ?_).symm, rfl, rfl⟩; intro e; subst e; simp_all; done) | (refine ⟨congrArg Value.bool ?_, rfl, rfl⟩; rw [Bool.eq_iff_iff]; simp_all [ms_ext, gr_ext, rs_ext]; done)
end Go.Proofs.YtdhdmbmknpjhbaaGreat
namespace Go.Proofs.YtdhdmbmknpjhbaaGreat
open Go Go.Sx Go.Proofs
theorem mnum_ct (n : Int) : Ct Tryz.prog 144 [.int .i64 n] [] [] (fun v G Q => v = .bool (isNum n) ∧ G = [] ∧ Q = []) := by
 refine Ct.intro Tryz.func144 rfl rfl rfl (fun c hc => ?_)
 refine GC.sr_ ?_; refine GL.as_ rfl rfl ?_; refine GL.nl_ ?_; refine GC.sr_ ?_; refine GL.mv_ rfl rfl ?_; refine GL.pure rfl (p_geq rfl rfl) ?_; refine GL.mv_ rfl rfl ?_; refine GL.split (i := 5) rfl (fun h1 => ?_) (fun h1 => ?_)
 ·try simp only [tst_] at h1
  refine GL.pureG (s := 5) rfl rfl rfl (p_move rfl) ?_; refine GL.pureG (s := 5) rfl rfl rfl (p_leq rfl rfl) ?_; refine GL.pure rfl (p_pick_true rfl rfl) ?_; refine GL.as_ rfl rfl ?_; refine GL.nl_ ?_; refine GC.ret ?_
  refine fun a w h => Fin.back (rs := [.tmp 2]) (vs := [_]) (is := []) (js := []) rfl ⟨rfl, trivial⟩ rfl rfl ?_ h
  clear h
  refine ⟨congrArg Value.bool ?_, rfl, rfl⟩; simp [isNum]; omega
 ·try simp only [tst_] at h1
  iterate 2 refine GL.pass (s := 5) rfl rfl rfl ?_
  refine GL.pure rfl (p_pick_false rfl rfl) ?_; refine GL.as_ rfl rfl ?_; refine GL.nl_ ?_; refine GC.ret ?_
  refine fun a w h => Fin.back (rs := [.tmp 2]) (vs := [_]) (is := []) (js := []) rfl ⟨rfl, trivial⟩ rfl rfl ?_ h
  clear h
  refine ⟨congrArg Value.bool ?_, rfl, rfl⟩; simp [isNum]; omega
theorem who_ct (n : Int) : Ct Tryz.prog 23 [.int .i64 n] [] [] (fun v G Q => v = .bool (decide (who n)) ∧ G = [] ∧ Q = []) := by
 refine Ct.intro Tryz.func23 rfl rfl rfl (fun c hc => ?_)
 refine GC.sr_ ?_; refine GL.as_ rfl rfl ?_; refine GL.nl_ ?_; refine GC.sr_ ?_; refine GL.mv_ rfl rfl ?_; refine GL.pure rfl (p_geq rfl rfl) ?_; refine GL.mv_ rfl rfl ?_; refine GL.split (i := 5) rfl (fun h1 => ?_) (fun h1 => ?_)
 ·try simp only [tst_] at h1
  refine GL.pureG (s := 5) rfl rfl rfl (p_move rfl) ?_; refine GL.pureG (s := 5) rfl rfl rfl (p_lss rfl rfl) ?_; refine GL.pure rfl (p_pick_true rfl rfl) ?_; refine GL.as_ rfl rfl ?_; refine GL.nl_ ?_; refine GC.ret ?_
  refine fun a w h => Fin.back (rs := [.tmp 2]) (vs := [_]) (is := []) (js := []) rfl ⟨rfl, trivial⟩ rfl rfl ?_ h
  clear h
  refine ⟨congrArg Value.bool ?_, rfl, rfl⟩; first | exact (decide_eq_true (by unfold who; omega)).symm | exact (decide_eq_false (by unfold who; omega)).symm | exact decide_eq_decide.2 (by unfold who; omega)
 ·try simp only [tst_] at h1
  iterate 2 refine GL.pass (s := 5) rfl rfl rfl ?_
  refine GL.pure rfl (p_pick_false rfl rfl) ?_; refine GL.as_ rfl rfl ?_; refine GL.nl_ ?_; refine GC.ret ?_
  refine fun a w h => Fin.back (rs := [.tmp 2]) (vs := [_]) (is := []) (js := []) rfl ⟨rfl, trivial⟩ rfl rfl ?_ h
  clear h
  refine ⟨congrArg Value.bool ?_, rfl, rfl⟩; first | exact (decide_eq_true (by unfold who; omega)).symm | exact (decide_eq_false (by unfold who; omega)).symm | exact decide_eq_decide.2 (by unfold who; omega)
theorem chk1_ct (n : Int) : Ct Tryz.prog 22 [.int .i64 n] [] [] (fun v G Q => v = .bool (decide (¬ in62 n)) ∧ G = [] ∧ Q = []) := by
 refine Ct.intro Tryz.func22 rfl rfl rfl (fun c hc => ?_)
 refine GC.sr_ ?_; refine GL.as_ rfl rfl ?_; refine GL.nl_ ?_; refine GC.sr_ ?_; refine GL.mv_ rfl rfl ?_; refine GL.pure rfl (p_lss rfl rfl) ?_; refine GL.mv_ rfl rfl ?_; refine GL.split (i := 5) rfl (fun h1 => ?_) (fun h1 => ?_)
 ·try simp only [tst_] at h1
  iterate 2 refine GL.pass (s := 5) rfl rfl rfl ?_
  refine GL.pure rfl (p_pick_true rfl rfl) ?_; refine GL.as_ rfl rfl ?_; refine GL.nl_ ?_; refine GC.ret ?_
  refine fun a w h => Fin.back (rs := [.tmp 2]) (vs := [_]) (is := []) (js := []) rfl ⟨rfl, trivial⟩ rfl rfl ?_ h
  clear h
  refine ⟨congrArg Value.bool ?_, rfl, rfl⟩; first | exact (decide_eq_true (by unfold in62; omega)).symm | exact (decide_eq_false (by unfold in62; omega)).symm | exact decide_eq_decide.2 (by unfold in62; omega)
 ·try simp only [tst_] at h1
  refine GL.pureG (s := 5) rfl rfl rfl (p_move rfl) ?_; refine GL.pureG (s := 5) rfl rfl rfl (p_gtr rfl rfl) ?_; refine GL.pure rfl (p_pick_false rfl rfl) ?_; refine GL.as_ rfl rfl ?_; refine GL.nl_ ?_; refine GC.ret ?_
  refine fun a w h => Fin.back (rs := [.tmp 2]) (vs := [_]) (is := []) (js := []) rfl ⟨rfl, trivial⟩ rfl rfl ?_ h
  clear h
  refine ⟨congrArg Value.bool ?_, rfl, rfl⟩; first | exact (decide_eq_true (by unfold in62; omega)).symm | exact (decide_eq_false (by unfold in62; omega)).symm | exact decide_eq_decide.2 (by unfold in62; omega)
def entNums (e : Entry) : Prop := isNum e.num = true ∧ isNum e.client = true ∧ isNum e.serial = true ∧ in62 e.view
instance (e : Entry) : Decidable (entNums e) := by unfold entNums; infer_instance
def entRest (e : Entry) : Prop := (e.kind = 1 ∧ formD e.op ∧ e.grp.epoch = 0 ∧ e.grp.members.length = 0) ∨ (e.kind = 2 ∧ e.op = zop ∧ groupOk e.grp.epoch e.grp.members = true ∧ e.view < 4611686018427387904)
instance (e : Entry) : Decidable (entRest e) := by unfold entRest; infer_instance
theorem entE_eq (e : Entry) : entE e = if entNums e ∧ entRest e then 0 else 71 := by
  unfold entE entOk entNums entRest
  congr 1
  simp only [eq_iff_iff, and_assoc]
theorem entE_yes {e : Entry} (h : entNums e ∧ entRest e) : entE e = 0 := by rw [entE_eq, if_pos h]
theorem entE_no {e : Entry} (h : ¬ (entNums e ∧ entRest e)) : entE e = 71 := by rw [entE_eq, if_neg h]
theorem ment_ct (e : Entry) (A : Option Addr) (cp : Nat) (B : Option Addr) (cq : Nat) (C : Option Addr) (cr : Nat) (hl : e.grp.members.length ≤ 140737488355328) : Ct Tryz.prog 112 [entV e A cp B cq C cr] [] (entQ e A B C) (fun u G Q => u = .int .i64 (entE e) ∧ G = [] ∧ Q = []) := by
 refine Ct.intro Tryz.func112 rfl rfl rfl (fun c hc => ?_)
 refine GC.sr_ ?_; refine GL.step rfl (t_box rfl rfl rfl) (GL.ex fun b_t1 => ?_); refine GL.as_ rfl rfl ?_; refine GL.nl_ ?_; refine GC.joinK1 (ks := [1, 2]) (is := [0]) (js := [0, 1, 2]) (fun (u_ : Unit) => True) (fun (u_ : Unit) => [(3, .bool (decide (entNums e)))]) (fun (u_ : Unit) => []) (fun (u_ : Unit) => []) rfl rfl rfl ?_ ?_
 ·refine GC.region ?_; refine GL.pure rfl (p_fieldAddr fo_64_1 rfl) ?_; refine GL.step rfl (t_mem rfl (m_load (i := 0) rfl rfl ag_3 rfl)) ?_; refine GL.step rfl (t_call rfl fn_144 rfl (is := []) (js := []) rfl rfl (by exact mnum_ct _)) (GL.ret ?_)
  rintro _ _ _ ⟨rfl, rfl, rfl⟩
  refine GL.mv_ rfl rfl ?_; refine GL.split (i := 7) rfl (fun h1 => ?_) (fun h1 => ?_)
  ·try simp only [tst_, formE_iff, grpE_iff] at h1
   refine GL.pureG (s := 7) rfl rfl rfl (p_fieldAddr fo_64_3 rfl) ?_; refine GL.stepG rfl (s := 7) rfl rfl (t_mem rfl (m_load (i := 0) rfl rfl ag_3 rfl)) ?_; refine GL.stepG rfl (s := 7) rfl rfl (t_call rfl fn_144 rfl (is := []) (js := []) rfl rfl (by exact mnum_ct _)) (GL.ret ?_)
   rintro _ _ _ ⟨rfl, rfl, rfl⟩
   refine GL.pure rfl (p_pick_true rfl rfl) ?_; refine GL.mv_ rfl rfl ?_; refine GL.split (i := 12) rfl (fun h2 => ?_) (fun h2 => ?_)
   ·try simp only [tst_, formE_iff, grpE_iff] at h2
    refine GL.pureG (s := 12) rfl rfl rfl (p_fieldAddr fo_64_4 rfl) ?_; refine GL.stepG rfl (s := 12) rfl rfl (t_mem rfl (m_load (i := 0) rfl rfl ag_3 rfl)) ?_; refine GL.stepG rfl (s := 12) rfl rfl (t_call rfl fn_144 rfl (is := []) (js := []) rfl rfl (by exact mnum_ct _)) (GL.ret ?_)
    rintro _ _ _ ⟨rfl, rfl, rfl⟩
    refine GL.pure rfl (p_pick_true rfl rfl) ?_; refine GL.mv_ rfl rfl ?_; refine GL.split (i := 17) rfl (fun h3 => ?_) (fun h3 => ?_)
    ·try simp only [tst_, formE_iff, grpE_iff] at h3
     refine GL.pureG (s := 17) rfl rfl rfl (p_fieldAddr fo_64_2 rfl) ?_; refine GL.stepG rfl (s := 17) rfl rfl (t_mem rfl (m_load (i := 0) rfl rfl ag_3 rfl)) ?_; refine GL.pureG (s := 17) rfl rfl rfl (p_geq rfl rfl) ?_; refine GL.pure rfl (p_pick_true rfl rfl) ?_
     refine GL.mv_ rfl rfl ?_; refine GL.split (i := 22) rfl (fun h4 => ?_) (fun h4 => ?_)
     ·try simp only [tst_, formE_iff, grpE_iff] at h4
      refine GL.pureG (s := 22) rfl rfl rfl (p_fieldAddr fo_64_2 rfl) ?_; refine GL.stepG rfl (s := 22) rfl rfl (t_mem rfl (m_load (i := 0) rfl rfl ag_3 rfl)) ?_; refine GL.pureG (s := 22) rfl rfl rfl (p_leq rfl rfl) ?_; refine GL.pure rfl (p_pick_true rfl rfl) ?_
      refine GL.as_ rfl rfl ?_; refine GL.split (i := 3) rfl (fun h5 => ?_) (fun h5 => ?_)
      ·try simp only [tst_, formE_iff, grpE_iff] at h5
       refine GL.nil ?_
       exact fun a w h => ⟨(()), trivial, by rw [decide_eq_true (show entNums e by simp only [entNums, in62]; simp_all; try omega)]; exact h.cut (is := [0]) (js := [0, 1, 2]) ⟨rfl, rfl, rfl, trivial⟩ rfl rfl⟩
      ·try simp only [tst_, formE_iff, grpE_iff] at h5
       refine GL.nil ?_
       exact fun a w h => ⟨(()), trivial, by rw [decide_eq_false (show ¬ (entNums e) by simp only [entNums, in62]; simp_all; try omega)]; exact h.cut (is := [0]) (js := [0, 1, 2]) ⟨rfl, rfl, rfl, trivial⟩ rfl rfl⟩
     ·try simp only [tst_, formE_iff, grpE_iff] at h4
      iterate 3 refine GL.pass (s := 22) rfl rfl rfl ?_
      refine GL.pure rfl (p_pick_false rfl rfl) ?_; refine GL.as_ rfl rfl ?_; refine GL.nil ?_
      exact fun a w h => ⟨(()), trivial, by rw [decide_eq_false (show ¬ (entNums e) by simp only [entNums, in62]; simp_all; try omega)]; exact h.cut (is := [0]) (js := [0, 1, 2]) ⟨rfl, rfl, rfl, trivial⟩ rfl rfl⟩
    ·try simp only [tst_, formE_iff, grpE_iff] at h3
     iterate 3 refine GL.pass (s := 17) rfl rfl rfl ?_
     refine GL.pure rfl (p_pick_false rfl rfl) ?_; refine GL.mv_ rfl rfl ?_
     iterate 3 refine GL.pass (s := 22) rfl rfl rfl ?_
     refine GL.pure rfl (p_pick_false rfl rfl) ?_; refine GL.as_ rfl rfl ?_; refine GL.nil ?_
     exact fun a w h => ⟨(()), trivial, by rw [decide_eq_false (show ¬ (entNums e) by simp only [entNums, in62]; simp_all; try omega)]; exact h.cut (is := [0]) (js := [0, 1, 2]) ⟨rfl, rfl, rfl, trivial⟩ rfl rfl⟩
   ·try simp only [tst_, formE_iff, grpE_iff] at h2
    iterate 3 refine GL.pass (s := 12) rfl rfl rfl ?_
    refine GL.pure rfl (p_pick_false rfl rfl) ?_; refine GL.mv_ rfl rfl ?_
    iterate 3 refine GL.pass (s := 17) rfl rfl rfl ?_
    refine GL.pure rfl (p_pick_false rfl rfl) ?_; refine GL.mv_ rfl rfl ?_
    iterate 3 refine GL.pass (s := 22) rfl rfl rfl ?_
    refine GL.pure rfl (p_pick_false rfl rfl) ?_; refine GL.as_ rfl rfl ?_; refine GL.nil ?_
    exact fun a w h => ⟨(()), trivial, by rw [decide_eq_false (show ¬ (entNums e) by simp only [entNums, in62]; simp_all; try omega)]; exact h.cut (is := [0]) (js := [0, 1, 2]) ⟨rfl, rfl, rfl, trivial⟩ rfl rfl⟩
  ·try simp only [tst_, formE_iff, grpE_iff] at h1
   iterate 3 refine GL.pass (s := 7) rfl rfl rfl ?_
   refine GL.pure rfl (p_pick_false rfl rfl) ?_; refine GL.mv_ rfl rfl ?_
   iterate 3 refine GL.pass (s := 12) rfl rfl rfl ?_
   refine GL.pure rfl (p_pick_false rfl rfl) ?_; refine GL.mv_ rfl rfl ?_
   iterate 3 refine GL.pass (s := 17) rfl rfl rfl ?_
   refine GL.pure rfl (p_pick_false rfl rfl) ?_; refine GL.mv_ rfl rfl ?_
   iterate 3 refine GL.pass (s := 22) rfl rfl rfl ?_
   refine GL.pure rfl (p_pick_false rfl rfl) ?_; refine GL.as_ rfl rfl ?_; refine GL.nil ?_
   exact fun a w h => ⟨(()), trivial, by rw [decide_eq_false (show ¬ (entNums e) by simp only [entNums, in62]; simp_all; try omega)]; exact h.cut (is := [0]) (js := [0, 1, 2]) ⟨rfl, rfl, rfl, trivial⟩ rfl rfl⟩
 ·intro u_ hj1
  try dsimp only [List.cons_append, List.nil_append] at hj1 ⊢
  refine GC.joinK1 (ks := [2]) (is := [0]) (js := [0, 1, 2]) (fun (u_ : Unit) => True) (fun (u_ : Unit) => [(3, .bool (decide (entNums e ∧ entRest e)))]) (fun (u_ : Unit) => []) (fun (u_ : Unit) => []) rfl rfl rfl ?_ ?_
  ·refine GC.sr_ ?_; refine GL.pure rfl (p_fieldAddr fo_64_0 rfl) ?_; refine GL.step rfl (t_mem rfl (m_load (i := 0) rfl rfl ag_62 rfl)) ?_; refine GL.nl_ ?_; refine GC.block ?_; refine GC.sr_ ?_; refine GL.pure rfl (p_eql rfl rfl) ?_
   refine GL.as_ rfl rfl ?_; refine GL.nl_ ?_; refine GC.cond rfl (fun h6 => ?_) (fun h6 => ?_)
   ·try simp only [tst_, formE_iff, grpE_iff] at h6
    refine GC.region ?_
    iterate 2 refine GL.mv_ rfl rfl ?_
    refine GL.split (i := 32) rfl (fun h7 => ?_) (fun h7 => ?_)
    ·try simp only [tst_, formE_iff, grpE_iff] at h7
     refine GL.pureG (s := 32) rfl rfl rfl (p_fieldAddr fo_64_5 rfl) ?_; refine GL.stepG rfl (s := 32) rfl rfl (t_mem rfl (m_loadN (i := 0) rfl rfl ag_27 (vs := [_, _, _, _, _]) sz_27 ⟨rfl, rfl, rfl, rfl, rfl, trivial⟩)) ?_
     refine GL.stepG rfl (s := 32) rfl rfl (t_call rfl fn_60 rfl (is := []) (js := []) rfl rfl (by exact form_ct e.op.kind e.op.at_ e.op.n _ e.op.data.length _ _ e.op.old.length _)) (GL.ret ?_)
     rintro _ _ _ ⟨rfl, rfl, rfl⟩
     refine GL.pureG (s := 32) rfl rfl rfl (p_eql rfl rfl) ?_; refine GL.pure rfl (p_pick_true rfl rfl) ?_; refine GL.mv_ rfl rfl ?_; refine GL.split (i := 38) rfl (fun h8 => ?_) (fun h8 => ?_)
     ·try simp only [tst_, formE_iff, grpE_iff] at h8
      refine GL.pureG (s := 38) rfl rfl rfl (p_fieldAddr fo_64_6 rfl) ?_; refine GL.pureG (s := 38) rfl rfl rfl (p_fieldAddr fo_33_0 rfl) ?_; refine GL.stepG rfl (s := 38) rfl rfl (t_mem rfl (m_load (i := 0) rfl rfl ag_3 rfl)) ?_
      refine GL.pureG (s := 38) rfl rfl rfl (p_eql rfl rfl) ?_; refine GL.pure rfl (p_pick_true rfl rfl) ?_; refine GL.mv_ rfl rfl ?_; refine GL.split (i := 44) rfl (fun h9 => ?_) (fun h9 => ?_)
      ·try simp only [tst_, formE_iff, grpE_iff] at h9
       refine GL.pureG (s := 44) rfl rfl rfl (p_fieldAddr fo_64_6 rfl) ?_; refine GL.pureG (s := 44) rfl rfl rfl (p_fieldAddr fo_33_1 rfl) ?_; refine GL.stepG rfl (s := 44) rfl rfl (t_mem rfl (m_load (i := 0) rfl rfl ag_31 rfl)) ?_
       refine GL.pureG (s := 44) rfl rfl rfl (p_len Tryz.underlying31 rfl) ?_; refine GL.pureG (s := 44) rfl rfl rfl (p_eql rfl rfl) ?_; refine GL.pure rfl (p_pick_true rfl rfl) ?_; refine GL.as_ rfl rfl ?_; refine GL.split (i := 3) rfl (fun h10 => ?_) (fun h10 => ?_)
       ·try simp only [tst_, formE_iff, grpE_iff] at h10
        refine GL.nil ?_
        exact fun a w h => ⟨(()), trivial, by rw [decide_eq_true (show entNums e ∧ entRest e by simp only [entRest, formD]; simp_all; try omega)]; exact h.cut (is := [0]) (js := [0, 1, 2]) ⟨rfl, rfl, trivial⟩ rfl rfl⟩
       ·try simp only [tst_, formE_iff, grpE_iff] at h10
        refine GL.nil ?_
        exact fun a w h => ⟨(()), trivial, by rw [decide_eq_false (show ¬ (entNums e ∧ entRest e) by simp only [entRest, formD]; simp_all; try omega)]; exact h.cut (is := [0]) (js := [0, 1, 2]) ⟨rfl, rfl, trivial⟩ rfl rfl⟩
      ·try simp only [tst_, formE_iff, grpE_iff] at h9
       iterate 5 refine GL.pass (s := 44) rfl rfl rfl ?_
       refine GL.pure rfl (p_pick_false rfl rfl) ?_; refine GL.as_ rfl rfl ?_; refine GL.nil ?_
       exact fun a w h => ⟨(()), trivial, by rw [decide_eq_false (show ¬ (entNums e ∧ entRest e) by simp only [entRest, formD]; simp_all; try omega)]; exact h.cut (is := [0]) (js := [0, 1, 2]) ⟨rfl, rfl, trivial⟩ rfl rfl⟩
     ·try simp only [tst_, formE_iff, grpE_iff] at h8
      iterate 4 refine GL.pass (s := 38) rfl rfl rfl ?_
      refine GL.pure rfl (p_pick_false rfl rfl) ?_; refine GL.mv_ rfl rfl ?_
      iterate 5 refine GL.pass (s := 44) rfl rfl rfl ?_
      refine GL.pure rfl (p_pick_false rfl rfl) ?_; refine GL.as_ rfl rfl ?_; refine GL.nil ?_
      exact fun a w h => ⟨(()), trivial, by rw [decide_eq_false (show ¬ (entNums e ∧ entRest e) by simp only [entRest, formD]; simp_all; try omega)]; exact h.cut (is := [0]) (js := [0, 1, 2]) ⟨rfl, rfl, trivial⟩ rfl rfl⟩
    ·try simp only [tst_, formE_iff, grpE_iff] at h7
     iterate 4 refine GL.pass (s := 32) rfl rfl rfl ?_
     refine GL.pure rfl (p_pick_false rfl rfl) ?_; refine GL.mv_ rfl rfl ?_
     iterate 4 refine GL.pass (s := 38) rfl rfl rfl ?_
     refine GL.pure rfl (p_pick_false rfl rfl) ?_; refine GL.mv_ rfl rfl ?_
     iterate 5 refine GL.pass (s := 44) rfl rfl rfl ?_
     refine GL.pure rfl (p_pick_false rfl rfl) ?_; refine GL.as_ rfl rfl ?_; refine GL.nil ?_
     exact fun a w h => ⟨(()), trivial, by rw [decide_eq_false (show ¬ (entNums e ∧ entRest e) by simp only [entRest, formD]; simp_all; try omega)]; exact h.cut (is := [0]) (js := [0, 1, 2]) ⟨rfl, rfl, trivial⟩ rfl rfl⟩
   ·try simp only [tst_, formE_iff, grpE_iff] at h6
    refine GC.sr_ ?_; refine GL.pure rfl (p_eql rfl rfl) ?_; refine GL.as_ rfl rfl ?_; refine GL.nl_ ?_; refine GC.cond rfl (fun h11 => ?_) (fun h11 => ?_)
    ·try simp only [tst_, formE_iff, grpE_iff] at h11
     refine GC.region ?_
     iterate 2 refine GL.mv_ rfl rfl ?_
     refine GL.split (i := 54) rfl (fun h12 => ?_) (fun h12 => ?_)
     ·try simp only [tst_, formE_iff, grpE_iff] at h12
      refine GL.pureG (s := 54) rfl rfl rfl (p_fieldAddr fo_64_5 rfl) ?_; refine GL.stepG rfl (s := 54) rfl rfl (t_mem rfl (m_loadN (i := 0) rfl rfl ag_27 (vs := [_, _, _, _, _]) sz_27 ⟨rfl, rfl, rfl, rfl, rfl, trivial⟩)) ?_
      refine GL.pureG (s := 54) rfl rfl rfl (p_build ze_27 of_27 rfl rfl) ?_; refine GL.stepG rfl (s := 54) rfl rfl (t_call rfl fn_37 rfl (is := []) (js := [0, 1]) rfl rfl (by exact bzero_ct e.op _ _ _ _)) (GL.ret ?_)
      rintro _ _ _ ⟨rfl, rfl, rfl⟩
      refine GL.pure rfl (p_pick_true rfl rfl) ?_; refine GL.mv_ rfl rfl ?_; refine GL.split (i := 60) rfl (fun h13 => ?_) (fun h13 => ?_)
      ·try simp only [tst_, formE_iff, grpE_iff] at h13
       refine GL.pureG (s := 60) rfl rfl rfl (p_fieldAddr fo_64_6 rfl) ?_; refine GL.stepG rfl (s := 60) rfl rfl (t_mem rfl (m_loadN (i := 0) rfl rfl ag_33 (vs := [_, _]) sz_33 ⟨rfl, rfl, trivial⟩)) ?_; refine GL.stepG rfl (s := 60) rfl rfl (t_call rfl fn_62 rfl (is := []) (js := [2]) rfl rfl (by exact mgroup_ct e.grp.epoch _ e.grp.members _ (by first | assumption | omega))) (GL.ret ?_)
       rintro _ _ _ ⟨rfl, rfl, rfl⟩
       refine GL.pureG (s := 60) rfl rfl rfl (p_eql rfl rfl) ?_; refine GL.pure rfl (p_pick_true rfl rfl) ?_; refine GL.mv_ rfl rfl ?_; refine GL.split (i := 66) rfl (fun h14 => ?_) (fun h14 => ?_)
       ·try simp only [tst_, formE_iff, grpE_iff] at h14
        refine GL.pureG (s := 66) rfl rfl rfl (p_fieldAddr fo_64_2 rfl) ?_; refine GL.stepG rfl (s := 66) rfl rfl (t_mem rfl (m_load (i := 0) rfl rfl ag_3 rfl)) ?_; refine GL.pureG (s := 66) rfl rfl rfl (p_lss rfl rfl) ?_
        refine GL.pure rfl (p_pick_true rfl rfl) ?_; refine GL.as_ rfl rfl ?_; refine GL.split (i := 3) rfl (fun h15 => ?_) (fun h15 => ?_)
        ·try simp only [tst_, formE_iff, grpE_iff] at h15
         refine GL.nil ?_
         exact fun a w h => ⟨(()), trivial, by rw [decide_eq_true (show entNums e ∧ entRest e by simp only [entRest, formD]; simp_all; try omega)]; exact h.cut (is := [0]) (js := [0, 1, 2]) ⟨rfl, rfl, trivial⟩ rfl rfl⟩
        ·try simp only [tst_, formE_iff, grpE_iff] at h15
         refine GL.nil ?_
         exact fun a w h => ⟨(()), trivial, by rw [decide_eq_false (show ¬ (entNums e ∧ entRest e) by simp only [entRest, formD]; simp_all; try omega)]; exact h.cut (is := [0]) (js := [0, 1, 2]) ⟨rfl, rfl, trivial⟩ rfl rfl⟩
       ·try simp only [tst_, formE_iff, grpE_iff] at h14
        iterate 3 refine GL.pass (s := 66) rfl rfl rfl ?_
        refine GL.pure rfl (p_pick_false rfl rfl) ?_; refine GL.as_ rfl rfl ?_; refine GL.nil ?_
        exact fun a w h => ⟨(()), trivial, by rw [decide_eq_false (show ¬ (entNums e ∧ entRest e) by simp only [entRest, formD]; simp_all; try omega)]; exact h.cut (is := [0]) (js := [0, 1, 2]) ⟨rfl, rfl, trivial⟩ rfl rfl⟩
      ·try simp only [tst_, formE_iff, grpE_iff] at h13
       iterate 4 refine GL.pass (s := 60) rfl rfl rfl ?_
       refine GL.pure rfl (p_pick_false rfl rfl) ?_; refine GL.mv_ rfl rfl ?_
       iterate 3 refine GL.pass (s := 66) rfl rfl rfl ?_
       refine GL.pure rfl (p_pick_false rfl rfl) ?_; refine GL.as_ rfl rfl ?_; refine GL.nil ?_
       exact fun a w h => ⟨(()), trivial, by rw [decide_eq_false (show ¬ (entNums e ∧ entRest e) by simp only [entRest, formD]; simp_all; try omega)]; exact h.cut (is := [0]) (js := [0, 1, 2]) ⟨rfl, rfl, trivial⟩ rfl rfl⟩
     ·try simp only [tst_, formE_iff, grpE_iff] at h12
      iterate 4 refine GL.pass (s := 54) rfl rfl rfl ?_
      refine GL.pure rfl (p_pick_false rfl rfl) ?_; refine GL.mv_ rfl rfl ?_
      iterate 4 refine GL.pass (s := 60) rfl rfl rfl ?_
      refine GL.pure rfl (p_pick_false rfl rfl) ?_; refine GL.mv_ rfl rfl ?_
      iterate 3 refine GL.pass (s := 66) rfl rfl rfl ?_
      refine GL.pure rfl (p_pick_false rfl rfl) ?_; refine GL.as_ rfl rfl ?_; refine GL.nil ?_
      exact fun a w h => ⟨(()), trivial, by rw [decide_eq_false (show ¬ (entNums e ∧ entRest e) by simp only [entRest, formD]; simp_all; try omega)]; exact h.cut (is := [0]) (js := [0, 1, 2]) ⟨rfl, rfl, trivial⟩ rfl rfl⟩
    ·try simp only [tst_, formE_iff, grpE_iff] at h11
     refine GC.region ?_; refine GL.as_ rfl rfl ?_; refine GL.nil ?_
     exact fun a w h => ⟨(()), trivial, by rw [decide_eq_false (show ¬ (entNums e ∧ entRest e) by simp only [entRest, formD]; simp_all; try omega)]; exact h.cut (is := [0]) (js := [0, 1, 2]) ⟨rfl, rfl, trivial⟩ rfl rfl⟩
  ·intro u_ hj2
   try dsimp only [List.cons_append, List.nil_append] at hj2 ⊢
   refine GC.seq' ?_; refine GC.sr_ ?_; refine GL.mv_ rfl rfl ?_; refine GL.pure rfl (p_not rfl) ?_; refine GL.nl_ ?_; refine GC.cond rfl (fun h16 => ?_) (fun h16 => ?_)
   ·try simp only [tst_, formE_iff, grpE_iff] at h16
    refine GC.sr_ ?_; refine GL.as_ rfl rfl ?_; refine GL.nl_ ?_; refine GC.ret ?_
    refine fun a w h => Fin.back (rs := [.tmp 2]) (vs := [_]) (is := []) (js := []) rfl ⟨rfl, trivial⟩ rfl rfl ?_ h
    clear h
    first | exact ⟨by rw [entE_yes (by assumption)]; rfl, rfl, rfl⟩ | exact ⟨by rw [entE_no (by assumption)]; rfl, rfl, rfl⟩
   ·try simp only [tst_, formE_iff, grpE_iff] at h16
    refine GC.skip (?_ : GC _ _ _ _)
    refine GC.sr_ ?_; refine GL.as_ rfl rfl ?_; refine GL.nl_ ?_; refine GC.ret ?_
    refine fun a w h => Fin.back (rs := [.tmp 2]) (vs := [_]) (is := []) (js := []) rfl ⟨rfl, trivial⟩ rfl rfl ?_ h
    clear h
    first | exact ⟨by rw [entE_yes (by assumption)]; rfl, rfl, rfl⟩ | exact ⟨by rw [entE_no (by assumption)]; rfl, rfl, rfl⟩
end Go.Proofs.YtdhdmbmknpjhbaaGreat
namespace Go.Proofs.YtdhdmbmknpjhbaaGreat
open Go Go.Sx Go.Proofs
theorem isNum_in {n : Int} (h : isNum n = true) : 1 ≤ n ∧ n ≤ 4611686018427387904 := by simp [isNum] at h; exact h
theorem lrow_ct (A : Option Addr) (l : List Entry) (cp : Nat) (hl : l.length ≤ 140737488355328) (hm : ∀ e ∈ l, EntLen e) : Ct Tryz.prog 110 [.slice A l.length cp] [] [Pers.row kEntry A l] (fun u G Q => u = .bool (decide (rowOkE l)) ∧ G = [] ∧ Q = []) := by
 refine Ct.intro Tryz.func110 rfl rfl rfl (fun c hc => ?_)
 refine GC.sr_ ?_; refine GL.as_ rfl rfl ?_; refine GL.nl_ ?_; refine GC.seq' ?_; refine GC.sr_ ?_; refine GL.mv_ rfl rfl ?_; refine GL.pure rfl (p_len Tryz.underlying40 rfl) ?_; refine GL.mv_ rfl rfl ?_; refine GL.nl_ ?_
 refine GC.block ?_; refine GC.loopK1 (ks := [0, 5, 6]) (is := []) (js := [0]) (fun (k : Nat) => k ≤ l.length ∧ ∀ j : Nat, j < k → entOk (gt l (j : Int)) ∧ (0 < j → (gt l (j : Int)).num - 1 = (gt l ((j : Int) - 1)).num)) (fun (k : Nat) => [(7, .int .i64 (k : Int))]) (fun (k : Nat) => []) (fun (k : Nat) => []) (fun (k : Nat) => l.length - k) (0) rfl rfl rfl (fun a w h => ⟨⟨by omega, fun j hj => by omega⟩, h.cutK (is := []) (js := [0]) (ks := [0, 5, 6]) ⟨rfl, trivial⟩ rfl rfl rfl⟩) ?_
 intro k hk
 try dsimp only [List.cons_append, List.nil_append] at hk ⊢
 obtain ⟨hk, hall⟩ := hk
 refine GC.sr_ ?_; refine GL.pure rfl (p_lss rfl rfl) ?_; refine GL.nl_ ?_; refine GC.seq' ?_; refine GC.cond rfl (fun h1 => ?_) (fun h1 => ?_)
 ·try simp only [tst_, entE_iff] at h1
  first
  | (exfalso; omega)
  |(skip
    refine GC.skip (?_ : GC _ _ _ _)
    refine GC.seq' ?_; refine GC.block ?_; refine GC.sr_ ?_; refine GL.mv_ rfl rfl ?_; refine GL.step rfl (t_index (i := 0) rfl rfl rfl rfl Tryz.underlying40 sz_64 (by first | omega | (have := isNum_in (show entOk (gt l ((k + 1 : Nat) : Int)) from by assumption).1; dsimp only; omega)) (gt_ok (by first | omega | (have := isNum_in (show entOk (gt l ((k + 1 : Nat) : Int)) from by assumption).1; dsimp only; omega)) (by first | omega | (have := isNum_in (show entOk (gt l ((k + 1 : Nat) : Int)) from by assumption).1; dsimp only; omega)))) (GL.ex fun p_x10 => GL.ex fun r_x10 => GL.and fun ok_x10 => ?_)
    rcases r_x10 with ⟨_, ⟨_, ⟨_, ⟨_, ⟨_, ⟨⟨_, ⟨_, ⟨_, ⟨⟨Ax10_0, cpx10_0⟩, ⟨Ax10_1, cpx10_1⟩⟩⟩⟩⟩, ⟨_, ⟨Ax10_2, cpx10_2⟩⟩⟩⟩⟩⟩⟩⟩
    refine GL.step rfl (t_mem rfl (m_loadPN (i := 0) rfl rfl ag_64 (vs := [_, _, _, _, _, _, _, _, _, _, _, _]) sz_64 ⟨rfl, rfl, rfl, rfl, rfl, rfl, rfl, rfl, rfl, rfl, rfl, rfl, trivial⟩)) ?_; refine GL.step rfl (t_alloc rfl ze_64) (GL.ex fun b_t4 => ?_)
    refine GL.as_ rfl rfl ?_; refine GL.step rfl (t_storeN (i := 0) rfl rfl rfl sz_64 rfl rfl rfl) ?_; refine GL.nl_ ?_; refine GC.seq' ?_
    have hme := (hm _ (gt_elem (l := l) (k := k) (by omega))).m
    have hml : (gt l (k : Int)).grp.members.length ≤ 140737488355328 := by omega
    rcases k with _ | k
    ·skip
     refine GC.regionQ wide_ (by kernel_rfl) ?_; refine GQ.step rfl (q_mem (m_loadN (i := 0) rfl rfl ag_64 (vs := [_, _, _, _, _, _, _, _, _, _, _, _]) sz_64 ⟨rfl, rfl, rfl, rfl, rfl, rfl, rfl, rfl, rfl, rfl, rfl, rfl, trivial⟩)) ?_
     refine GQ.step rfl (q_call fn_112 rfl (js := [1, 2, 3]) rfl (by exact ment_ct (gt l (_ : Int)) _ _ _ _ _ _ (by first | assumption | omega))) ?_; refine GQ.step rfl (q_pure (p_neq rfl rfl)) ?_; refine GQ.step rfl (q_pure (p_move rfl)) ?_
     refine GQ.split (i := 15) rfl (fun h2 => ?_) (fun h2 => ?_)
     ·try simp only [tst_, entE_iff] at h2
      first
      | (exfalso; omega)
      |(skip
        iterate 3 refine GQ.pass (s := 15) rfl rfl rfl ?_
        iterate 10 refine GQ.passU (s := 18) rfl rfl rfl ?_
        refine GQ.pass (s := 15) rfl rfl rfl ?_; refine GQ.step rfl (q_pure (p_pick_true rfl rfl)) ?_
        refine GQ.nil (?_ : GC _ _ _ _)
        refine GC.cond_true rfl ?_; refine GC.sr_ ?_; refine GL.as_ rfl rfl ?_; refine GL.nl_ ?_; refine GC.ret ?_
        refine fun a w h => Fin.back (rs := [.tmp 2]) (vs := [_]) (is := []) (js := []) rfl ⟨rfl, trivial⟩ rfl rfl ?_ h
        clear h
        exact ⟨congrArg Value.bool (decide_eq_false fun H => by first | exact absurd (H 0 (by omega)).1 (by assumption) | exact absurd (H (k + 1) (by omega)).1 (by assumption) | exact absurd ((H (k + 1) (by omega)).2 (by omega)) (by assumption)).symm, rfl, rfl⟩)
     ·try simp only [tst_, entE_iff] at h2
      first
      | (exfalso; omega)
      |(skip
        refine GQ.stepG (s := 15) rfl rfl rfl (q_pure (p_move rfl)) ?_; refine GQ.stepG (s := 15) rfl rfl rfl (q_pure (p_gtr rfl rfl)) ?_; refine GQ.stepG (s := 15) rfl rfl rfl (q_pure (p_move rfl)) ?_; refine GQ.split (i := 18) rfl (fun h3 => ?_) (fun h3 => ?_)
        ·try simp only [tst_, entE_iff] at h3
         first
         | (exfalso; omega)
         |(skip
           refine GQ.stepG (s := 18) rfl rfl rfl (q_pure (p_fieldAddr fo_64_1 rfl)) ?_; refine GQ.stepG (s := 18) rfl rfl rfl (q_mem (m_load (i := 0) rfl rfl ag_3 rfl)) ?_; refine GQ.stepG (s := 18) rfl rfl rfl (q_pure (p_sub rfl rfl (w64 (by first | omega | (have := isNum_in (show entOk (gt l ((k + 1 : Nat) : Int)) from by assumption).1; dsimp only; omega)) (by first | omega | (have := isNum_in (show entOk (gt l ((k + 1 : Nat) : Int)) from by assumption).1; dsimp only; omega))))) ?_
           iterate 2 refine GQ.stepG (s := 18) rfl rfl rfl (q_pure (p_move rfl)) ?_
           refine GQ.stepG (s := 18) rfl rfl rfl (q_pure (p_sub rfl rfl (w64 (by first | omega | (have := isNum_in (show entOk (gt l ((k + 1 : Nat) : Int)) from by assumption).1; dsimp only; omega)) (by first | omega | (have := isNum_in (show entOk (gt l ((k + 1 : Nat) : Int)) from by assumption).1; dsimp only; omega))))) ?_
           exact (by omega : False).elim)
        ·try simp only [tst_, entE_iff] at h3
         first
         | (exfalso; omega)
         |(skip
           iterate 10 refine GQ.pass (s := 18) rfl rfl rfl ?_
           refine GQ.stepG (s := 15) rfl rfl rfl (q_pure (p_pick_false rfl rfl)) ?_; refine GQ.step rfl (q_pure (p_pick_false rfl rfl)) ?_
           refine GQ.nil (?_ : GC _ _ _ _)
           refine GC.cond_false rfl ?_
           refine GC.skip (?_ : GC _ _ _ _)
           refine GC.region ?_; refine GL.pure rfl (p_add rfl rfl (w64 (by first | omega | (have := isNum_in (show entOk (gt l ((k + 1 : Nat) : Int)) from by assumption).1; dsimp only; omega)) (by first | omega | (have := isNum_in (show entOk (gt l ((k + 1 : Nat) : Int)) from by assumption).1; dsimp only; omega)))) ?_
           refine GL.mv_ rfl rfl ?_; refine GL.nil ?_
           exact fun a w h => ⟨(_ + 1), (by omega), ⟨by omega, fun j hj => (Nat.lt_succ_iff_lt_or_eq.1 hj).elim (hall j) (fun e => by subst e; exact ⟨by assumption, fun _ => by first | omega | assumption⟩)⟩, h.cut (is := []) (js := [4]) ⟨rfl, rfl, rfl, rfl, trivial⟩ rfl rfl⟩))
    ·skip
     refine GC.lay (x := .const (.slice A l.length cp)) (y := .const (.int .i64 (((k + 1 : Nat) : Int) - 1))) (j := 4) rfl rfl rfl (by first | omega | (have := isNum_in (show entOk (gt l ((k + 1 : Nat) : Int)) from by assumption).1; dsimp only; omega)) (gt_ok (by first | omega | (have := isNum_in (show entOk (gt l ((k + 1 : Nat) : Int)) from by assumption).1; dsimp only; omega)) (by first | omega | (have := isNum_in (show entOk (gt l ((k + 1 : Nat) : Int)) from by assumption).1; dsimp only; omega))) (fun p_xp r_xp hA_xp ok_xp => ?_)
     rcases r_xp with ⟨_, ⟨_, ⟨_, ⟨_, ⟨_, ⟨⟨_, ⟨_, ⟨_, ⟨⟨Axp_0, cpxp_0⟩, ⟨Axp_1, cpxp_1⟩⟩⟩⟩⟩, ⟨_, ⟨Axp_2, cpxp_2⟩⟩⟩⟩⟩⟩⟩⟩
     refine GC.regionQ wide_ (by kernel_rfl) ?_; refine GQ.step rfl (q_mem (m_loadN (i := 0) rfl rfl ag_64 (vs := [_, _, _, _, _, _, _, _, _, _, _, _]) sz_64 ⟨rfl, rfl, rfl, rfl, rfl, rfl, rfl, rfl, rfl, rfl, rfl, rfl, trivial⟩)) ?_
     refine GQ.step rfl (q_call fn_112 rfl (js := [5, 6, 7]) rfl (by exact ment_ct (gt l (_ : Int)) _ _ _ _ _ _ (by first | assumption | omega))) ?_; refine GQ.step rfl (q_pure (p_neq rfl rfl)) ?_; refine GQ.step rfl (q_pure (p_move rfl)) ?_
     refine GQ.split (i := 15) rfl (fun h4 => ?_) (fun h4 => ?_)
     ·try simp only [tst_, entE_iff] at h4
      first
      | (exfalso; omega)
      |(skip
        iterate 3 refine GQ.pass (s := 15) rfl rfl rfl ?_
        iterate 10 refine GQ.passU (s := 18) rfl rfl rfl ?_
        refine GQ.pass (s := 15) rfl rfl rfl ?_; refine GQ.step rfl (q_pure (p_pick_true rfl rfl)) ?_
        refine GQ.nil (?_ : GC _ _ _ _)
        refine GC.cond_true rfl ?_; refine GC.sr_ ?_; refine GL.as_ rfl rfl ?_; refine GL.nl_ ?_; refine GC.ret ?_
        refine fun a w h => Fin.back (rs := [.tmp 2]) (vs := [_]) (is := []) (js := []) rfl ⟨rfl, trivial⟩ rfl rfl ?_ h
        clear h
        exact ⟨congrArg Value.bool (decide_eq_false fun H => by first | exact absurd (H 0 (by omega)).1 (by assumption) | exact absurd (H (k + 1) (by omega)).1 (by assumption) | exact absurd ((H (k + 1) (by omega)).2 (by omega)) (by assumption)).symm, rfl, rfl⟩)
     ·try simp only [tst_, entE_iff] at h4
      first
      | (exfalso; omega)
      |(skip
        refine GQ.stepG (s := 15) rfl rfl rfl (q_pure (p_move rfl)) ?_; refine GQ.stepG (s := 15) rfl rfl rfl (q_pure (p_gtr rfl rfl)) ?_; refine GQ.stepG (s := 15) rfl rfl rfl (q_pure (p_move rfl)) ?_; refine GQ.split (i := 18) rfl (fun h5 => ?_) (fun h5 => ?_)
        ·try simp only [tst_, entE_iff] at h5
         first
         | (exfalso; omega)
         |(skip
           refine GQ.stepG (s := 18) rfl rfl rfl (q_pure (p_fieldAddr fo_64_1 rfl)) ?_; refine GQ.stepG (s := 18) rfl rfl rfl (q_mem (m_load (i := 0) rfl rfl ag_3 rfl)) ?_; refine GQ.stepG (s := 18) rfl rfl rfl (q_pure (p_sub rfl rfl (w64 (by first | omega | (have := isNum_in (show entOk (gt l ((k + 1 : Nat) : Int)) from by assumption).1; dsimp only; omega)) (by first | omega | (have := isNum_in (show entOk (gt l ((k + 1 : Nat) : Int)) from by assumption).1; dsimp only; omega))))) ?_
           iterate 2 refine GQ.stepG (s := 18) rfl rfl rfl (q_pure (p_move rfl)) ?_
           refine GQ.stepG (s := 18) rfl rfl rfl (q_pure (p_sub rfl rfl (w64 (by first | omega | (have := isNum_in (show entOk (gt l ((k + 1 : Nat) : Int)) from by assumption).1; dsimp only; omega)) (by first | omega | (have := isNum_in (show entOk (gt l ((k + 1 : Nat) : Int)) from by assumption).1; dsimp only; omega))))) ?_
           refine GQ.stepG (s := 18) rfl rfl rfl (q_pure (p_indexL hA_xp rfl rfl Tryz.underlying40 sz_64 (by first | omega | (have := isNum_in (show entOk (gt l ((k + 1 : Nat) : Int)) from by assumption).1; dsimp only; omega)) (by first | omega | (have := isNum_in (show entOk (gt l ((k + 1 : Nat) : Int)) from by assumption).1; dsimp only; omega)))) ?_
           refine GQ.stepG (s := 18) rfl rfl rfl (q_pure (p_fieldAddr' fo_64_1 rfl)) ?_; refine GQ.stepG (s := 18) rfl rfl rfl (q_mem (m_loadP (i := 0) rfl rfl ag_3 rfl)) ?_; refine GQ.stepG (s := 18) rfl rfl rfl (q_pure (p_neq rfl rfl)) ?_
           refine GQ.stepG (s := 15) rfl rfl rfl (q_pure (p_pick_true rfl rfl)) ?_; refine GQ.step rfl (q_pure (p_pick_false rfl rfl)) ?_
           refine GQ.nil (?_ : GC _ _ _ _)
           refine GC.cond rfl (fun h6 => ?_) (fun h6 => ?_)
           ·try simp only [tst_, entE_iff] at h6
            first
            | (exfalso; omega)
            |(skip
              refine GC.sr_ ?_; refine GL.as_ rfl rfl ?_; refine GL.nl_ ?_; refine GC.ret ?_
              refine fun a w h => Fin.back (rs := [.tmp 2]) (vs := [_]) (is := []) (js := []) rfl ⟨rfl, trivial⟩ rfl rfl ?_ h
              clear h
              exact ⟨congrArg Value.bool (decide_eq_false fun H => by first | exact absurd (H 0 (by omega)).1 (by assumption) | exact absurd (H (k + 1) (by omega)).1 (by assumption) | exact absurd ((H (k + 1) (by omega)).2 (by omega)) (by assumption)).symm, rfl, rfl⟩)
           ·try simp only [tst_, entE_iff] at h6
            first
            | (exfalso; omega)
            |(skip
              refine GC.skip (?_ : GC _ _ _ _)
              refine GC.region ?_; refine GL.pure rfl (p_add rfl rfl (w64 (by first | omega | (have := isNum_in (show entOk (gt l ((k + 1 : Nat) : Int)) from by assumption).1; dsimp only; omega)) (by first | omega | (have := isNum_in (show entOk (gt l ((k + 1 : Nat) : Int)) from by assumption).1; dsimp only; omega)))) ?_
              refine GL.mv_ rfl rfl ?_; refine GL.nil ?_
              exact fun a w h => ⟨(_ + 1), (by omega), ⟨by omega, fun j hj => (Nat.lt_succ_iff_lt_or_eq.1 hj).elim (hall j) (fun e => by subst e; exact ⟨by assumption, fun _ => by first | omega | assumption⟩)⟩, h.cut (is := []) (js := [8]) ⟨rfl, rfl, rfl, rfl, trivial⟩ rfl rfl⟩))
        ·try simp only [tst_, entE_iff] at h5
         first
         | (exfalso; omega)
         |(skip
           iterate 10 refine GQ.pass (s := 18) rfl rfl rfl ?_
           refine GQ.stepG (s := 15) rfl rfl rfl (q_pure (p_pick_false rfl rfl)) ?_; refine GQ.step rfl (q_pure (p_pick_false rfl rfl)) ?_
           refine GQ.nil (?_ : GC _ _ _ _)
           refine GC.cond_false rfl ?_
           refine GC.skip (?_ : GC _ _ _ _)
           refine GC.region ?_; refine GL.pure rfl (p_add rfl rfl (w64 (by first | omega | (have := isNum_in (show entOk (gt l ((k + 1 : Nat) : Int)) from by assumption).1; dsimp only; omega)) (by first | omega | (have := isNum_in (show entOk (gt l ((k + 1 : Nat) : Int)) from by assumption).1; dsimp only; omega)))) ?_
           refine GL.mv_ rfl rfl ?_; refine GL.nil ?_
           exact fun a w h => ⟨(_ + 1), (by omega), ⟨by omega, fun j hj => (Nat.lt_succ_iff_lt_or_eq.1 hj).elim (hall j) (fun e => by subst e; exact ⟨by assumption, fun _ => by first | omega | assumption⟩)⟩, h.cut (is := []) (js := [8]) ⟨rfl, rfl, rfl, rfl, trivial⟩ rfl rfl⟩)))
 ·try simp only [tst_, entE_iff] at h1
  first
  | (exfalso; omega)
  |(skip
    refine GC.exit (?_ : GC _ _ _ _)
    refine GC.sr_ ?_; refine GL.as_ rfl rfl ?_; refine GL.nl_ ?_; refine GC.ret ?_
    refine fun a w h => Fin.back (rs := [.tmp 2]) (vs := [_]) (is := []) (js := []) rfl ⟨rfl, trivial⟩ rfl rfl ?_ h
    clear h
    exact ⟨congrArg Value.bool (decide_eq_true fun j hj => hall j (by omega)).symm, rfl, rfl⟩)
theorem wrow_ct (A : Option Addr) (l : List Entry) (cp : Nat) (hl : l.length ≤ 140737488355328) (hm : ∀ e ∈ l, EntLen e) : Ct Tryz.prog 64 [.slice A l.length cp] [] [Pers.row kEntry A l] (fun u G Q => u = .bool (decide (rowOkE l)) ∧ G = [] ∧ Q = []) := by
 refine Ct.intro Tryz.func64 rfl rfl rfl (fun c hc => ?_)
 refine GC.sr_ ?_; refine GL.as_ rfl rfl ?_; refine GL.nl_ ?_; refine GC.seq' ?_; refine GC.sr_ ?_; refine GL.mv_ rfl rfl ?_; refine GL.pure rfl (p_len Tryz.underlying40 rfl) ?_; refine GL.mv_ rfl rfl ?_; refine GL.nl_ ?_
 refine GC.block ?_; refine GC.loopK1 (ks := [0, 5, 6]) (is := []) (js := [0]) (fun (k : Nat) => k ≤ l.length ∧ ∀ j : Nat, j < k → entOk (gt l (j : Int)) ∧ (0 < j → (gt l (j : Int)).num - 1 = (gt l ((j : Int) - 1)).num)) (fun (k : Nat) => [(7, .int .i64 (k : Int))]) (fun (k : Nat) => []) (fun (k : Nat) => []) (fun (k : Nat) => l.length - k) (0) rfl rfl rfl (fun a w h => ⟨⟨by omega, fun j hj => by omega⟩, h.cutK (is := []) (js := [0]) (ks := [0, 5, 6]) ⟨rfl, trivial⟩ rfl rfl rfl⟩) ?_
 intro k hk
 try dsimp only [List.cons_append, List.nil_append] at hk ⊢
 obtain ⟨hk, hall⟩ := hk
 refine GC.sr_ ?_; refine GL.pure rfl (p_lss rfl rfl) ?_; refine GL.nl_ ?_; refine GC.seq' ?_; refine GC.cond rfl (fun h1 => ?_) (fun h1 => ?_)
 ·try simp only [tst_, entE_iff] at h1
  first
  | (exfalso; omega)
  |(skip
    refine GC.skip (?_ : GC _ _ _ _)
    refine GC.seq' ?_; refine GC.block ?_; refine GC.sr_ ?_; refine GL.mv_ rfl rfl ?_; refine GL.step rfl (t_index (i := 0) rfl rfl rfl rfl Tryz.underlying40 sz_64 (by first | omega | (have := isNum_in (show entOk (gt l ((k + 1 : Nat) : Int)) from by assumption).1; dsimp only; omega)) (gt_ok (by first | omega | (have := isNum_in (show entOk (gt l ((k + 1 : Nat) : Int)) from by assumption).1; dsimp only; omega)) (by first | omega | (have := isNum_in (show entOk (gt l ((k + 1 : Nat) : Int)) from by assumption).1; dsimp only; omega)))) (GL.ex fun p_x10 => GL.ex fun r_x10 => GL.and fun ok_x10 => ?_)
    rcases r_x10 with ⟨_, ⟨_, ⟨_, ⟨_, ⟨_, ⟨⟨_, ⟨_, ⟨_, ⟨⟨Ax10_0, cpx10_0⟩, ⟨Ax10_1, cpx10_1⟩⟩⟩⟩⟩, ⟨_, ⟨Ax10_2, cpx10_2⟩⟩⟩⟩⟩⟩⟩⟩
    refine GL.step rfl (t_mem rfl (m_loadPN (i := 0) rfl rfl ag_64 (vs := [_, _, _, _, _, _, _, _, _, _, _, _]) sz_64 ⟨rfl, rfl, rfl, rfl, rfl, rfl, rfl, rfl, rfl, rfl, rfl, rfl, trivial⟩)) ?_; refine GL.step rfl (t_alloc rfl ze_64) (GL.ex fun b_t4 => ?_)
    refine GL.as_ rfl rfl ?_; refine GL.step rfl (t_storeN (i := 0) rfl rfl rfl sz_64 rfl rfl rfl) ?_; refine GL.nl_ ?_; refine GC.seq' ?_
    have hme := (hm _ (gt_elem (l := l) (k := k) (by omega))).m
    have hml : (gt l (k : Int)).grp.members.length ≤ 140737488355328 := by omega
    rcases k with _ | k
    ·skip
     refine GC.regionQ wide_ (by kernel_rfl) ?_; refine GQ.step rfl (q_mem (m_loadN (i := 0) rfl rfl ag_64 (vs := [_, _, _, _, _, _, _, _, _, _, _, _]) sz_64 ⟨rfl, rfl, rfl, rfl, rfl, rfl, rfl, rfl, rfl, rfl, rfl, rfl, trivial⟩)) ?_
     refine GQ.step rfl (q_call fn_112 rfl (js := [1, 2, 3]) rfl (by exact ment_ct (gt l (_ : Int)) _ _ _ _ _ _ (by first | assumption | omega))) ?_; refine GQ.step rfl (q_pure (p_neq rfl rfl)) ?_; refine GQ.step rfl (q_pure (p_move rfl)) ?_
     refine GQ.split (i := 15) rfl (fun h2 => ?_) (fun h2 => ?_)
     ·try simp only [tst_, entE_iff] at h2
      first
      | (exfalso; omega)
      |(skip
        iterate 3 refine GQ.pass (s := 15) rfl rfl rfl ?_
        iterate 10 refine GQ.passU (s := 18) rfl rfl rfl ?_
        refine GQ.pass (s := 15) rfl rfl rfl ?_; refine GQ.step rfl (q_pure (p_pick_true rfl rfl)) ?_
        refine GQ.nil (?_ : GC _ _ _ _)
        refine GC.cond_true rfl ?_; refine GC.sr_ ?_; refine GL.as_ rfl rfl ?_; refine GL.nl_ ?_; refine GC.ret ?_
        refine fun a w h => Fin.back (rs := [.tmp 2]) (vs := [_]) (is := []) (js := []) rfl ⟨rfl, trivial⟩ rfl rfl ?_ h
        clear h
        exact ⟨congrArg Value.bool (decide_eq_false fun H => by first | exact absurd (H 0 (by omega)).1 (by assumption) | exact absurd (H (k + 1) (by omega)).1 (by assumption) | exact absurd ((H (k + 1) (by omega)).2 (by omega)) (by assumption)).symm, rfl, rfl⟩)
     ·try simp only [tst_, entE_iff] at h2
      first
      | (exfalso; omega)
      |(skip
        refine GQ.stepG (s := 15) rfl rfl rfl (q_pure (p_move rfl)) ?_; refine GQ.stepG (s := 15) rfl rfl rfl (q_pure (p_gtr rfl rfl)) ?_; refine GQ.stepG (s := 15) rfl rfl rfl (q_pure (p_move rfl)) ?_; refine GQ.split (i := 18) rfl (fun h3 => ?_) (fun h3 => ?_)
        ·try simp only [tst_, entE_iff] at h3
         first
         | (exfalso; omega)
         |(skip
           refine GQ.stepG (s := 18) rfl rfl rfl (q_pure (p_fieldAddr fo_64_1 rfl)) ?_; refine GQ.stepG (s := 18) rfl rfl rfl (q_mem (m_load (i := 0) rfl rfl ag_3 rfl)) ?_; refine GQ.stepG (s := 18) rfl rfl rfl (q_pure (p_sub rfl rfl (w64 (by first | omega | (have := isNum_in (show entOk (gt l ((k + 1 : Nat) : Int)) from by assumption).1; dsimp only; omega)) (by first | omega | (have := isNum_in (show entOk (gt l ((k + 1 : Nat) : Int)) from by assumption).1; dsimp only; omega))))) ?_
           iterate 2 refine GQ.stepG (s := 18) rfl rfl rfl (q_pure (p_move rfl)) ?_
           refine GQ.stepG (s := 18) rfl rfl rfl (q_pure (p_sub rfl rfl (w64 (by first | omega | (have := isNum_in (show entOk (gt l ((k + 1 : Nat) : Int)) from by assumption).1; dsimp only; omega)) (by first | omega | (have := isNum_in (show entOk (gt l ((k + 1 : Nat) : Int)) from by assumption).1; dsimp only; omega))))) ?_
           exact (by omega : False).elim)
        ·try simp only [tst_, entE_iff] at h3
         first
         | (exfalso; omega)
         |(skip
           iterate 10 refine GQ.pass (s := 18) rfl rfl rfl ?_
           refine GQ.stepG (s := 15) rfl rfl rfl (q_pure (p_pick_false rfl rfl)) ?_; refine GQ.step rfl (q_pure (p_pick_false rfl rfl)) ?_
           refine GQ.nil (?_ : GC _ _ _ _)
           refine GC.cond_false rfl ?_
           refine GC.skip (?_ : GC _ _ _ _)
           refine GC.region ?_; refine GL.pure rfl (p_add rfl rfl (w64 (by first | omega | (have := isNum_in (show entOk (gt l ((k + 1 : Nat) : Int)) from by assumption).1; dsimp only; omega)) (by first | omega | (have := isNum_in (show entOk (gt l ((k + 1 : Nat) : Int)) from by assumption).1; dsimp only; omega)))) ?_
           refine GL.mv_ rfl rfl ?_; refine GL.nil ?_
           exact fun a w h => ⟨(_ + 1), (by omega), ⟨by omega, fun j hj => (Nat.lt_succ_iff_lt_or_eq.1 hj).elim (hall j) (fun e => by subst e; exact ⟨by assumption, fun _ => by first | omega | assumption⟩)⟩, h.cut (is := []) (js := [4]) ⟨rfl, rfl, rfl, rfl, trivial⟩ rfl rfl⟩))
    ·skip
     refine GC.lay (x := .const (.slice A l.length cp)) (y := .const (.int .i64 (((k + 1 : Nat) : Int) - 1))) (j := 4) rfl rfl rfl (by first | omega | (have := isNum_in (show entOk (gt l ((k + 1 : Nat) : Int)) from by assumption).1; dsimp only; omega)) (gt_ok (by first | omega | (have := isNum_in (show entOk (gt l ((k + 1 : Nat) : Int)) from by assumption).1; dsimp only; omega)) (by first | omega | (have := isNum_in (show entOk (gt l ((k + 1 : Nat) : Int)) from by assumption).1; dsimp only; omega))) (fun p_xp r_xp hA_xp ok_xp => ?_)
     rcases r_xp with ⟨_, ⟨_, ⟨_, ⟨_, ⟨_, ⟨⟨_, ⟨_, ⟨_, ⟨⟨Axp_0, cpxp_0⟩, ⟨Axp_1, cpxp_1⟩⟩⟩⟩⟩, ⟨_, ⟨Axp_2, cpxp_2⟩⟩⟩⟩⟩⟩⟩⟩
     refine GC.regionQ wide_ (by kernel_rfl) ?_; refine GQ.step rfl (q_mem (m_loadN (i := 0) rfl rfl ag_64 (vs := [_, _, _, _, _, _, _, _, _, _, _, _]) sz_64 ⟨rfl, rfl, rfl, rfl, rfl, rfl, rfl, rfl, rfl, rfl, rfl, rfl, trivial⟩)) ?_
     refine GQ.step rfl (q_call fn_112 rfl (js := [5, 6, 7]) rfl (by exact ment_ct (gt l (_ : Int)) _ _ _ _ _ _ (by first | assumption | omega))) ?_; refine GQ.step rfl (q_pure (p_neq rfl rfl)) ?_; refine GQ.step rfl (q_pure (p_move rfl)) ?_
     refine GQ.split (i := 15) rfl (fun h4 => ?_) (fun h4 => ?_)
     ·try simp only [tst_, entE_iff] at h4
      first
      | (exfalso; omega)
      |(skip
        iterate 3 refine GQ.pass (s := 15) rfl rfl rfl ?_
        iterate 10 refine GQ.passU (s := 18) rfl rfl rfl ?_
        refine GQ.pass (s := 15) rfl rfl rfl ?_; refine GQ.step rfl (q_pure (p_pick_true rfl rfl)) ?_
        refine GQ.nil (?_ : GC _ _ _ _)
        refine GC.cond_true rfl ?_; refine GC.sr_ ?_; refine GL.as_ rfl rfl ?_; refine GL.nl_ ?_; refine GC.ret ?_
        refine fun a w h => Fin.back (rs := [.tmp 2]) (vs := [_]) (is := []) (js := []) rfl ⟨rfl, trivial⟩ rfl rfl ?_ h
        clear h
        exact ⟨congrArg Value.bool (decide_eq_false fun H => by first | exact absurd (H 0 (by omega)).1 (by assumption) | exact absurd (H (k + 1) (by omega)).1 (by assumption) | exact absurd ((H (k + 1) (by omega)).2 (by omega)) (by assumption)).symm, rfl, rfl⟩)
     ·try simp only [tst_, entE_iff] at h4
      first
      | (exfalso; omega)
      |(skip
        refine GQ.stepG (s := 15) rfl rfl rfl (q_pure (p_move rfl)) ?_; refine GQ.stepG (s := 15) rfl rfl rfl (q_pure (p_gtr rfl rfl)) ?_; refine GQ.stepG (s := 15) rfl rfl rfl (q_pure (p_move rfl)) ?_; refine GQ.split (i := 18) rfl (fun h5 => ?_) (fun h5 => ?_)
        ·try simp only [tst_, entE_iff] at h5
         first
         | (exfalso; omega)
         |(skip
           refine GQ.stepG (s := 18) rfl rfl rfl (q_pure (p_fieldAddr fo_64_1 rfl)) ?_; refine GQ.stepG (s := 18) rfl rfl rfl (q_mem (m_load (i := 0) rfl rfl ag_3 rfl)) ?_; refine GQ.stepG (s := 18) rfl rfl rfl (q_pure (p_sub rfl rfl (w64 (by first | omega | (have := isNum_in (show entOk (gt l ((k + 1 : Nat) : Int)) from by assumption).1; dsimp only; omega)) (by first | omega | (have := isNum_in (show entOk (gt l ((k + 1 : Nat) : Int)) from by assumption).1; dsimp only; omega))))) ?_
           iterate 2 refine GQ.stepG (s := 18) rfl rfl rfl (q_pure (p_move rfl)) ?_
           refine GQ.stepG (s := 18) rfl rfl rfl (q_pure (p_sub rfl rfl (w64 (by first | omega | (have := isNum_in (show entOk (gt l ((k + 1 : Nat) : Int)) from by assumption).1; dsimp only; omega)) (by first | omega | (have := isNum_in (show entOk (gt l ((k + 1 : Nat) : Int)) from by assumption).1; dsimp only; omega))))) ?_
           refine GQ.stepG (s := 18) rfl rfl rfl (q_pure (p_indexL hA_xp rfl rfl Tryz.underlying40 sz_64 (by first | omega | (have := isNum_in (show entOk (gt l ((k + 1 : Nat) : Int)) from by assumption).1; dsimp only; omega)) (by first | omega | (have := isNum_in (show entOk (gt l ((k + 1 : Nat) : Int)) from by assumption).1; dsimp only; omega)))) ?_
           refine GQ.stepG (s := 18) rfl rfl rfl (q_pure (p_fieldAddr' fo_64_1 rfl)) ?_; refine GQ.stepG (s := 18) rfl rfl rfl (q_mem (m_loadP (i := 0) rfl rfl ag_3 rfl)) ?_; refine GQ.stepG (s := 18) rfl rfl rfl (q_pure (p_neq rfl rfl)) ?_
           refine GQ.stepG (s := 15) rfl rfl rfl (q_pure (p_pick_true rfl rfl)) ?_; refine GQ.step rfl (q_pure (p_pick_false rfl rfl)) ?_
           refine GQ.nil (?_ : GC _ _ _ _)
           refine GC.cond rfl (fun h6 => ?_) (fun h6 => ?_)
           ·try simp only [tst_, entE_iff] at h6
            first
            | (exfalso; omega)
            |(skip
              refine GC.sr_ ?_; refine GL.as_ rfl rfl ?_; refine GL.nl_ ?_; refine GC.ret ?_
              refine fun a w h => Fin.back (rs := [.tmp 2]) (vs := [_]) (is := []) (js := []) rfl ⟨rfl, trivial⟩ rfl rfl ?_ h
              clear h
              exact ⟨congrArg Value.bool (decide_eq_false fun H => by first | exact absurd (H 0 (by omega)).1 (by assumption) | exact absurd (H (k + 1) (by omega)).1 (by assumption) | exact absurd ((H (k + 1) (by omega)).2 (by omega)) (by assumption)).symm, rfl, rfl⟩)
           ·try simp only [tst_, entE_iff] at h6
            first
            | (exfalso; omega)
            |(skip
              refine GC.skip (?_ : GC _ _ _ _)
              refine GC.region ?_; refine GL.pure rfl (p_add rfl rfl (w64 (by first | omega | (have := isNum_in (show entOk (gt l ((k + 1 : Nat) : Int)) from by assumption).1; dsimp only; omega)) (by first | omega | (have := isNum_in (show entOk (gt l ((k + 1 : Nat) : Int)) from by assumption).1; dsimp only; omega)))) ?_
              refine GL.mv_ rfl rfl ?_; refine GL.nil ?_
              exact fun a w h => ⟨(_ + 1), (by omega), ⟨by omega, fun j hj => (Nat.lt_succ_iff_lt_or_eq.1 hj).elim (hall j) (fun e => by subst e; exact ⟨by assumption, fun _ => by first | omega | assumption⟩)⟩, h.cut (is := []) (js := [8]) ⟨rfl, rfl, rfl, rfl, trivial⟩ rfl rfl⟩))
        ·try simp only [tst_, entE_iff] at h5
         first
         | (exfalso; omega)
         |(skip
           iterate 10 refine GQ.pass (s := 18) rfl rfl rfl ?_
           refine GQ.stepG (s := 15) rfl rfl rfl (q_pure (p_pick_false rfl rfl)) ?_; refine GQ.step rfl (q_pure (p_pick_false rfl rfl)) ?_
           refine GQ.nil (?_ : GC _ _ _ _)
           refine GC.cond_false rfl ?_
           refine GC.skip (?_ : GC _ _ _ _)
           refine GC.region ?_; refine GL.pure rfl (p_add rfl rfl (w64 (by first | omega | (have := isNum_in (show entOk (gt l ((k + 1 : Nat) : Int)) from by assumption).1; dsimp only; omega)) (by first | omega | (have := isNum_in (show entOk (gt l ((k + 1 : Nat) : Int)) from by assumption).1; dsimp only; omega)))) ?_
           refine GL.mv_ rfl rfl ?_; refine GL.nil ?_
           exact fun a w h => ⟨(_ + 1), (by omega), ⟨by omega, fun j hj => (Nat.lt_succ_iff_lt_or_eq.1 hj).elim (hall j) (fun e => by subst e; exact ⟨by assumption, fun _ => by first | omega | assumption⟩)⟩, h.cut (is := []) (js := [8]) ⟨rfl, rfl, rfl, rfl, trivial⟩ rfl rfl⟩)))
 ·try simp only [tst_, entE_iff] at h1
  first
  | (exfalso; omega)
  |(skip
    refine GC.exit (?_ : GC _ _ _ _)
    refine GC.sr_ ?_; refine GL.as_ rfl rfl ?_; refine GL.nl_ ?_; refine GC.ret ?_
    refine fun a w h => Fin.back (rs := [.tmp 2]) (vs := [_]) (is := []) (js := []) rfl ⟨rfl, trivial⟩ rfl rfl ?_ h
    clear h
    exact ⟨congrArg Value.bool (decide_eq_true fun j hj => hall j (by omega)).symm, rfl, rfl⟩)
theorem joins_nil (n : Int) (cp : Nat) (A : Option Addr) : Ct Tryz.prog 111 [.int .i64 n, .slice A 0 cp] [] [] (fun u G Q => u = .bool true ∧ G = [] ∧ Q = []) := by
 refine Ct.intro Tryz.func111 rfl rfl rfl (fun c hc => ?_)
 refine GC.sr_ ?_; refine GL.as_ rfl rfl ?_; refine GL.nl_ ?_; refine GC.sr_ ?_; refine GL.mv_ rfl rfl ?_; refine GL.pure rfl (p_len Tryz.underlying40 rfl) ?_; refine GL.pure rfl (p_eql rfl rfl) ?_; refine GL.mv_ rfl rfl ?_
 refine GL.split (i := 8) rfl (fun h1 => ?_) (fun h1 => ?_)
 ·try simp only [tst_] at h1
  iterate 7 refine GL.pass (s := 8) rfl rfl rfl ?_
  refine GL.pure rfl (p_pick_true rfl rfl) ?_; refine GL.as_ rfl rfl ?_; refine GL.nl_ ?_; refine GC.ret ?_
  refine fun a w h => Fin.back (rs := [.tmp 4]) (vs := [_]) (is := []) (js := []) rfl ⟨rfl, trivial⟩ rfl rfl ?_ h
  clear h
  exact ⟨rfl, rfl, rfl⟩
 ·try simp only [tst_] at h1
  exfalso; omega
theorem vload_ct (bl sz : Int) (A : Option Addr) (l : List Page) (cp : Nat) (hl : l.length ≤ 140737488355328) : Ct Tryz.prog 145 [shpV bl sz, .slice A l.length cp] [] [Pers.row kPage A l] (fun v G Q => (∃ x e, v = .tuple #[.pointer x, .int .i64 e] ∧ (e = 0 ↔ (shapeOk bl sz ∧ laidF bl sz (-1) l = true))) ∧ G = [] ∧ Q = []) := by
  by_cases h : shapeOk bl sz
  · cases hb : laidF bl sz (-1) l
    · exact Ct.drop (load_no bl sz A l cp h hl hb) fun v G Q h => ⟨_, _, h.1, by simp⟩
    · exact Ct.drop (load_ok bl sz A l cp h hl hb) fun v G Q ⟨p, pb, pv, h1, _⟩ => ⟨_, _, h1, by simp [h]⟩
  · exact Ct.drop (load_bad bl sz A l cp h) fun v G Q h1 => ⟨_, _, h1.1, by simp [h]⟩
theorem tload_ct (A : Option Addr) (l : List Row) (cp : Nat) (hl : l.length ≤ 140737488355328) : Ct Tryz.prog 146 [.slice A l.length cp] [] [Pers.row kRow A l] (fun v G Q => (∃ x e, v = .tuple #[.pointer x, .int .i64 e] ∧ (e = 0 ↔ rightF l = true)) ∧ G = [] ∧ Q = []) := by
  cases hb : rightF l
  · exact Ct.drop (tload_bad A l cp hl hb) fun v G Q h => ⟨_, _, h.1, by simp⟩
  · exact Ct.drop (tload_ok A l cp hl hb) fun v G Q h => by
      obtain ⟨_, _, _, _, h1, _⟩ := h
      exact ⟨_, _, h1, by simp⟩
theorem mown_ct (e : Int) (A : Option Addr) (l : List Int) (cp : Nat) (hl : l.length ≤ 17592186044416) : Ct Tryz.prog 149 [grpV e A l.length cp] [] [Pers.row kI A l] (fun u G Q => ∃ A' cp', u = grpV e A' l.length cp' ∧ G = [] ∧ Q = []) := by
 refine Ct.intro Tryz.func149 rfl rfl rfl (fun c hc => ?_)
 refine GC.sr_ ?_; refine GL.step rfl (t_box rfl rfl rfl) (GL.ex fun b_t1 => ?_); refine GL.step rfl (t_alloc rfl ze_33) (GL.ex fun b_t2 => ?_); refine GL.nl_ ?_; refine GC.sr_ ?_; refine GL.pure rfl (p_fieldAddr fo_33_1 rfl) ?_
 refine GL.step rfl (t_mem rfl (m_load (i := 1) rfl rfl ag_31 rfl)) ?_; refine GL.step rfl (t_call rfl fn_167 rfl (is := []) (js := [0]) rfl rfl (by exact clone_i _ _ _ (by first | assumption | omega))) (GL.ret ?_)
 rintro _ _ _ ⟨A5, cp5, l5, k5, rfl, rfl, rfl⟩
 refine GL.pure rfl (p_fieldAddr fo_33_1 rfl) ?_; refine GL.step rfl (t_store (i := 2) rfl rfl rfl rfl sz_31 rfl rfl rfl) ?_; refine GL.nl_ ?_; refine GC.sr_ ?_; refine GL.step rfl (t_mem rfl (m_loadN (i := 2) rfl rfl ag_33 (vs := [_, _]) sz_33 ⟨rfl, rfl, trivial⟩)) ?_
 refine GL.step rfl (t_storeN (i := 1) rfl rfl rfl sz_33 rfl rfl rfl) ?_; refine GL.nl_ ?_; refine GC.ret ?_
 refine fun a w h => Fin.back (rs := [.cell 2 33]) (vs := [_]) (is := []) (js := []) rfl ⟨⟨1, _, _, _, _, rfl, rfl, .inr ⟨[_, _], rfl, ag_33, sz_33, ⟨rfl, rfl, trivial⟩⟩⟩, trivial⟩ rfl rfl ?_ h
 clear h
 exact ⟨_, _, rfl, rfl, rfl⟩
abbrev sttL (s : Stt) (A : Option Addr) (cp : Nat) (B : Option Addr) (cq : Nat) (C : Option Addr) (cr : Nat) : List Value := [.int .i64 s.num, .int .i64 s.shp.bl, .int .i64 s.shp.sz, .slice A s.pages.length cp, .slice B s.rows.length cq, .int .i64 s.grp.epoch, .slice C s.grp.members.length cr]
theorem heldc_ct (b : Nat) (s : Stt) (A : Option Addr) (cp : Nat) (B : Option Addr) (cq : Nat) (C : Option Addr) (cr : Nat) (pg : Page) (D : Option Addr) (cd : Nat) : Ct Tryz.prog 148 [pageV pg D cd, .pointer (some ⟨b, 0, none⟩)] [.cells b (sttL s A cp B cq C cr) 39] []
    (fun u G Q => u = .bool (decide (s.num < pg.ver)) ∧ G = [.cells b (sttL s A cp B cq C cr) 39] ∧ Q = []) := by
 refine Ct.intro Tryz.func148 rfl rfl rfl (fun c hc => ?_)
 refine GC.sr_ ?_; refine GL.step rfl (t_box rfl rfl rfl) (GL.ex fun b_t2 => ?_); refine GL.as_ rfl rfl ?_; refine GL.nl_ ?_; refine GC.sr_ ?_; refine GL.pure rfl (p_fieldAddr fo_59_1 rfl) ?_; refine GL.step rfl (t_mem rfl (m_load (i := 0) rfl rfl ag_3 rfl)) ?_
 refine GL.pure rfl (p_fieldAddr fo_39_0 rfl) ?_; refine GL.step rfl (t_mem rfl (m_load (i := 1) rfl rfl ag_3 rfl)) ?_; refine GL.pure rfl (p_gtr rfl rfl) ?_; refine GL.as_ rfl rfl ?_; refine GL.nl_ ?_; refine GC.ret ?_
 refine fun a w h => Fin.back (rs := [.tmp 3]) (vs := [_]) (is := [1]) (js := []) rfl ⟨rfl, trivial⟩ rfl rfl ?_ h
 clear h
 exact ⟨rfl, rfl, rfl⟩
theorem hidx_ct (b : Nat) (s : Stt) (A : Option Addr) (cp : Nat) (B : Option Addr) (cq : Nat) (C : Option Addr) (cr : Nat) (D : Option Addr) (l : List Page) (cd : Nat) (hl : l.length ≤ 140737488355328) : Ct Tryz.prog 166 [.slice D l.length cd, .func (.func 148) #[] #[.pointer (some ⟨b, 0, none⟩)]] [.cells b (sttL s A cp B cq C cr) 39] [Pers.row kPage D l]
    (fun u G Q => ∃ i : Int, (0 ≤ i ↔ ¬ ∀ p ∈ l, p.ver ≤ s.num) ∧ u = .int .i64 i ∧ G = [.cells b (sttL s A cp B cq C cr) 39] ∧ Q = []) := by
 refine Ct.intro Tryz.func166 rfl rfl rfl (fun c hc => ?_)
 refine GC.sr_ ?_; refine GL.as_ rfl rfl ?_; refine GL.nl_ ?_; refine GC.seq' ?_; refine GC.sr_ ?_; refine GL.mv_ rfl rfl ?_; refine GL.pure rfl (p_len Tryz.underlying36 rfl) ?_; refine GL.mv_ rfl rfl ?_; refine GL.nl_ ?_
 refine GC.block ?_; refine GC.loopK1 (ks := [0, 1, 7]) (is := [0]) (js := [0]) (fun (k : Nat) => k ≤ l.length ∧ ∀ j : Nat, j < k → (gt l (j : Int)).ver ≤ s.num) (fun (k : Nat) => [(8, .int .i64 (k : Int))]) (fun (k : Nat) => []) (fun (k : Nat) => []) (fun (k : Nat) => l.length - k) (0) rfl rfl rfl (fun a w h => ⟨⟨by omega, fun j hj => by omega⟩, h.cutK (is := [0]) (js := [0]) (ks := [0, 1, 7]) ⟨rfl, trivial⟩ rfl rfl rfl⟩) ?_
 intro k hk
 try dsimp only [List.cons_append, List.nil_append] at hk ⊢
 obtain ⟨hk, hall⟩ := hk
 refine GC.sr_ ?_; refine GL.pure rfl (p_lss rfl rfl) ?_; refine GL.nl_ ?_; refine GC.seq' ?_; refine GC.cond rfl (fun h1 => ?_) (fun h1 => ?_)
 ·try simp only [tst_] at h1
  refine GC.skip (?_ : GC _ _ _ _)
  refine GC.seq' ?_; refine GC.block ?_; refine GC.sr_ ?_; refine GL.mv_ rfl rfl ?_; refine GL.as_ rfl rfl ?_; refine GL.nl_ ?_; refine GC.sr_ ?_
  iterate 3 refine GL.mv_ rfl rfl ?_
  refine GL.step rfl (t_index (i := 0) rfl rfl rfl rfl Tryz.underlying36 sz_59 (by omega) (gt_ok (by omega) (by omega))) (GL.ex fun p_x14 => GL.ex fun r_x14 => GL.and fun ok_x14 => ?_)
  rcases r_x14 with ⟨_, ⟨_, ⟨Ax14_0, cpx14_0⟩⟩⟩
  refine GL.step rfl (t_mem rfl (m_loadPN (i := 0) rfl rfl ag_59 (vs := [_, _, _]) sz_59 ⟨rfl, rfl, rfl, trivial⟩)) ?_; refine GL.step rfl (t_callv rfl fn_148 rfl rfl (is := [0]) (js := []) rfl rfl (by exact heldc_ct _ s _ _ _ _ _ _ (gt l (k : Int)) _ _)) (GL.ret ?_)
  rintro _ _ _ ⟨rfl, rfl, rfl⟩
  refine GL.nl_ ?_; refine GC.cond rfl (fun h2 => ?_) (fun h2 => ?_)
  ·try simp only [tst_] at h2
   refine GC.sr_ ?_; refine GL.mv_ rfl rfl ?_; refine GL.as_ rfl rfl ?_; refine GL.nl_ ?_; refine GC.ret ?_
   refine fun a w h => Fin.back (rs := [.tmp 4]) (vs := [_]) (is := [0]) (js := []) rfl ⟨rfl, trivial⟩ rfl rfl ?_ h
   clear h
   exact ⟨_, ⟨fun _ H => by have := H _ (gt_elem (l := l) (k := k) (by omega)); omega, fun _ => by omega⟩, rfl, rfl, rfl⟩
  ·try simp only [tst_] at h2
   refine GC.skip (?_ : GC _ _ _ _)
   refine GC.region ?_; refine GL.pure rfl (p_add rfl rfl (w64 (by omega) (by omega))) ?_; refine GL.mv_ rfl rfl ?_; refine GL.nil ?_
   exact fun a w h => ⟨(k + 1), (by omega), ⟨by omega, fun j hj => (Nat.lt_succ_iff_lt_or_eq.1 hj).elim (hall j) (fun e => by subst e; omega)⟩, h.cut (is := [0]) (js := [2]) ⟨rfl, rfl, rfl, rfl, trivial⟩ rfl rfl⟩
 ·try simp only [tst_] at h1
  refine GC.exit (?_ : GC _ _ _ _)
  refine GC.sr_ ?_; refine GL.as_ rfl rfl ?_; refine GL.nl_ ?_; refine GC.ret ?_
  refine fun a w h => Fin.back (rs := [.tmp 4]) (vs := [_]) (is := [0]) (js := []) rfl ⟨rfl, trivial⟩ rfl rfl ?_ h
  clear h
  exact ⟨_, ⟨fun g => by omega, fun g => absurd (fun p hp => by obtain ⟨j, hj, rfl⟩ := mem_gt hp; exact hall j (by omega)) g⟩, rfl, rfl, rfl⟩
theorem hcon_ct (b : Nat) (s : Stt) (A : Option Addr) (cp : Nat) (B : Option Addr) (cq : Nat) (C : Option Addr) (cr : Nat) (D : Option Addr) (l : List Page) (cd : Nat) (hl : l.length ≤ 140737488355328) : Ct Tryz.prog 147 [.slice D l.length cd, .func (.func 148) #[] #[.pointer (some ⟨b, 0, none⟩)]] [.cells b (sttL s A cp B cq C cr) 39] [Pers.row kPage D l]
    (fun u G Q => u = .bool (decide (¬ ∀ p ∈ l, p.ver ≤ s.num)) ∧ G = [.cells b (sttL s A cp B cq C cr) 39] ∧ Q = []) := by
 refine Ct.intro Tryz.func147 rfl rfl rfl (fun c hc => ?_)
 refine GC.sr_ ?_; refine GL.as_ rfl rfl ?_; refine GL.nl_ ?_; refine GC.sr_ ?_
 iterate 2 refine GL.mv_ rfl rfl ?_
 refine GL.step rfl (t_call rfl fn_166 rfl (is := [0]) (js := [0]) rfl rfl (by exact hidx_ct _ s _ _ _ _ _ _ _ _ _ hl)) (GL.ret ?_)
 rintro _ _ _ ⟨i7, hi7, rfl, rfl, rfl⟩
 refine GL.pure rfl (p_geq rfl rfl) ?_; refine GL.as_ rfl rfl ?_; refine GL.nl_ ?_; refine GC.ret ?_
 refine fun a w h => Fin.back (rs := [.tmp 4]) (vs := [_]) (is := [0]) (js := []) rfl ⟨rfl, trivial⟩ rfl rfl ?_ h
 clear h
 exact ⟨congrArg Value.bool (decide_eq_decide.2 hi7), rfl, rfl⟩
theorem held_ct (s : Stt) (A : Option Addr) (cp : Nat) (B : Option Addr) (cq : Nat) (C : Option Addr) (cr : Nat) (hs : SttLen s) : Ct Tryz.prog 121 [sttV s A cp B cq C cr] [] (sttQ s A B C) (fun u G Q => ∃ x, u = .tuple #[.pointer x, .bool (decide (heldOk s))] ∧ G = [] ∧ Q = []) := by
 obtain ⟨hp_, hr_, hm_, _, _⟩ := hs
 refine Ct.intro Tryz.func121 rfl rfl rfl (fun c hc => ?_)
 refine GC.sr_ ?_; refine GL.step rfl (t_box rfl rfl rfl) (GL.ex fun b_t1 => ?_)
 iterate 2 refine GL.as_ rfl rfl ?_
 refine GL.nl_ ?_; refine GC.seq' ?_; refine GC.sr_ ?_; refine GL.pure rfl (p_fieldAddr fo_39_0 rfl) ?_; refine GL.step rfl (t_mem rfl (m_load (i := 0) rfl rfl ag_3 rfl)) ?_; refine GL.pure rfl (p_lss rfl rfl) ?_; refine GL.mv_ rfl rfl ?_
 refine GL.split (i := 11) rfl (fun h1 => ?_) (fun h1 => ?_)
 ·try simp only [tst_, grpE_iff] at h1
  iterate 3 refine GL.pass (s := 11) rfl rfl rfl ?_
  refine GL.pure rfl (p_pick_true rfl rfl) ?_; refine GL.mv_ rfl rfl ?_
  iterate 4 refine GL.pass (s := 16) rfl rfl rfl ?_
  refine GL.pure rfl (p_pick_true rfl rfl) ?_; refine GL.nl_ ?_; refine GC.cond_true rfl ?_; refine GC.sr_ ?_
  iterate 2 refine GL.as_ rfl rfl ?_
  refine GL.nl_ ?_; refine GC.ret ?_
  refine fun a w h => Fin.back (rs := [.tmp 2, .tmp 3]) (vs := [_, _]) (is := []) (js := []) rfl ⟨rfl, rfl, trivial⟩ rfl rfl ?_ h
  clear h
  first | exact ⟨_, congrArg (fun b => Value.tuple #[.pointer _, .bool b]) (decide_eq_false (fun H => by obtain ⟨⟨g1, g2⟩, g3, g4, g5, g6, g7⟩ := H; first | omega | contradiction | simp_all)).symm, rfl, rfl⟩ | exact ⟨_, congrArg (fun b => Value.tuple #[.pointer _, .bool b]) (decide_eq_true (⟨⟨by omega, by omega⟩, by assumption, (he27.1 (by assumption)).1, (he27.1 (by assumption)).2, he33.1 (by assumption), by simp_all⟩)).symm, rfl, rfl⟩
 ·try simp only [tst_, grpE_iff] at h1
  refine GL.pureG (s := 11) rfl rfl rfl (p_fieldAddr fo_39_0 rfl) ?_; refine GL.stepG rfl (s := 11) rfl rfl (t_mem rfl (m_load (i := 0) rfl rfl ag_3 rfl)) ?_; refine GL.pureG (s := 11) rfl rfl rfl (p_gtr rfl rfl) ?_; refine GL.pure rfl (p_pick_false rfl rfl) ?_
  refine GL.mv_ rfl rfl ?_; refine GL.split (i := 16) rfl (fun h2 => ?_) (fun h2 => ?_)
  ·try simp only [tst_, grpE_iff] at h2
   iterate 4 refine GL.pass (s := 16) rfl rfl rfl ?_
   refine GL.pure rfl (p_pick_true rfl rfl) ?_; refine GL.nl_ ?_; refine GC.cond_true rfl ?_; refine GC.sr_ ?_
   iterate 2 refine GL.as_ rfl rfl ?_
   refine GL.nl_ ?_; refine GC.ret ?_
   refine fun a w h => Fin.back (rs := [.tmp 2, .tmp 3]) (vs := [_, _]) (is := []) (js := []) rfl ⟨rfl, rfl, trivial⟩ rfl rfl ?_ h
   clear h
   first | exact ⟨_, congrArg (fun b => Value.tuple #[.pointer _, .bool b]) (decide_eq_false (fun H => by obtain ⟨⟨g1, g2⟩, g3, g4, g5, g6, g7⟩ := H; first | omega | contradiction | simp_all)).symm, rfl, rfl⟩ | exact ⟨_, congrArg (fun b => Value.tuple #[.pointer _, .bool b]) (decide_eq_true (⟨⟨by omega, by omega⟩, by assumption, (he27.1 (by assumption)).1, (he27.1 (by assumption)).2, he33.1 (by assumption), by simp_all⟩)).symm, rfl, rfl⟩
  ·try simp only [tst_, grpE_iff] at h2
   refine GL.pureG (s := 16) rfl rfl rfl (p_fieldAddr fo_39_4 rfl) ?_; refine GL.stepG rfl (s := 16) rfl rfl (t_mem rfl (m_loadN (i := 0) rfl rfl ag_33 (vs := [_, _]) sz_33 ⟨rfl, rfl, trivial⟩)) ?_; refine GL.stepG rfl (s := 16) rfl rfl (t_call rfl fn_62 rfl (is := []) (js := [2]) rfl rfl (by exact mgroup_ct s.grp.epoch _ s.grp.members _ (by omega))) (GL.ret ?_)
   rintro _ _ _ ⟨rfl, rfl, rfl⟩
   refine GL.pureG (s := 16) rfl rfl rfl (p_neq rfl rfl) ?_; refine GL.pure rfl (p_pick_false rfl rfl) ?_; refine GL.nl_ ?_; refine GC.cond rfl (fun h3 => ?_) (fun h3 => ?_)
   ·try simp only [tst_, grpE_iff] at h3
    refine GC.sr_ ?_
    iterate 2 refine GL.as_ rfl rfl ?_
    refine GL.nl_ ?_; refine GC.ret ?_
    refine fun a w h => Fin.back (rs := [.tmp 2, .tmp 3]) (vs := [_, _]) (is := []) (js := []) rfl ⟨rfl, rfl, trivial⟩ rfl rfl ?_ h
    clear h
    first | exact ⟨_, congrArg (fun b => Value.tuple #[.pointer _, .bool b]) (decide_eq_false (fun H => by obtain ⟨⟨g1, g2⟩, g3, g4, g5, g6, g7⟩ := H; first | omega | contradiction | simp_all)).symm, rfl, rfl⟩ | exact ⟨_, congrArg (fun b => Value.tuple #[.pointer _, .bool b]) (decide_eq_true (⟨⟨by omega, by omega⟩, by assumption, (he27.1 (by assumption)).1, (he27.1 (by assumption)).2, he33.1 (by assumption), by simp_all⟩)).symm, rfl, rfl⟩
   ·try simp only [tst_, grpE_iff] at h3
    refine GC.skip (?_ : GC _ _ _ _)
    refine GC.sr_ ?_; refine GL.pure rfl (p_fieldAddr fo_39_1 rfl) ?_; refine GL.step rfl (t_mem rfl (m_loadN (i := 0) rfl rfl ag_35 (vs := [_, _]) sz_35 ⟨rfl, rfl, trivial⟩)) ?_; refine GL.pure rfl (p_fieldAddr fo_39_2 rfl) ?_
    refine GL.step rfl (t_mem rfl (m_load (i := 0) rfl rfl ag_36 rfl)) ?_; refine GL.step rfl (t_call rfl fn_145 rfl (is := []) (js := [0]) rfl rfl (by exact vload_ct s.shp.bl s.shp.sz _ s.pages _ (by omega))) (GL.ret ?_)
    rintro _ _ _ ⟨⟨x27, e27, rfl, he27⟩, rfl, rfl⟩
    refine GL.mv_ rfl rfl ?_
    iterate 2 refine GL.pure rfl (p_extract rfl rfl) ?_
    iterate 2 refine GL.as_ rfl rfl ?_
    refine GL.nl_ ?_; refine GC.sr_ ?_; refine GL.pure rfl (p_fieldAddr fo_39_3 rfl) ?_; refine GL.step rfl (t_mem rfl (m_load (i := 0) rfl rfl ag_37 rfl)) ?_; refine GL.step rfl (t_call rfl fn_146 rfl (is := []) (js := [1]) rfl rfl (by exact tload_ct _ s.rows _ (by omega))) (GL.ret ?_)
    rintro _ _ _ ⟨⟨x33, e33, rfl, he33⟩, rfl, rfl⟩
    refine GL.mv_ rfl rfl ?_
    iterate 2 refine GL.pure rfl (p_extract rfl rfl) ?_
    iterate 2 refine GL.as_ rfl rfl ?_
    refine GL.nl_ ?_; refine GC.seq' ?_; refine GC.sr_ ?_; refine GL.mv_ rfl rfl ?_; refine GL.pure rfl (p_neq rfl rfl) ?_; refine GL.mv_ rfl rfl ?_; refine GL.split (i := 38) rfl (fun h4 => ?_) (fun h4 => ?_)
    ·try simp only [tst_, grpE_iff] at h4
     iterate 2 refine GL.pass (s := 38) rfl rfl rfl ?_
     refine GL.pure rfl (p_pick_true rfl rfl) ?_; refine GL.mv_ rfl rfl ?_
     iterate 4 refine GL.pass (s := 42) rfl rfl rfl ?_
     refine GL.pure rfl (p_pick_true rfl rfl) ?_; refine GL.nl_ ?_; refine GC.cond_true rfl ?_; refine GC.sr_ ?_
     iterate 2 refine GL.as_ rfl rfl ?_
     refine GL.nl_ ?_; refine GC.ret ?_
     refine fun a w h => Fin.back (rs := [.tmp 2, .tmp 3]) (vs := [_, _]) (is := []) (js := []) rfl ⟨rfl, rfl, trivial⟩ rfl rfl ?_ h
     clear h
     first | exact ⟨_, congrArg (fun b => Value.tuple #[.pointer _, .bool b]) (decide_eq_false (fun H => by obtain ⟨⟨g1, g2⟩, g3, g4, g5, g6, g7⟩ := H; first | omega | contradiction | simp_all)).symm, rfl, rfl⟩ | exact ⟨_, congrArg (fun b => Value.tuple #[.pointer _, .bool b]) (decide_eq_true (⟨⟨by omega, by omega⟩, by assumption, (he27.1 (by assumption)).1, (he27.1 (by assumption)).2, he33.1 (by assumption), by simp_all⟩)).symm, rfl, rfl⟩
    ·try simp only [tst_, grpE_iff] at h4
     refine GL.pureG (s := 38) rfl rfl rfl (p_move rfl) ?_; refine GL.pureG (s := 38) rfl rfl rfl (p_neq rfl rfl) ?_; refine GL.pure rfl (p_pick_false rfl rfl) ?_; refine GL.mv_ rfl rfl ?_; refine GL.split (i := 42) rfl (fun h5 => ?_) (fun h5 => ?_)
     ·try simp only [tst_, grpE_iff] at h5
      iterate 4 refine GL.pass (s := 42) rfl rfl rfl ?_
      refine GL.pure rfl (p_pick_true rfl rfl) ?_; refine GL.nl_ ?_; refine GC.cond_true rfl ?_; refine GC.sr_ ?_
      iterate 2 refine GL.as_ rfl rfl ?_
      refine GL.nl_ ?_; refine GC.ret ?_
      refine fun a w h => Fin.back (rs := [.tmp 2, .tmp 3]) (vs := [_, _]) (is := []) (js := []) rfl ⟨rfl, rfl, trivial⟩ rfl rfl ?_ h
      clear h
      first | exact ⟨_, congrArg (fun b => Value.tuple #[.pointer _, .bool b]) (decide_eq_false (fun H => by obtain ⟨⟨g1, g2⟩, g3, g4, g5, g6, g7⟩ := H; first | omega | contradiction | simp_all)).symm, rfl, rfl⟩ | exact ⟨_, congrArg (fun b => Value.tuple #[.pointer _, .bool b]) (decide_eq_true (⟨⟨by omega, by omega⟩, by assumption, (he27.1 (by assumption)).1, (he27.1 (by assumption)).2, he33.1 (by assumption), by simp_all⟩)).symm, rfl, rfl⟩
     ·try simp only [tst_, grpE_iff] at h5
      refine GL.pureG (s := 42) rfl rfl rfl (p_fieldAddr fo_39_2 rfl) ?_; refine GL.stepG rfl (s := 42) rfl rfl (t_mem rfl (m_load (i := 0) rfl rfl ag_36 rfl)) ?_; refine GL.pureG (s := 42) rfl rfl rfl (p_makeFunc rfl rfl) ?_
      refine GL.stepG rfl (s := 42) rfl rfl (t_call rfl fn_147 rfl (is := [0]) (js := [0]) rfl rfl (by exact hcon_ct _ s _ _ _ _ _ _ _ s.pages _ (by omega))) (GL.ret ?_)
      rintro _ _ _ ⟨rfl, rfl, rfl⟩
      refine GL.pure rfl (p_pick_false rfl rfl) ?_; refine GL.nl_ ?_; refine GC.cond rfl (fun h6 => ?_) (fun h6 => ?_)
      ·try simp only [tst_, grpE_iff] at h6
       refine GC.sr_ ?_
       iterate 2 refine GL.as_ rfl rfl ?_
       refine GL.nl_ ?_; refine GC.ret ?_
       refine fun a w h => Fin.back (rs := [.tmp 2, .tmp 3]) (vs := [_, _]) (is := []) (js := []) rfl ⟨rfl, rfl, trivial⟩ rfl rfl ?_ h
       clear h
       first | exact ⟨_, congrArg (fun b => Value.tuple #[.pointer _, .bool b]) (decide_eq_false (fun H => by obtain ⟨⟨g1, g2⟩, g3, g4, g5, g6, g7⟩ := H; first | omega | contradiction | simp_all)).symm, rfl, rfl⟩ | exact ⟨_, congrArg (fun b => Value.tuple #[.pointer _, .bool b]) (decide_eq_true (⟨⟨by omega, by omega⟩, by assumption, (he27.1 (by assumption)).1, (he27.1 (by assumption)).2, he33.1 (by assumption), by simp_all⟩)).symm, rfl, rfl⟩
      ·try simp only [tst_, grpE_iff] at h6
       refine GC.skip (?_ : GC _ _ _ _)
       refine GC.seq' ?_; refine GC.regionC (m := 11) (is := [0]) (js := [0, 1, 2]) wide_ rfl rfl rfl ?_; refine GA.take 0 rfl (by kernel_rfl) (by kernel_rfl) (by kernel_rfl) rfl (fun a w h => h.mem (is := [0]) (js := [0, 1, 2]) rfl rfl) (i_pure (p_fieldAddr fo_39_0 rfl)) ?_
       refine GA.take 1 rfl (by kernel_rfl) (by kernel_rfl) (by kernel_rfl) rfl (fun a w h => h.mem (is := [0]) (js := [0, 1, 2]) rfl rfl) (i_mem (m_load (i := 0) rfl rfl ag_3 rfl)) ?_; refine GA.take 2 rfl (by kernel_rfl) (by kernel_rfl) (by kernel_rfl) rfl (fun a w h => h.mem (is := [0]) (js := [0, 1, 2]) rfl rfl) (i_pure (p_move rfl)) ?_
       refine GA.take 3 rfl (by kernel_rfl) (by kernel_rfl) (by kernel_rfl) rfl (fun a w h => h.mem (is := [0]) (js := [0, 1, 2]) rfl rfl) (i_pure (p_move rfl)) ?_; refine GA.take 4 rfl (by kernel_rfl) (by kernel_rfl) (by kernel_rfl) rfl (fun a w h => h.mem (is := [0]) (js := [0, 1, 2]) rfl rfl) (i_pure (p_fieldAddr fo_39_4 rfl)) ?_
       refine GA.take 5 rfl (by kernel_rfl) (by kernel_rfl) (by kernel_rfl) rfl (fun a w h => h.mem (is := [0]) (js := [0, 1, 2]) rfl rfl) (i_mem (m_loadN (i := 0) rfl rfl ag_33 (vs := [_, _]) sz_33 ⟨rfl, rfl, trivial⟩)) ?_
       refine GA.all (rs := [6]) (by kernel_rfl) (by simp) ?_
       refine GAs.cons (i := 6) rfl rfl (t_call rfl fn_149 rfl (is := []) (js := [2]) rfl rfl (by exact mown_ct s.grp.epoch _ s.grp.members _ (by omega))) (by rintro a w ⟨_, _, _, ⟨A54, cp54, rfl, rfl, rfl⟩, h⟩; exact h.mem (is := [0]) (js := [0, 1, 2]) rfl rfl) (GA.ret ?_) ?_
       ·rintro _ _ _ ⟨A54, cp54, rfl, rfl, rfl⟩
        refine GA.take 7 rfl (by kernel_rfl) (by kernel_rfl) (by kernel_rfl) rfl (fun a w h => h.mem (is := [0]) (js := [0, 1, 2]) rfl rfl) (i_pure (p_build ze_187 of_187 rfl rfl)) ?_; refine GA.all (rs := [8]) (by kernel_rfl) (by simp) ?_
        refine GAs.cons (i := 8) rfl rfl (t_box rfl rfl rfl) (by rintro a w ⟨_, h⟩; exact h.mem (is := [1]) (js := [0, 1, 2]) rfl rfl) (GA.ex fun b_t56 => ?_) ?_
        ·refine GA.take 9 rfl (by kernel_rfl) (by kernel_rfl) (by kernel_rfl) rfl (fun a w h => h.mem (is := [1]) (js := [0, 1, 2]) rfl rfl) (i_pure (p_assign rfl)) ?_; refine GA.take 10 rfl (by kernel_rfl) (by kernel_rfl) (by kernel_rfl) rfl (fun a w h => h.mem (is := [1]) (js := [0, 1, 2]) rfl rfl) (i_pure (p_assign rfl)) ?_
         refine GA.done (by kernel_rfl) (?_ : GC _ _ _ _)
         refine GC.ret ?_
         refine fun a w h => Fin.back (rs := [.tmp 2, .tmp 3]) (vs := [_, _]) (is := []) (js := []) rfl ⟨rfl, rfl, trivial⟩ rfl rfl ?_ h
         clear h
         first | exact ⟨_, congrArg (fun b => Value.tuple #[.pointer _, .bool b]) (decide_eq_false (fun H => by obtain ⟨⟨g1, g2⟩, g3, g4, g5, g6, g7⟩ := H; first | omega | contradiction | simp_all)).symm, rfl, rfl⟩ | exact ⟨_, congrArg (fun b => Value.tuple #[.pointer _, .bool b]) (decide_eq_true (⟨⟨by omega, by omega⟩, by assumption, (he27.1 (by assumption)).1, (he27.1 (by assumption)).2, he33.1 (by assumption), by simp_all⟩)).symm, rfl, rfl⟩
        exact GAs.nil
       exact GAs.nil
end Go.Proofs.YtdhdmbmknpjhbaaGreat
namespace Go.Proofs.YtdhdmbmknpjhbaaGreat
open Go Go.Sx Go.Proofs
theorem mload_ct (s : Stt) (A : Option Addr) (cp : Nat) (B : Option Addr) (cq : Nat) (C : Option Addr) (cr : Nat) (hs : SttLen s) : Ct Tryz.prog 109 [sttV s A cp B cq C cr] [] (sttQ s A B C) (fun u G Q => ∃ x, u = .tuple #[.pointer x, .int .i64 (if heldOk s then 0 else 72)] ∧ G = [] ∧ Q = []) := by
 refine Ct.intro Tryz.func109 rfl rfl rfl (fun c hc => ?_)
 refine GC.sr_ ?_; refine GL.step rfl (t_box rfl rfl rfl) (GL.ex fun b_t1 => ?_)
 iterate 2 refine GL.as_ rfl rfl ?_
 refine GL.nl_ ?_; refine GC.sr_ ?_; refine GL.step rfl (t_mem rfl (m_loadN (i := 0) rfl rfl ag_39 (vs := [_, _, _, _, _, _, _]) sz_39 ⟨rfl, rfl, rfl, rfl, rfl, rfl, rfl, trivial⟩)) ?_; refine GL.step rfl (t_call rfl fn_121 rfl (is := []) (js := [0, 1, 2]) rfl rfl (by exact held_ct s _ _ _ _ _ _ hs)) (GL.ret ?_)
 rintro _ _ _ ⟨x8, rfl, rfl, rfl⟩
 refine GL.mv_ rfl rfl ?_
 iterate 2 refine GL.pure rfl (p_extract rfl rfl) ?_
 iterate 2 refine GL.as_ rfl rfl ?_
 refine GL.nl_ ?_; refine GC.seq' ?_; refine GC.sr_ ?_; refine GL.mv_ rfl rfl ?_; refine GL.pure rfl (p_not rfl) ?_; refine GL.nl_ ?_; refine GC.cond rfl (fun h1 => ?_) (fun h1 => ?_)
 ·try simp only [tst_] at h1
  refine GC.sr_ ?_
  iterate 2 refine GL.as_ rfl rfl ?_
  refine GL.nl_ ?_; refine GC.ret ?_
  refine fun a w h => Fin.back (rs := [.tmp 2, .tmp 3]) (vs := [_, _]) (is := []) (js := []) rfl ⟨rfl, rfl, trivial⟩ rfl rfl ?_ h
  clear h
  first | (rw [if_pos (show heldOk s by assumption)]; exact ⟨_, rfl, rfl, rfl⟩) | (rw [if_neg (show ¬ heldOk s by assumption)]; exact ⟨_, rfl, rfl, rfl⟩)
 ·try simp only [tst_] at h1
  refine GC.skip (?_ : GC _ _ _ _)
  refine GC.sr_ ?_; refine GL.mv_ rfl rfl ?_
  iterate 2 refine GL.as_ rfl rfl ?_
  refine GL.nl_ ?_; refine GC.ret ?_
  refine fun a w h => Fin.back (rs := [.tmp 2, .tmp 3]) (vs := [_, _]) (is := []) (js := []) rfl ⟨rfl, rfl, trivial⟩ rfl rfl ?_ h
  clear h
  first | (rw [if_pos (show heldOk s by assumption)]; exact ⟨_, rfl, rfl, rfl⟩) | (rw [if_neg (show ¬ heldOk s by assumption)]; exact ⟨_, rfl, rfl, rfl⟩)
theorem lrow_nil : Ct Tryz.prog 110 [.slice none 0 0] [] [] (fun u G Q => u = .bool true ∧ G = [] ∧ Q = []) :=
  Ct.free (q := Pers.row kEntry none []) (Ct.mono (lrow_ct none [] 0 (by simp) (by simp)) fun u G Q h => ⟨h.1.trans (congrArg Value.bool (decide_eq_true (fun k hk => by simp at hk))), h.2⟩) (fun _ _ => .inl rfl)
theorem ldE_iff (s : Stt) : ((if heldOk s then (0 : Int) else 72) = 0) = heldOk s := by split <;> simp_all
theorem lchk_ct (s : Stt) (A : Option Addr) (cp : Nat) (B : Option Addr) (cq : Nat) (C : Option Addr) (cr : Nat) (hs : SttLen s) : Ct Tryz.prog 63 [.agg #[.int .i64 s.num, .int .i64 s.shp.bl, .int .i64 s.shp.sz, .slice A s.pages.length cp, .slice B s.rows.length cq, .int .i64 s.grp.epoch, .slice C s.grp.members.length cr, .slice none 0 0]] [] (sttQ s A B C) (fun u G Q => u = .int .i64 (if heldOk s then 0 else 150) ∧ G = [] ∧ Q = []) := by
 refine Ct.intro Tryz.func63 rfl rfl rfl (fun c hc => ?_)
 refine GC.sr_ ?_; refine GL.step rfl (t_box rfl rfl rfl) (GL.ex fun b_t1 => ?_); refine GL.as_ rfl rfl ?_; refine GL.nl_ ?_; refine GC.sr_ ?_; refine GL.pure rfl (p_fieldAddr fo_111_0 rfl) ?_; refine GL.step rfl (t_mem rfl (m_loadN (i := 0) rfl rfl ag_39 (vs := [_, _, _, _, _, _, _]) sz_39 ⟨rfl, rfl, rfl, rfl, rfl, rfl, rfl, trivial⟩)) ?_
 refine GL.step rfl (t_call rfl fn_109 rfl (is := []) (js := [0, 1, 2]) rfl rfl (by exact mload_ct s _ _ _ _ _ _ hs)) (GL.ret ?_)
 rintro _ _ _ ⟨x8, rfl, rfl, rfl⟩
 refine GL.mv_ rfl rfl ?_
 iterate 2 refine GL.pure rfl (p_extract rfl rfl) ?_
 iterate 2 refine GL.as_ rfl rfl ?_
 refine GL.nl_ ?_; refine GC.seq' ?_; refine GC.sr_ ?_; refine GL.mv_ rfl rfl ?_; refine GL.pure rfl (p_neq rfl rfl) ?_; refine GL.mv_ rfl rfl ?_; refine GL.split (i := 13) rfl (fun h1 => ?_) (fun h1 => ?_)
 ·try simp only [tst_, ldE_iff] at h1
  iterate 4 refine GL.pass (s := 13) rfl rfl rfl ?_
  refine GL.pure rfl (p_pick_true rfl rfl) ?_; refine GL.mv_ rfl rfl ?_
  iterate 7 refine GL.pass (s := 19) rfl rfl rfl ?_
  refine GL.pure rfl (p_pick_true rfl rfl) ?_; refine GL.nl_ ?_; refine GC.cond_true rfl ?_; refine GC.sr_ ?_; refine GL.as_ rfl rfl ?_; refine GL.nl_ ?_; refine GC.ret ?_
  refine fun a w h => Fin.back (rs := [.tmp 2]) (vs := [_]) (is := []) (js := []) rfl ⟨rfl, trivial⟩ rfl rfl ?_ h
  clear h
  first | exact ⟨by rw [if_pos (show heldOk s by assumption)]; rfl, rfl, rfl⟩ | exact ⟨by rw [if_neg (show ¬ heldOk s by assumption)]; rfl, rfl, rfl⟩
 ·try simp only [tst_, ldE_iff] at h1
  refine GL.pureG (s := 13) rfl rfl rfl (p_fieldAddr fo_111_1 rfl) ?_; refine GL.stepG rfl (s := 13) rfl rfl (t_mem rfl (m_load (i := 0) rfl rfl ag_40 rfl)) ?_; refine GL.stepG rfl (s := 13) rfl rfl (t_call rfl fn_110 rfl (is := []) (js := []) rfl rfl (by exact lrow_nil)) (GL.ret ?_)
  rintro _ _ _ ⟨rfl, rfl, rfl⟩
  refine GL.pureG (s := 13) rfl rfl rfl (p_not rfl) ?_; refine GL.pure rfl (p_pick_false rfl rfl) ?_; refine GL.mv_ rfl rfl ?_; refine GL.pureG (s := 19) rfl rfl rfl (p_fieldAddr fo_111_0 rfl) ?_; refine GL.pureG (s := 19) rfl rfl rfl (p_fieldAddr fo_39_0 rfl) ?_
  refine GL.stepG rfl (s := 19) rfl rfl (t_mem rfl (m_load (i := 0) rfl rfl ag_3 rfl)) ?_; refine GL.pureG (s := 19) rfl rfl rfl (p_fieldAddr fo_111_1 rfl) ?_; refine GL.stepG rfl (s := 19) rfl rfl (t_mem rfl (m_load (i := 0) rfl rfl ag_40 rfl)) ?_
  refine GL.stepG rfl (s := 19) rfl rfl (t_call rfl fn_111 rfl (is := []) (js := []) rfl rfl (by exact joins_nil _ _ _)) (GL.ret ?_)
  rintro _ _ _ ⟨rfl, rfl, rfl⟩
  refine GL.pureG (s := 19) rfl rfl rfl (p_not rfl) ?_; refine GL.pure rfl (p_pick_false rfl rfl) ?_; refine GL.nl_ ?_; refine GC.cond_false rfl ?_
  refine GC.skip (?_ : GC _ _ _ _)
  refine GC.sr_ ?_; refine GL.as_ rfl rfl ?_; refine GL.nl_ ?_; refine GC.ret ?_
  refine fun a w h => Fin.back (rs := [.tmp 2]) (vs := [_]) (is := []) (js := []) rfl ⟨rfl, trivial⟩ rfl rfl ?_ h
  clear h
  first | exact ⟨by rw [if_pos (show heldOk s by assumption)]; rfl, rfl, rfl⟩ | exact ⟨by rw [if_neg (show ¬ heldOk s by assumption)]; rfl, rfl, rfl⟩
theorem lcE_iff (s : Stt) : ((if heldOk s then (0 : Int) else 150) = 0) = heldOk s := by split <;> simp_all
def pbit (a b c d : Bool) : Int := (if a = true then 1 else 0) + (if b = true then 2 else 0) + (if c = true then 4 else 0) + (if d = true then 8 else 0)
theorem or_b1 : IntKind.u8.wrap ((BitVec.ofInt IntKind.u8.bits 0 ||| BitVec.ofInt IntKind.u8.bits 1).toNat : Int) = pbit true false false false := by decide
theorem or_b2 (a : Bool) : IntKind.u8.wrap ((BitVec.ofInt IntKind.u8.bits (pbit a false false false) ||| BitVec.ofInt IntKind.u8.bits 2).toNat : Int) = pbit a true false false := by cases a <;> decide
theorem or_b4 (a b : Bool) : IntKind.u8.wrap ((BitVec.ofInt IntKind.u8.bits (pbit a b false false) ||| BitVec.ofInt IntKind.u8.bits 4).toNat : Int) = pbit a b true false := by cases a <;> cases b <;> decide
theorem or_b8 (a b c : Bool) : IntKind.u8.wrap ((BitVec.ofInt IntKind.u8.bits (pbit a b c false) ||| BitVec.ofInt IntKind.u8.bits 8).toNat : Int) = pbit a b c true := by cases a <;> cases b <;> cases c <;> decide
def bi (a : Bool) (n : Int) : Int := if a = true then n else 0
theorem bi_iff (a : Bool) (n : Int) (h : n ≠ 0) : (bi a n = 0) = (a = false) := by cases a <;> simp [bi, h]
theorem bi1 (a : Bool) : (bi a 1 = 0) = (a = false) := bi_iff a 1 (by decide)
theorem bi2 (a : Bool) : (bi a 2 = 0) = (a = false) := bi_iff a 2 (by decide)
theorem bi4 (a : Bool) : (bi a 4 = 0) = (a = false) := bi_iff a 4 (by decide)
theorem bi8 (a : Bool) : (bi a 8 = 0) = (a = false) := bi_iff a 8 (by decide)
theorem and_b1 (a b c d : Bool) : IntKind.u8.wrap ((BitVec.ofInt IntKind.u8.bits (pbit a b c d) &&& BitVec.ofInt IntKind.u8.bits 1).toNat : Int) = bi a 1 := by revert a b c d; decide
theorem and_b2 (a b c d : Bool) : IntKind.u8.wrap ((BitVec.ofInt IntKind.u8.bits (pbit a b c d) &&& BitVec.ofInt IntKind.u8.bits 2).toNat : Int) = bi b 2 := by revert a b c d; decide
theorem and_b4 (a b c d : Bool) : IntKind.u8.wrap ((BitVec.ofInt IntKind.u8.bits (pbit a b c d) &&& BitVec.ofInt IntKind.u8.bits 4).toNat : Int) = bi c 4 := by revert a b c d; decide
theorem and_b8 (a b c d : Bool) : IntKind.u8.wrap ((BitVec.ofInt IntKind.u8.bits (pbit a b c d) &&& BitVec.ofInt IntKind.u8.bits 8).toNat : Int) = bi d 8 := by revert a b c d; decide
def partsN (m : Msg) : Int := pbit (decide (¬ m.op = zop)) (decide (¬ m.res = rz)) (decide (¬ m.grp = zgr)) (decide (¬ m.stt = zst))
theorem rz_iff (r : Res) : (r = rz) ↔ (r.code = 0 ∧ (r.data.length : Int) ≤ 0) := by
  rw [rs_ext]; simp only [rz]
  constructor
  · rintro ⟨h1, h2⟩; rw [h2]; exact ⟨h1, by simp⟩
  · rintro ⟨h1, h2⟩; exact ⟨h1, List.length_eq_zero_iff.1 (by omega)⟩
theorem zgr_iff (r : Grp) : (r = zgr) ↔ (r.epoch = 0 ∧ (r.members.length : Int) ≤ 0) := by
  rw [gr_ext]; simp only [zgr]
  constructor
  · rintro ⟨h1, h2⟩; rw [h2]; exact ⟨h1, by simp⟩
  · rintro ⟨h1, h2⟩; exact ⟨h1, List.length_eq_zero_iff.1 (by omega)⟩
theorem parts_ct (m : Msg) (s : Lie) (hm : MsgLen m) : Ct Tryz.prog 59 [msgV m s] [] (msgQ m s) (fun u G Q => u = .int .u8 (partsN m) ∧ G = [] ∧ Q = []) := by
 refine Ct.intro Tryz.func59 rfl rfl rfl (fun c hc => ?_)
 refine GC.sr_ ?_; refine GL.step rfl (t_box rfl rfl rfl) (GL.ex fun b_t1 => ?_); refine GL.as_ rfl rfl ?_; refine GL.nl_ ?_; refine GC.sr_ ?_; refine GL.as_ rfl rfl ?_; refine GL.nl_ ?_; refine GC.joinK1 (ks := [1, 2]) (is := [0]) (js := [0, 1, 2, 3, 4, 5, 6, 7]) (fun (u_ : Unit) => True) (fun (u_ : Unit) => [(3, .int .u8 (pbit (decide (¬ m.op = zop)) false false false))]) (fun (u_ : Unit) => []) (fun (u_ : Unit) => []) rfl rfl rfl ?_ ?_
 ·refine GC.sr_ ?_; refine GL.pure rfl (p_fieldAddr fo_42_11 rfl) ?_; refine GL.step rfl (t_mem rfl (m_loadN (i := 0) rfl rfl ag_27 (vs := [_, _, _, _, _]) sz_27 ⟨rfl, rfl, rfl, rfl, rfl, trivial⟩)) ?_; refine GL.pure rfl (p_build ze_27 of_27 rfl rfl) ?_
  refine GL.step rfl (t_call rfl fn_37 rfl (is := []) (js := [0, 1]) rfl rfl (by exact bzero_ct m.op _ _ _ _)) (GL.ret ?_)
  rintro _ _ _ ⟨rfl, rfl, rfl⟩
  refine GL.pure rfl (p_not rfl) ?_; refine GL.nl_ ?_; refine GC.cond rfl (fun h1 => ?_) (fun h1 => ?_)
  ·try simp only [tst_] at h1
   refine GC.region ?_; refine GL.mv_ rfl rfl ?_; refine GL.pure rfl (p_orR rfl rfl or_b1) ?_; refine GL.as_ rfl rfl ?_; refine GL.nil ?_
   exact fun a w h => ⟨(()), trivial, by rw [decide_eq_true (show ¬ m.op = zop by simp_all)]; exact h.cut (is := [0]) (js := [0, 1, 2, 3, 4, 5, 6, 7]) ⟨rfl, rfl, rfl, trivial⟩ rfl rfl⟩
  ·try simp only [tst_] at h1
   refine GC.skip ?_
   exact fun a w h => ⟨(()), trivial, by rw [decide_eq_false (show ¬ ¬ m.op = zop by simp_all)]; exact h.cut (is := [0]) (js := [0, 1, 2, 3, 4, 5, 6, 7]) ⟨rfl, rfl, rfl, trivial⟩ rfl rfl⟩
 ·intro u_ hj2
  try dsimp only [List.cons_append, List.nil_append] at hj2 ⊢
  refine GC.joinK1 (ks := [1, 2]) (is := [0]) (js := [0, 1, 2, 3, 4, 5, 6, 7]) (fun (u_ : Unit) => True) (fun (u_ : Unit) => [(3, .int .u8 (pbit (decide (¬ m.op = zop)) (decide (¬ m.res = rz)) false false))]) (fun (u_ : Unit) => []) (fun (u_ : Unit) => []) rfl rfl rfl ?_ ?_
  ·refine GC.sr_ ?_; refine GL.pure rfl (p_fieldAddr fo_42_12 rfl) ?_; refine GL.pure rfl (p_fieldAddr fo_30_0 rfl) ?_; refine GL.step rfl (t_mem rfl (m_load (i := 0) rfl rfl ag_28 rfl)) ?_; refine GL.pure rfl (p_neq rfl rfl) ?_
   refine GL.mv_ rfl rfl ?_; refine GL.split (i := 15) rfl (fun h2 => ?_) (fun h2 => ?_)
   ·try simp only [tst_] at h2
    iterate 5 refine GL.pass (s := 15) rfl rfl rfl ?_
    refine GL.pure rfl (p_pick_true rfl rfl) ?_; refine GL.nl_ ?_; refine GC.cond_true rfl ?_; refine GC.region ?_; refine GL.mv_ rfl rfl ?_; refine GL.pure rfl (p_orR rfl rfl (or_b2 _)) ?_; refine GL.as_ rfl rfl ?_; refine GL.nil ?_
    exact fun a w h => ⟨(()), trivial, by rw [decide_eq_true (show ¬ m.res = rz by rw [rz_iff]; omega)]; exact h.cut (is := [0]) (js := [0, 1, 2, 3, 4, 5, 6, 7]) ⟨rfl, rfl, rfl, trivial⟩ rfl rfl⟩
   ·try simp only [tst_] at h2
    refine GL.pureG (s := 15) rfl rfl rfl (p_fieldAddr fo_42_12 rfl) ?_; refine GL.pureG (s := 15) rfl rfl rfl (p_fieldAddr fo_30_1 rfl) ?_; refine GL.stepG rfl (s := 15) rfl rfl (t_mem rfl (m_load (i := 0) rfl rfl ag_25 rfl)) ?_
    refine GL.pureG (s := 15) rfl rfl rfl (p_len Tryz.underlying25 rfl) ?_; refine GL.pureG (s := 15) rfl rfl rfl (p_gtr rfl rfl) ?_; refine GL.pure rfl (p_pick_false rfl rfl) ?_; refine GL.nl_ ?_; refine GC.cond rfl (fun h3 => ?_) (fun h3 => ?_)
    ·try simp only [tst_] at h3
     refine GC.region ?_; refine GL.mv_ rfl rfl ?_; refine GL.pure rfl (p_orR rfl rfl (or_b2 _)) ?_; refine GL.as_ rfl rfl ?_; refine GL.nil ?_
     exact fun a w h => ⟨(()), trivial, by rw [decide_eq_true (show ¬ m.res = rz by rw [rz_iff]; omega)]; exact h.cut (is := [0]) (js := [0, 1, 2, 3, 4, 5, 6, 7]) ⟨rfl, rfl, rfl, trivial⟩ rfl rfl⟩
    ·try simp only [tst_] at h3
     refine GC.skip ?_
     exact fun a w h => ⟨(()), trivial, by rw [decide_eq_false (show ¬ ¬ m.res = rz by rw [rz_iff]; omega)]; exact h.cut (is := [0]) (js := [0, 1, 2, 3, 4, 5, 6, 7]) ⟨rfl, rfl, rfl, trivial⟩ rfl rfl⟩
  ·intro u_ hj4
   try dsimp only [List.cons_append, List.nil_append] at hj4 ⊢
   refine GC.joinK1 (ks := [1, 2]) (is := [0]) (js := [0, 1, 2, 3, 4, 5, 6, 7]) (fun (u_ : Unit) => True) (fun (u_ : Unit) => [(3, .int .u8 (pbit (decide (¬ m.op = zop)) (decide (¬ m.res = rz)) (decide (¬ m.grp = zgr)) false))]) (fun (u_ : Unit) => []) (fun (u_ : Unit) => []) rfl rfl rfl ?_ ?_
   ·refine GC.sr_ ?_; refine GL.pure rfl (p_fieldAddr fo_42_13 rfl) ?_; refine GL.pure rfl (p_fieldAddr fo_33_0 rfl) ?_; refine GL.step rfl (t_mem rfl (m_load (i := 0) rfl rfl ag_3 rfl)) ?_; refine GL.pure rfl (p_neq rfl rfl) ?_
    refine GL.mv_ rfl rfl ?_; refine GL.split (i := 28) rfl (fun h4 => ?_) (fun h4 => ?_)
    ·try simp only [tst_] at h4
     iterate 5 refine GL.pass (s := 28) rfl rfl rfl ?_
     refine GL.pure rfl (p_pick_true rfl rfl) ?_; refine GL.nl_ ?_; refine GC.cond_true rfl ?_; refine GC.region ?_; refine GL.mv_ rfl rfl ?_; refine GL.pure rfl (p_orR rfl rfl (or_b4 _ _)) ?_; refine GL.as_ rfl rfl ?_; refine GL.nil ?_
     exact fun a w h => ⟨(()), trivial, by rw [decide_eq_true (show ¬ m.grp = zgr by rw [zgr_iff]; omega)]; exact h.cut (is := [0]) (js := [0, 1, 2, 3, 4, 5, 6, 7]) ⟨rfl, rfl, rfl, trivial⟩ rfl rfl⟩
    ·try simp only [tst_] at h4
     refine GL.pureG (s := 28) rfl rfl rfl (p_fieldAddr fo_42_13 rfl) ?_; refine GL.pureG (s := 28) rfl rfl rfl (p_fieldAddr fo_33_1 rfl) ?_; refine GL.stepG rfl (s := 28) rfl rfl (t_mem rfl (m_load (i := 0) rfl rfl ag_31 rfl)) ?_
     refine GL.pureG (s := 28) rfl rfl rfl (p_len Tryz.underlying31 rfl) ?_; refine GL.pureG (s := 28) rfl rfl rfl (p_gtr rfl rfl) ?_; refine GL.pure rfl (p_pick_false rfl rfl) ?_; refine GL.nl_ ?_; refine GC.cond rfl (fun h5 => ?_) (fun h5 => ?_)
     ·try simp only [tst_] at h5
      refine GC.region ?_; refine GL.mv_ rfl rfl ?_; refine GL.pure rfl (p_orR rfl rfl (or_b4 _ _)) ?_; refine GL.as_ rfl rfl ?_; refine GL.nil ?_
      exact fun a w h => ⟨(()), trivial, by rw [decide_eq_true (show ¬ m.grp = zgr by rw [zgr_iff]; omega)]; exact h.cut (is := [0]) (js := [0, 1, 2, 3, 4, 5, 6, 7]) ⟨rfl, rfl, rfl, trivial⟩ rfl rfl⟩
     ·try simp only [tst_] at h5
      refine GC.skip ?_
      exact fun a w h => ⟨(()), trivial, by rw [decide_eq_false (show ¬ ¬ m.grp = zgr by rw [zgr_iff]; omega)]; exact h.cut (is := [0]) (js := [0, 1, 2, 3, 4, 5, 6, 7]) ⟨rfl, rfl, rfl, trivial⟩ rfl rfl⟩
   ·intro u_ hj6
    try dsimp only [List.cons_append, List.nil_append] at hj6 ⊢
    refine GC.joinK1 (ks := [2]) (is := [0]) (js := [0, 1, 2, 3, 4, 5, 6, 7]) (fun (u_ : Unit) => True) (fun (u_ : Unit) => [(3, .int .u8 (partsN m))]) (fun (u_ : Unit) => []) (fun (u_ : Unit) => []) rfl rfl rfl ?_ ?_
    ·refine GC.sr_ ?_; refine GL.pure rfl (p_fieldAddr fo_42_14 rfl) ?_; refine GL.step rfl (t_mem rfl (m_loadN (i := 0) rfl rfl ag_39 (vs := [_, _, _, _, _, _, _]) sz_39 ⟨rfl, rfl, rfl, rfl, rfl, rfl, rfl, trivial⟩)) ?_
     refine GL.pure rfl (p_build ze_39 of_39 rfl rfl) ?_; refine GL.step rfl (t_call rfl fn_38 rfl (is := []) (js := [4, 5, 6]) rfl rfl (by exact mzst_ct m.stt _ _ _ _ _ _ (by have := hm.s.p; omega) (by have := hm.s.r; omega) (by have := hm.s.m; omega))) (GL.ret ?_)
     rintro _ _ _ ⟨rfl, rfl, rfl⟩
     refine GL.pure rfl (p_not rfl) ?_; refine GL.nl_ ?_; refine GC.cond rfl (fun h6 => ?_) (fun h6 => ?_)
     ·try simp only [tst_] at h6
      refine GC.region ?_; refine GL.mv_ rfl rfl ?_; refine GL.pure rfl (p_orR rfl rfl (or_b8 _ _ _)) ?_; refine GL.as_ rfl rfl ?_; refine GL.nil ?_
      exact fun a w h => ⟨(()), trivial, by rw [partsN, decide_eq_true (show ¬ m.stt = zst by simp_all)]; exact h.cut (is := [0]) (js := [0, 1, 2, 3, 4, 5, 6, 7]) ⟨rfl, rfl, trivial⟩ rfl rfl⟩
     ·try simp only [tst_] at h6
      refine GC.skip ?_
      exact fun a w h => ⟨(()), trivial, by rw [partsN, decide_eq_false (show ¬ ¬ m.stt = zst by simp_all)]; exact h.cut (is := [0]) (js := [0, 1, 2, 3, 4, 5, 6, 7]) ⟨rfl, rfl, trivial⟩ rfl rfl⟩
    ·intro u_ hj8
     try dsimp only [List.cons_append, List.nil_append] at hj8 ⊢
     refine GC.sr_ ?_; refine GL.mv_ rfl rfl ?_; refine GL.as_ rfl rfl ?_; refine GL.nl_ ?_; refine GC.ret ?_
     refine fun a w h => Fin.back (rs := [.tmp 2]) (vs := [_]) (is := []) (js := []) rfl ⟨rfl, trivial⟩ rfl rfl ?_ h
     clear h
     exact ⟨rfl, rfl, rfl⟩
def pOp (m : Msg) : Prop := m.op = zop ∨ formD m.op
def pRes (m : Msg) : Prop := m.res = rz ∨ resOk m.res.code m.res.data.length = true
def pGrp (m : Msg) : Prop := m.grp = zgr ∨ groupOk m.grp.epoch m.grp.members = true
def pStt (m : Msg) : Prop := m.stt = zst ∨ heldOk m.stt
theorem wright_ct (m : Msg) (s : Lie) (hm : MsgLen m) : Ct Tryz.prog 24 [msgV m s] [] (msgQ m s) (fun u G Q => u = .bool (decide (partsOk m ∧ rowOkE m.log)) ∧ G = [] ∧ Q = []) := by
 refine Ct.intro Tryz.func24 rfl rfl rfl (fun c hc => ?_)
 refine GC.sr_ ?_; refine GL.step rfl (t_box rfl rfl rfl) (GL.ex fun b_t1 => ?_); refine GL.as_ rfl rfl ?_; refine GL.nl_ ?_; refine GC.sr_ ?_; refine GL.step rfl (t_mem rfl (m_loadN (i := 0) rfl rfl ag_42 (vs := [_, _, _, _, _, _, _, _, _, _, _, _, _, _, _, _, _, _, _, _, _, _, _, _, _, _, _, _]) sz_42 ⟨rfl, rfl, rfl, rfl, rfl, rfl, rfl, rfl, rfl, rfl, rfl, rfl, rfl, rfl, rfl, rfl, rfl, rfl, rfl, rfl, rfl, rfl, rfl, rfl, rfl, rfl, rfl, rfl, trivial⟩)) ?_
 refine GL.step rfl (t_call rfl fn_59 rfl (is := []) (js := [0, 1, 2, 3, 4, 5, 6, 7]) rfl rfl (by exact parts_ct m s hm)) (GL.ret ?_)
 rintro _ _ _ ⟨rfl, rfl, rfl⟩
 refine GL.as_ rfl rfl ?_; refine GL.nl_ ?_; refine GC.joinK1 (ks := [1, 3]) (is := [0]) (js := [0, 1, 2, 3, 4, 5, 6, 7]) (fun (u_ : Unit) => pOp m ∧ pRes m ∧ pGrp m) (fun (u_ : Unit) => []) (fun (u_ : Unit) => []) (fun (u_ : Unit) => []) rfl rfl rfl ?_ ?_
 ·refine GC.sr_ ?_; refine GL.mv_ rfl rfl ?_; refine GL.pure rfl (p_andR rfl rfl (and_b1 _ _ _ _)) ?_; refine GL.pure rfl (p_neq rfl rfl) ?_; refine GL.mv_ rfl rfl ?_; refine GL.split (i := 9) rfl (fun h1 => ?_) (fun h1 => ?_)
  ·try simp only [tst_, bi1, bi2, bi4, bi8, formE_iff, resE_iff, grpE_iff, lcE_iff] at h1
   refine GL.pureG (s := 9) rfl rfl rfl (p_fieldAddr fo_42_11 rfl) ?_; refine GL.stepG rfl (s := 9) rfl rfl (t_mem rfl (m_loadN (i := 0) rfl rfl ag_27 (vs := [_, _, _, _, _]) sz_27 ⟨rfl, rfl, rfl, rfl, rfl, trivial⟩)) ?_
   refine GL.stepG rfl (s := 9) rfl rfl (t_call rfl fn_60 rfl (is := []) (js := []) rfl rfl (by exact form_ct m.op.kind m.op.at_ m.op.n _ m.op.data.length _ _ m.op.old.length _)) (GL.ret ?_)
   rintro _ _ _ ⟨rfl, rfl, rfl⟩
   refine GL.pureG (s := 9) rfl rfl rfl (p_neq rfl rfl) ?_; refine GL.pure rfl (p_pick_true rfl rfl) ?_; refine GL.mv_ rfl rfl ?_; refine GL.split (i := 15) rfl (fun h2 => ?_) (fun h2 => ?_)
   ·try simp only [tst_, bi1, bi2, bi4, bi8, formE_iff, resE_iff, grpE_iff, lcE_iff] at h2
    iterate 4 refine GL.pass (s := 15) rfl rfl rfl ?_
    iterate 4 refine GL.passU (s := 19) rfl rfl rfl ?_
    refine GL.pass (s := 15) rfl rfl rfl ?_; refine GL.pure rfl (p_pick_true rfl rfl) ?_; refine GL.mv_ rfl rfl ?_
    iterate 4 refine GL.pass (s := 26) rfl rfl rfl ?_
    iterate 4 refine GL.passU (s := 30) rfl rfl rfl ?_
    refine GL.pass (s := 26) rfl rfl rfl ?_; refine GL.pure rfl (p_pick_true rfl rfl) ?_; refine GL.nl_ ?_; refine GC.cond_true rfl ?_; refine GC.sr_ ?_; refine GL.as_ rfl rfl ?_; refine GL.nl_ ?_; refine GC.ret ?_
    refine fun a w h => Fin.back (rs := [.tmp 2]) (vs := [_]) (is := []) (js := []) rfl ⟨rfl, trivial⟩ rfl rfl ?_ h
    clear h
    exact ⟨congrArg Value.bool (decide_eq_false fun H => by obtain ⟨⟨g1, g2, g3, g4⟩, _⟩ := H; simp only [formD] at g1; simp_all).symm, rfl, rfl⟩
   ·try simp only [tst_, bi1, bi2, bi4, bi8, formE_iff, resE_iff, grpE_iff, lcE_iff] at h2
    refine GL.pureG (s := 15) rfl rfl rfl (p_move rfl) ?_; refine GL.pureG (s := 15) rfl rfl rfl (p_andR rfl rfl (and_b2 _ _ _ _)) ?_; refine GL.pureG (s := 15) rfl rfl rfl (p_neq rfl rfl) ?_; refine GL.pureG (s := 15) rfl rfl rfl (p_move rfl) ?_
    refine GL.split (i := 19) rfl (fun h3 => ?_) (fun h3 => ?_)
    ·try simp only [tst_, bi1, bi2, bi4, bi8, formE_iff, resE_iff, grpE_iff, lcE_iff] at h3
     refine GL.pureG (s := 19) rfl rfl rfl (p_fieldAddr fo_42_12 rfl) ?_; refine GL.stepG rfl (s := 19) rfl rfl (t_mem rfl (m_loadN (i := 0) rfl rfl ag_30 (vs := [_, _]) sz_30 ⟨rfl, rfl, trivial⟩)) ?_; refine GL.stepG rfl (s := 19) rfl rfl (t_call rfl fn_61 rfl (is := []) (js := []) rfl rfl (by exact bres_ct m.res.code _ m.res.data.length _)) (GL.ret ?_)
     rintro _ _ _ ⟨rfl, rfl, rfl⟩
     refine GL.pureG (s := 19) rfl rfl rfl (p_neq rfl rfl) ?_; refine GL.pureG (s := 15) rfl rfl rfl (p_pick_true rfl rfl) ?_; refine GL.pure rfl (p_pick_false rfl rfl) ?_; refine GL.mv_ rfl rfl ?_; refine GL.split (i := 26) rfl (fun h4 => ?_) (fun h4 => ?_)
     ·try simp only [tst_, bi1, bi2, bi4, bi8, formE_iff, resE_iff, grpE_iff, lcE_iff] at h4
      iterate 4 refine GL.pass (s := 26) rfl rfl rfl ?_
      iterate 4 refine GL.passU (s := 30) rfl rfl rfl ?_
      refine GL.pass (s := 26) rfl rfl rfl ?_; refine GL.pure rfl (p_pick_true rfl rfl) ?_; refine GL.nl_ ?_; refine GC.cond_true rfl ?_; refine GC.sr_ ?_; refine GL.as_ rfl rfl ?_; refine GL.nl_ ?_; refine GC.ret ?_
      refine fun a w h => Fin.back (rs := [.tmp 2]) (vs := [_]) (is := []) (js := []) rfl ⟨rfl, trivial⟩ rfl rfl ?_ h
      clear h
      exact ⟨congrArg Value.bool (decide_eq_false fun H => by obtain ⟨⟨g1, g2, g3, g4⟩, _⟩ := H; simp only [formD] at g1; simp_all).symm, rfl, rfl⟩
     ·try simp only [tst_, bi1, bi2, bi4, bi8, formE_iff, resE_iff, grpE_iff, lcE_iff] at h4
      refine GL.pureG (s := 26) rfl rfl rfl (p_move rfl) ?_; refine GL.pureG (s := 26) rfl rfl rfl (p_andR rfl rfl (and_b4 _ _ _ _)) ?_; refine GL.pureG (s := 26) rfl rfl rfl (p_neq rfl rfl) ?_; refine GL.pureG (s := 26) rfl rfl rfl (p_move rfl) ?_
      refine GL.split (i := 30) rfl (fun h5 => ?_) (fun h5 => ?_)
      ·try simp only [tst_, bi1, bi2, bi4, bi8, formE_iff, resE_iff, grpE_iff, lcE_iff] at h5
       refine GL.pureG (s := 30) rfl rfl rfl (p_fieldAddr fo_42_13 rfl) ?_; refine GL.stepG rfl (s := 30) rfl rfl (t_mem rfl (m_loadN (i := 0) rfl rfl ag_33 (vs := [_, _]) sz_33 ⟨rfl, rfl, trivial⟩)) ?_; refine GL.stepG rfl (s := 30) rfl rfl (t_call rfl fn_62 rfl (is := []) (js := [3]) rfl rfl (by exact mgroup_ct m.grp.epoch _ m.grp.members _ (by have := hm.g; omega))) (GL.ret ?_)
       rintro _ _ _ ⟨rfl, rfl, rfl⟩
       refine GL.pureG (s := 30) rfl rfl rfl (p_neq rfl rfl) ?_; refine GL.pureG (s := 26) rfl rfl rfl (p_pick_true rfl rfl) ?_; refine GL.pure rfl (p_pick_false rfl rfl) ?_; refine GL.nl_ ?_; refine GC.cond rfl (fun h6 => ?_) (fun h6 => ?_)
       ·try simp only [tst_, bi1, bi2, bi4, bi8, formE_iff, resE_iff, grpE_iff, lcE_iff] at h6
        refine GC.sr_ ?_; refine GL.as_ rfl rfl ?_; refine GL.nl_ ?_; refine GC.ret ?_
        refine fun a w h => Fin.back (rs := [.tmp 2]) (vs := [_]) (is := []) (js := []) rfl ⟨rfl, trivial⟩ rfl rfl ?_ h
        clear h
        exact ⟨congrArg Value.bool (decide_eq_false fun H => by obtain ⟨⟨g1, g2, g3, g4⟩, _⟩ := H; simp only [formD] at g1; simp_all).symm, rfl, rfl⟩
       ·try simp only [tst_, bi1, bi2, bi4, bi8, formE_iff, resE_iff, grpE_iff, lcE_iff] at h6
        refine GC.skip ?_
        exact fun a w h => ⟨(()), (by simp only [pOp, pRes, pGrp, formD]; simp_all), h.cut (is := [0]) (js := [0, 1, 2, 3, 4, 5, 6, 7]) ⟨rfl, rfl, trivial⟩ rfl rfl⟩
      ·try simp only [tst_, bi1, bi2, bi4, bi8, formE_iff, resE_iff, grpE_iff, lcE_iff] at h5
       iterate 4 refine GL.pass (s := 30) rfl rfl rfl ?_
       refine GL.pureG (s := 26) rfl rfl rfl (p_pick_false rfl rfl) ?_; refine GL.pure rfl (p_pick_false rfl rfl) ?_; refine GL.nl_ ?_; refine GC.cond_false rfl ?_; refine GC.skip ?_
       exact fun a w h => ⟨(()), (by simp only [pOp, pRes, pGrp, formD]; simp_all), h.cut (is := [0]) (js := [0, 1, 2, 3, 4, 5, 6, 7]) ⟨rfl, rfl, trivial⟩ rfl rfl⟩
    ·try simp only [tst_, bi1, bi2, bi4, bi8, formE_iff, resE_iff, grpE_iff, lcE_iff] at h3
     iterate 4 refine GL.pass (s := 19) rfl rfl rfl ?_
     refine GL.pureG (s := 15) rfl rfl rfl (p_pick_false rfl rfl) ?_; refine GL.pure rfl (p_pick_false rfl rfl) ?_; refine GL.mv_ rfl rfl ?_; refine GL.pureG (s := 26) rfl rfl rfl (p_move rfl) ?_; refine GL.pureG (s := 26) rfl rfl rfl (p_andR rfl rfl (and_b4 _ _ _ _)) ?_
     refine GL.pureG (s := 26) rfl rfl rfl (p_neq rfl rfl) ?_; refine GL.pureG (s := 26) rfl rfl rfl (p_move rfl) ?_; refine GL.split (i := 30) rfl (fun h7 => ?_) (fun h7 => ?_)
     ·try simp only [tst_, bi1, bi2, bi4, bi8, formE_iff, resE_iff, grpE_iff, lcE_iff] at h7
      refine GL.pureG (s := 30) rfl rfl rfl (p_fieldAddr fo_42_13 rfl) ?_; refine GL.stepG rfl (s := 30) rfl rfl (t_mem rfl (m_loadN (i := 0) rfl rfl ag_33 (vs := [_, _]) sz_33 ⟨rfl, rfl, trivial⟩)) ?_; refine GL.stepG rfl (s := 30) rfl rfl (t_call rfl fn_62 rfl (is := []) (js := [3]) rfl rfl (by exact mgroup_ct m.grp.epoch _ m.grp.members _ (by have := hm.g; omega))) (GL.ret ?_)
      rintro _ _ _ ⟨rfl, rfl, rfl⟩
      refine GL.pureG (s := 30) rfl rfl rfl (p_neq rfl rfl) ?_; refine GL.pureG (s := 26) rfl rfl rfl (p_pick_true rfl rfl) ?_; refine GL.pure rfl (p_pick_false rfl rfl) ?_; refine GL.nl_ ?_; refine GC.cond rfl (fun h8 => ?_) (fun h8 => ?_)
      ·try simp only [tst_, bi1, bi2, bi4, bi8, formE_iff, resE_iff, grpE_iff, lcE_iff] at h8
       refine GC.sr_ ?_; refine GL.as_ rfl rfl ?_; refine GL.nl_ ?_; refine GC.ret ?_
       refine fun a w h => Fin.back (rs := [.tmp 2]) (vs := [_]) (is := []) (js := []) rfl ⟨rfl, trivial⟩ rfl rfl ?_ h
       clear h
       exact ⟨congrArg Value.bool (decide_eq_false fun H => by obtain ⟨⟨g1, g2, g3, g4⟩, _⟩ := H; simp only [formD] at g1; simp_all).symm, rfl, rfl⟩
      ·try simp only [tst_, bi1, bi2, bi4, bi8, formE_iff, resE_iff, grpE_iff, lcE_iff] at h8
       refine GC.skip ?_
       exact fun a w h => ⟨(()), (by simp only [pOp, pRes, pGrp, formD]; simp_all), h.cut (is := [0]) (js := [0, 1, 2, 3, 4, 5, 6, 7]) ⟨rfl, rfl, trivial⟩ rfl rfl⟩
     ·try simp only [tst_, bi1, bi2, bi4, bi8, formE_iff, resE_iff, grpE_iff, lcE_iff] at h7
      iterate 4 refine GL.pass (s := 30) rfl rfl rfl ?_
      refine GL.pureG (s := 26) rfl rfl rfl (p_pick_false rfl rfl) ?_; refine GL.pure rfl (p_pick_false rfl rfl) ?_; refine GL.nl_ ?_; refine GC.cond_false rfl ?_; refine GC.skip ?_
      exact fun a w h => ⟨(()), (by simp only [pOp, pRes, pGrp, formD]; simp_all), h.cut (is := [0]) (js := [0, 1, 2, 3, 4, 5, 6, 7]) ⟨rfl, rfl, trivial⟩ rfl rfl⟩
  ·try simp only [tst_, bi1, bi2, bi4, bi8, formE_iff, resE_iff, grpE_iff, lcE_iff] at h1
   iterate 4 refine GL.pass (s := 9) rfl rfl rfl ?_
   refine GL.pure rfl (p_pick_false rfl rfl) ?_; refine GL.mv_ rfl rfl ?_; refine GL.pureG (s := 15) rfl rfl rfl (p_move rfl) ?_; refine GL.pureG (s := 15) rfl rfl rfl (p_andR rfl rfl (and_b2 _ _ _ _)) ?_; refine GL.pureG (s := 15) rfl rfl rfl (p_neq rfl rfl) ?_
   refine GL.pureG (s := 15) rfl rfl rfl (p_move rfl) ?_; refine GL.split (i := 19) rfl (fun h9 => ?_) (fun h9 => ?_)
   ·try simp only [tst_, bi1, bi2, bi4, bi8, formE_iff, resE_iff, grpE_iff, lcE_iff] at h9
    refine GL.pureG (s := 19) rfl rfl rfl (p_fieldAddr fo_42_12 rfl) ?_; refine GL.stepG rfl (s := 19) rfl rfl (t_mem rfl (m_loadN (i := 0) rfl rfl ag_30 (vs := [_, _]) sz_30 ⟨rfl, rfl, trivial⟩)) ?_; refine GL.stepG rfl (s := 19) rfl rfl (t_call rfl fn_61 rfl (is := []) (js := []) rfl rfl (by exact bres_ct m.res.code _ m.res.data.length _)) (GL.ret ?_)
    rintro _ _ _ ⟨rfl, rfl, rfl⟩
    refine GL.pureG (s := 19) rfl rfl rfl (p_neq rfl rfl) ?_; refine GL.pureG (s := 15) rfl rfl rfl (p_pick_true rfl rfl) ?_; refine GL.pure rfl (p_pick_false rfl rfl) ?_; refine GL.mv_ rfl rfl ?_; refine GL.split (i := 26) rfl (fun h10 => ?_) (fun h10 => ?_)
    ·try simp only [tst_, bi1, bi2, bi4, bi8, formE_iff, resE_iff, grpE_iff, lcE_iff] at h10
     iterate 4 refine GL.pass (s := 26) rfl rfl rfl ?_
     iterate 4 refine GL.passU (s := 30) rfl rfl rfl ?_
     refine GL.pass (s := 26) rfl rfl rfl ?_; refine GL.pure rfl (p_pick_true rfl rfl) ?_; refine GL.nl_ ?_; refine GC.cond_true rfl ?_; refine GC.sr_ ?_; refine GL.as_ rfl rfl ?_; refine GL.nl_ ?_; refine GC.ret ?_
     refine fun a w h => Fin.back (rs := [.tmp 2]) (vs := [_]) (is := []) (js := []) rfl ⟨rfl, trivial⟩ rfl rfl ?_ h
     clear h
     exact ⟨congrArg Value.bool (decide_eq_false fun H => by obtain ⟨⟨g1, g2, g3, g4⟩, _⟩ := H; simp only [formD] at g1; simp_all).symm, rfl, rfl⟩
    ·try simp only [tst_, bi1, bi2, bi4, bi8, formE_iff, resE_iff, grpE_iff, lcE_iff] at h10
     refine GL.pureG (s := 26) rfl rfl rfl (p_move rfl) ?_; refine GL.pureG (s := 26) rfl rfl rfl (p_andR rfl rfl (and_b4 _ _ _ _)) ?_; refine GL.pureG (s := 26) rfl rfl rfl (p_neq rfl rfl) ?_; refine GL.pureG (s := 26) rfl rfl rfl (p_move rfl) ?_
     refine GL.split (i := 30) rfl (fun h11 => ?_) (fun h11 => ?_)
     ·try simp only [tst_, bi1, bi2, bi4, bi8, formE_iff, resE_iff, grpE_iff, lcE_iff] at h11
      refine GL.pureG (s := 30) rfl rfl rfl (p_fieldAddr fo_42_13 rfl) ?_; refine GL.stepG rfl (s := 30) rfl rfl (t_mem rfl (m_loadN (i := 0) rfl rfl ag_33 (vs := [_, _]) sz_33 ⟨rfl, rfl, trivial⟩)) ?_; refine GL.stepG rfl (s := 30) rfl rfl (t_call rfl fn_62 rfl (is := []) (js := [3]) rfl rfl (by exact mgroup_ct m.grp.epoch _ m.grp.members _ (by have := hm.g; omega))) (GL.ret ?_)
      rintro _ _ _ ⟨rfl, rfl, rfl⟩
      refine GL.pureG (s := 30) rfl rfl rfl (p_neq rfl rfl) ?_; refine GL.pureG (s := 26) rfl rfl rfl (p_pick_true rfl rfl) ?_; refine GL.pure rfl (p_pick_false rfl rfl) ?_; refine GL.nl_ ?_; refine GC.cond rfl (fun h12 => ?_) (fun h12 => ?_)
      ·try simp only [tst_, bi1, bi2, bi4, bi8, formE_iff, resE_iff, grpE_iff, lcE_iff] at h12
       refine GC.sr_ ?_; refine GL.as_ rfl rfl ?_; refine GL.nl_ ?_; refine GC.ret ?_
       refine fun a w h => Fin.back (rs := [.tmp 2]) (vs := [_]) (is := []) (js := []) rfl ⟨rfl, trivial⟩ rfl rfl ?_ h
       clear h
       exact ⟨congrArg Value.bool (decide_eq_false fun H => by obtain ⟨⟨g1, g2, g3, g4⟩, _⟩ := H; simp only [formD] at g1; simp_all).symm, rfl, rfl⟩
      ·try simp only [tst_, bi1, bi2, bi4, bi8, formE_iff, resE_iff, grpE_iff, lcE_iff] at h12
       refine GC.skip ?_
       exact fun a w h => ⟨(()), (by simp only [pOp, pRes, pGrp, formD]; simp_all), h.cut (is := [0]) (js := [0, 1, 2, 3, 4, 5, 6, 7]) ⟨rfl, rfl, trivial⟩ rfl rfl⟩
     ·try simp only [tst_, bi1, bi2, bi4, bi8, formE_iff, resE_iff, grpE_iff, lcE_iff] at h11
      iterate 4 refine GL.pass (s := 30) rfl rfl rfl ?_
      refine GL.pureG (s := 26) rfl rfl rfl (p_pick_false rfl rfl) ?_; refine GL.pure rfl (p_pick_false rfl rfl) ?_; refine GL.nl_ ?_; refine GC.cond_false rfl ?_; refine GC.skip ?_
      exact fun a w h => ⟨(()), (by simp only [pOp, pRes, pGrp, formD]; simp_all), h.cut (is := [0]) (js := [0, 1, 2, 3, 4, 5, 6, 7]) ⟨rfl, rfl, trivial⟩ rfl rfl⟩
   ·try simp only [tst_, bi1, bi2, bi4, bi8, formE_iff, resE_iff, grpE_iff, lcE_iff] at h9
    iterate 4 refine GL.pass (s := 19) rfl rfl rfl ?_
    refine GL.pureG (s := 15) rfl rfl rfl (p_pick_false rfl rfl) ?_; refine GL.pure rfl (p_pick_false rfl rfl) ?_; refine GL.mv_ rfl rfl ?_; refine GL.pureG (s := 26) rfl rfl rfl (p_move rfl) ?_; refine GL.pureG (s := 26) rfl rfl rfl (p_andR rfl rfl (and_b4 _ _ _ _)) ?_
    refine GL.pureG (s := 26) rfl rfl rfl (p_neq rfl rfl) ?_; refine GL.pureG (s := 26) rfl rfl rfl (p_move rfl) ?_; refine GL.split (i := 30) rfl (fun h13 => ?_) (fun h13 => ?_)
    ·try simp only [tst_, bi1, bi2, bi4, bi8, formE_iff, resE_iff, grpE_iff, lcE_iff] at h13
     refine GL.pureG (s := 30) rfl rfl rfl (p_fieldAddr fo_42_13 rfl) ?_; refine GL.stepG rfl (s := 30) rfl rfl (t_mem rfl (m_loadN (i := 0) rfl rfl ag_33 (vs := [_, _]) sz_33 ⟨rfl, rfl, trivial⟩)) ?_; refine GL.stepG rfl (s := 30) rfl rfl (t_call rfl fn_62 rfl (is := []) (js := [3]) rfl rfl (by exact mgroup_ct m.grp.epoch _ m.grp.members _ (by have := hm.g; omega))) (GL.ret ?_)
     rintro _ _ _ ⟨rfl, rfl, rfl⟩
     refine GL.pureG (s := 30) rfl rfl rfl (p_neq rfl rfl) ?_; refine GL.pureG (s := 26) rfl rfl rfl (p_pick_true rfl rfl) ?_; refine GL.pure rfl (p_pick_false rfl rfl) ?_; refine GL.nl_ ?_; refine GC.cond rfl (fun h14 => ?_) (fun h14 => ?_)
     ·try simp only [tst_, bi1, bi2, bi4, bi8, formE_iff, resE_iff, grpE_iff, lcE_iff] at h14
      refine GC.sr_ ?_; refine GL.as_ rfl rfl ?_; refine GL.nl_ ?_; refine GC.ret ?_
      refine fun a w h => Fin.back (rs := [.tmp 2]) (vs := [_]) (is := []) (js := []) rfl ⟨rfl, trivial⟩ rfl rfl ?_ h
      clear h
      exact ⟨congrArg Value.bool (decide_eq_false fun H => by obtain ⟨⟨g1, g2, g3, g4⟩, _⟩ := H; simp only [formD] at g1; simp_all).symm, rfl, rfl⟩
     ·try simp only [tst_, bi1, bi2, bi4, bi8, formE_iff, resE_iff, grpE_iff, lcE_iff] at h14
      refine GC.skip ?_
      exact fun a w h => ⟨(()), (by simp only [pOp, pRes, pGrp, formD]; simp_all), h.cut (is := [0]) (js := [0, 1, 2, 3, 4, 5, 6, 7]) ⟨rfl, rfl, trivial⟩ rfl rfl⟩
    ·try simp only [tst_, bi1, bi2, bi4, bi8, formE_iff, resE_iff, grpE_iff, lcE_iff] at h13
     iterate 4 refine GL.pass (s := 30) rfl rfl rfl ?_
     refine GL.pureG (s := 26) rfl rfl rfl (p_pick_false rfl rfl) ?_; refine GL.pure rfl (p_pick_false rfl rfl) ?_; refine GL.nl_ ?_; refine GC.cond_false rfl ?_; refine GC.skip ?_
     exact fun a w h => ⟨(()), (by simp only [pOp, pRes, pGrp, formD]; simp_all), h.cut (is := [0]) (js := [0, 1, 2, 3, 4, 5, 6, 7]) ⟨rfl, rfl, trivial⟩ rfl rfl⟩
 ·intro u_ hj2
  try dsimp only [List.cons_append, List.nil_append] at hj2 ⊢
  refine GC.joinK1 (ks := [1]) (is := [0]) (js := [0, 1, 2, 3, 4, 5, 6, 7]) (fun (u_ : Unit) => pStt m) (fun (u_ : Unit) => []) (fun (u_ : Unit) => []) (fun (u_ : Unit) => []) rfl rfl rfl ?_ ?_
  ·refine GC.sr_ ?_; refine GL.mv_ rfl rfl ?_; refine GL.pure rfl (p_andR rfl rfl (and_b8 _ _ _ _)) ?_; refine GL.pure rfl (p_neq rfl rfl) ?_; refine GL.mv_ rfl rfl ?_; refine GL.split (i := 40) rfl (fun h15 => ?_) (fun h15 => ?_)
   ·try simp only [tst_, bi1, bi2, bi4, bi8, formE_iff, resE_iff, grpE_iff, lcE_iff] at h15
    refine GL.pureG (s := 40) rfl rfl rfl (p_fieldAddr fo_42_14 rfl) ?_; refine GL.stepG rfl (s := 40) rfl rfl (t_mem rfl (m_loadN (i := 0) rfl rfl ag_39 (vs := [_, _, _, _, _, _, _]) sz_39 ⟨rfl, rfl, rfl, rfl, rfl, rfl, rfl, trivial⟩)) ?_
    refine GL.pureG (s := 40) rfl rfl rfl (p_build ze_111 of_111 rfl rfl) ?_; refine GL.stepG rfl (s := 40) rfl rfl (t_call rfl fn_63 rfl (is := []) (js := [4, 5, 6]) rfl rfl (by exact lchk_ct m.stt _ _ _ _ _ _ hm.s)) (GL.ret ?_)
    rintro _ _ _ ⟨rfl, rfl, rfl⟩
    refine GL.pureG (s := 40) rfl rfl rfl (p_neq rfl rfl) ?_; refine GL.pure rfl (p_pick_true rfl rfl) ?_; refine GL.nl_ ?_; refine GC.cond rfl (fun h16 => ?_) (fun h16 => ?_)
    ·try simp only [tst_, bi1, bi2, bi4, bi8, formE_iff, resE_iff, grpE_iff, lcE_iff] at h16
     refine GC.sr_ ?_; refine GL.as_ rfl rfl ?_; refine GL.nl_ ?_; refine GC.ret ?_
     refine fun a w h => Fin.back (rs := [.tmp 2]) (vs := [_]) (is := []) (js := []) rfl ⟨rfl, trivial⟩ rfl rfl ?_ h
     clear h
     exact ⟨congrArg Value.bool (decide_eq_false fun H => by obtain ⟨⟨g1, g2, g3, g4⟩, _⟩ := H; simp_all).symm, rfl, rfl⟩
    ·try simp only [tst_, bi1, bi2, bi4, bi8, formE_iff, resE_iff, grpE_iff, lcE_iff] at h16
     refine GC.skip ?_
     exact fun a w h => ⟨(()), (by simp only [pStt]; simp_all), h.cut (is := [0]) (js := [0, 1, 2, 3, 4, 5, 6, 7]) ⟨rfl, trivial⟩ rfl rfl⟩
   ·try simp only [tst_, bi1, bi2, bi4, bi8, formE_iff, resE_iff, grpE_iff, lcE_iff] at h15
    iterate 5 refine GL.pass (s := 40) rfl rfl rfl ?_
    refine GL.pure rfl (p_pick_false rfl rfl) ?_; refine GL.nl_ ?_; refine GC.cond_false rfl ?_; refine GC.skip ?_
    exact fun a w h => ⟨(()), (by simp only [pStt]; simp_all), h.cut (is := [0]) (js := [0, 1, 2, 3, 4, 5, 6, 7]) ⟨rfl, trivial⟩ rfl rfl⟩
  ·intro u_ hj4
   try dsimp only [List.cons_append, List.nil_append] at hj4 ⊢
   refine GC.sr_ ?_; refine GL.pure rfl (p_fieldAddr fo_42_15 rfl) ?_; refine GL.step rfl (t_mem rfl (m_load (i := 0) rfl rfl ag_40 rfl)) ?_; refine GL.step rfl (t_call rfl fn_64 rfl (is := []) (js := [7]) rfl rfl (by exact wrow_ct _ m.log _ (by have := hm.l; omega) hm.e)) (GL.ret ?_)
   rintro _ _ _ ⟨rfl, rfl, rfl⟩
   refine GL.as_ rfl rfl ?_; refine GL.nl_ ?_; refine GC.ret ?_
   refine fun a w h => Fin.back (rs := [.tmp 2]) (vs := [_]) (is := []) (js := []) rfl ⟨rfl, trivial⟩ rfl rfl ?_ h
   clear h
   exact ⟨congrArg Value.bool (decide_eq_decide.2 ⟨fun g => ⟨⟨hj2.1, hj2.2.1, hj2.2.2, hj4⟩, g⟩, fun g => g.2⟩), rfl, rfl⟩
theorem iidx_ct (A : Option Addr) (l : List Int) (cp : Nat) (hl : l.length ≤ 140737488355328) : Ct Tryz.prog 58 [.slice A l.length cp, .func (.func 22) #[] #[]] [] [Pers.row kI A l]
    (fun u G Q => ∃ i : Int, (0 ≤ i ↔ ¬ ∀ x ∈ l, in62 x) ∧ u = .int .i64 i ∧ G = [] ∧ Q = []) := by
 refine Ct.intro Tryz.func58 rfl rfl rfl (fun c hc => ?_)
 refine GC.sr_ ?_; refine GL.as_ rfl rfl ?_; refine GL.nl_ ?_; refine GC.seq' ?_; refine GC.sr_ ?_; refine GL.mv_ rfl rfl ?_; refine GL.pure rfl (p_len Tryz.underlying31 rfl) ?_; refine GL.mv_ rfl rfl ?_; refine GL.nl_ ?_
 refine GC.block ?_; refine GC.loopK1 (ks := [0, 1, 7]) (is := []) (js := [0]) (fun (k : Nat) => k ≤ l.length ∧ ∀ j : Nat, j < k → in62 (gt l (j : Int))) (fun (k : Nat) => [(8, .int .i64 (k : Int))]) (fun (k : Nat) => []) (fun (k : Nat) => []) (fun (k : Nat) => l.length - k) (0) rfl rfl rfl (fun a w h => ⟨⟨by omega, fun j hj => by omega⟩, h.cutK (is := []) (js := [0]) (ks := [0, 1, 7]) ⟨rfl, trivial⟩ rfl rfl rfl⟩) ?_
 intro k hk
 try dsimp only [List.cons_append, List.nil_append] at hk ⊢
 obtain ⟨hk, hall⟩ := hk
 refine GC.sr_ ?_; refine GL.pure rfl (p_lss rfl rfl) ?_; refine GL.nl_ ?_; refine GC.seq' ?_; refine GC.cond rfl (fun h1 => ?_) (fun h1 => ?_)
 ·try simp only [tst_] at h1
  refine GC.skip (?_ : GC _ _ _ _)
  refine GC.seq' ?_; refine GC.block ?_; refine GC.sr_ ?_; refine GL.mv_ rfl rfl ?_; refine GL.as_ rfl rfl ?_; refine GL.nl_ ?_; refine GC.sr_ ?_
  iterate 3 refine GL.mv_ rfl rfl ?_
  refine GL.step rfl (t_index (i := 0) rfl rfl rfl rfl Tryz.underlying31 sz_3 (by omega) (gt_ok (by omega) (by omega))) (GL.ex fun p_x14 => GL.ex fun r_x14 => GL.and fun ok_x14 => ?_)
  rcases r_x14 with _
  refine GL.step rfl (t_mem rfl (m_loadP (i := 0) rfl rfl ag_3 rfl)) ?_; refine GL.step rfl (t_callv rfl fn_22 rfl rfl (is := []) (js := []) rfl rfl (by exact chk1_ct (gt l (k : Int)))) (GL.ret ?_)
  rintro _ _ _ ⟨rfl, rfl, rfl⟩
  refine GL.nl_ ?_; refine GC.cond rfl (fun h2 => ?_) (fun h2 => ?_)
  ·try simp only [tst_] at h2
   refine GC.sr_ ?_; refine GL.mv_ rfl rfl ?_; refine GL.as_ rfl rfl ?_; refine GL.nl_ ?_; refine GC.ret ?_
   refine fun a w h => Fin.back (rs := [.tmp 4]) (vs := [_]) (is := []) (js := []) rfl ⟨rfl, trivial⟩ rfl rfl ?_ h
   clear h
   exact ⟨_, ⟨fun _ H => absurd (H _ (gt_elem (l := l) (k := k) (by omega))) (by assumption), fun _ => by omega⟩, rfl, rfl, rfl⟩
  ·try simp only [tst_] at h2
   refine GC.skip (?_ : GC _ _ _ _)
   refine GC.region ?_; refine GL.pure rfl (p_add rfl rfl (w64 (by omega) (by omega))) ?_; refine GL.mv_ rfl rfl ?_; refine GL.nil ?_
   exact fun a w h => ⟨(k + 1), (by omega), ⟨by omega, fun j hj => (Nat.lt_succ_iff_lt_or_eq.1 hj).elim (hall j) (fun e => by subst e; assumption)⟩, h.cut (is := []) (js := [1]) ⟨rfl, rfl, rfl, rfl, trivial⟩ rfl rfl⟩
 ·try simp only [tst_] at h1
  refine GC.exit (?_ : GC _ _ _ _)
  refine GC.sr_ ?_; refine GL.as_ rfl rfl ?_; refine GL.nl_ ?_; refine GC.ret ?_
  refine fun a w h => Fin.back (rs := [.tmp 4]) (vs := [_]) (is := []) (js := []) rfl ⟨rfl, trivial⟩ rfl rfl ?_ h
  clear h
  exact ⟨_, ⟨fun g => by omega, fun g => absurd (fun p hp => by obtain ⟨j, hj, rfl⟩ := mem_gt hp; exact hall j (by omega)) g⟩, rfl, rfl, rfl⟩
theorem icon_ct (A : Option Addr) (l : List Int) (cp : Nat) (hl : l.length ≤ 140737488355328) : Ct Tryz.prog 21 [.slice A l.length cp, .func (.func 22) #[] #[]] [] [Pers.row kI A l]
    (fun u G Q => u = .bool (decide (¬ ∀ x ∈ l, in62 x)) ∧ G = [] ∧ Q = []) := by
 refine Ct.intro Tryz.func21 rfl rfl rfl (fun c hc => ?_)
 refine GC.sr_ ?_; refine GL.as_ rfl rfl ?_; refine GL.nl_ ?_; refine GC.sr_ ?_
 iterate 2 refine GL.mv_ rfl rfl ?_
 refine GL.step rfl (t_call rfl fn_58 rfl (is := []) (js := [0]) rfl rfl (by exact iidx_ct _ l _ hl)) (GL.ret ?_)
 rintro _ _ _ ⟨i7, hi7, rfl, rfl, rfl⟩
 refine GL.pure rfl (p_geq rfl rfl) ?_; refine GL.as_ rfl rfl ?_; refine GL.nl_ ?_; refine GC.ret ?_
 refine fun a w h => Fin.back (rs := [.tmp 4]) (vs := [_]) (is := []) (js := []) rfl ⟨rfl, trivial⟩ rfl rfl ?_ h
 clear h
 exact ⟨congrArg Value.bool (decide_eq_decide.2 hi7), rfl, rfl⟩
theorem nums_iff (m : Msg) : (∀ x ∈ [m.epoch, m.view, m.num, m.commit, m.normal, m.client, m.serial], in62 x) ↔ numsOk m := by simp [numsOk]
theorem msgE_yes {m : Msg} (h : msgOk m) : msgE m = 0 := if_pos h
theorem msgE_no {m : Msg} (h : ¬ msgOk m) : msgE m = 160 := if_neg h
theorem wchk_ct (m : Msg) (s : Lie) (hm : MsgLen m) : Ct Tryz.prog 12 [msgV m s] [] (msgQ m s) (fun u G Q => u = .int .i64 (msgE m) ∧ G = [] ∧ Q = []) := by
 refine Ct.intro Tryz.func12 rfl rfl rfl (fun c hc => ?_)
 refine GC.sr_ ?_; refine GL.step rfl (t_box rfl rfl rfl) (GL.ex fun b_t1 => ?_); refine GL.as_ rfl rfl ?_; refine GL.nl_ ?_; refine GC.sr_ ?_; refine GL.pure rfl (p_fieldAddr fo_42_3 rfl) ?_; refine GL.step rfl (t_mem rfl (m_load (i := 0) rfl rfl ag_3 rfl)) ?_
 refine GL.pure rfl (p_fieldAddr fo_42_4 rfl) ?_; refine GL.step rfl (t_mem rfl (m_load (i := 0) rfl rfl ag_3 rfl)) ?_; refine GL.pure rfl (p_fieldAddr fo_42_5 rfl) ?_; refine GL.step rfl (t_mem rfl (m_load (i := 0) rfl rfl ag_3 rfl)) ?_
 refine GL.pure rfl (p_fieldAddr fo_42_6 rfl) ?_; refine GL.step rfl (t_mem rfl (m_load (i := 0) rfl rfl ag_3 rfl)) ?_; refine GL.pure rfl (p_fieldAddr fo_42_7 rfl) ?_; refine GL.step rfl (t_mem rfl (m_load (i := 0) rfl rfl ag_3 rfl)) ?_
 refine GL.pure rfl (p_fieldAddr fo_42_9 rfl) ?_; refine GL.step rfl (t_mem rfl (m_load (i := 0) rfl rfl ag_3 rfl)) ?_; refine GL.pure rfl (p_fieldAddr fo_42_10 rfl) ?_; refine GL.step rfl (t_mem rfl (m_load (i := 0) rfl rfl ag_3 rfl)) ?_
 refine GL.step rfl (t_buildSlice rfl Tryz.underlying31 sz_3 ze_3 rfl rfl rfl rfl rfl rfl) (GL.ex fun b_t19 => ?_); refine GL.as_ rfl rfl ?_; refine GL.nl_ ?_; refine GC.sr_ ?_; refine GL.freezeC (enc := Value.int .i64) (xs := [m.epoch, m.view, m.num, m.commit, m.normal, m.client, m.serial]) (h1 := fun _ => rfl) (i := 0) rfl ?_
 refine GL.mv_ rfl rfl ?_; refine GL.step rfl (t_call rfl fn_21 rfl (is := []) (js := [0]) rfl rfl (by exact icon_ct _ [m.epoch, m.view, m.num, m.commit, m.normal, m.client, m.serial] _ (by simp))) (GL.ret ?_)
 rintro _ _ _ ⟨rfl, rfl, rfl⟩
 refine GL.as_ rfl rfl ?_; refine GL.nl_ ?_; refine GC.seq' ?_; refine GC.sr_ ?_
 iterate 2 refine GL.mv_ rfl rfl ?_
 refine GL.split (i := 23) rfl (fun h1 => ?_) (fun h1 => ?_)
 ·try simp only [tst_, nums_iff] at h1
  iterate 3 refine GL.pass (s := 23) rfl rfl rfl ?_
  refine GL.pure rfl (p_pick_true rfl rfl) ?_; refine GL.mv_ rfl rfl ?_
  iterate 3 refine GL.pass (s := 28) rfl rfl rfl ?_
  refine GL.pure rfl (p_pick_true rfl rfl) ?_; refine GL.mv_ rfl rfl ?_
  iterate 4 refine GL.pass (s := 33) rfl rfl rfl ?_
  refine GL.pure rfl (p_pick_true rfl rfl) ?_; refine GL.mv_ rfl rfl ?_
  iterate 4 refine GL.pass (s := 39) rfl rfl rfl ?_
  refine GL.pure rfl (p_pick_true rfl rfl) ?_; refine GL.mv_ rfl rfl ?_
  iterate 3 refine GL.pass (s := 45) rfl rfl rfl ?_
  refine GL.pure rfl (p_pick_true rfl rfl) ?_; refine GL.nl_ ?_; refine GC.cond_true rfl ?_; refine GC.sr_ ?_; refine GL.as_ rfl rfl ?_; refine GL.nl_ ?_; refine GC.ret ?_
  refine fun a w h => Fin.back (rs := [.tmp 2]) (vs := [_]) (is := []) (js := []) rfl ⟨rfl, trivial⟩ rfl rfl ?_ h
  clear h
  first | exact ⟨by rw [msgE_no (fun H => by obtain ⟨g1, g2, g3, g4, g5, g6, g7⟩ := H; first | omega | contradiction | (simp_all; done))]; rfl, rfl, rfl⟩ | exact ⟨by rw [msgE_yes ⟨by assumption, by omega, by omega, by assumption, by assumption, (by assumption : partsOk m ∧ rowOkE m.log).1, (by assumption : partsOk m ∧ rowOkE m.log).2⟩]; rfl, rfl, rfl⟩
 ·try simp only [tst_, nums_iff] at h1
  refine GL.pureG (s := 23) rfl rfl rfl (p_fieldAddr fo_42_0 rfl) ?_; refine GL.stepG rfl (s := 23) rfl rfl (t_mem rfl (m_load (i := 0) rfl rfl ag_22 rfl)) ?_; refine GL.pureG (s := 23) rfl rfl rfl (p_lss rfl rfl) ?_; refine GL.pure rfl (p_pick_false rfl rfl) ?_
  refine GL.mv_ rfl rfl ?_; refine GL.split (i := 28) rfl (fun h2 => ?_) (fun h2 => ?_)
  ·try simp only [tst_, nums_iff] at h2
   iterate 3 refine GL.pass (s := 28) rfl rfl rfl ?_
   refine GL.pure rfl (p_pick_true rfl rfl) ?_; refine GL.mv_ rfl rfl ?_
   iterate 4 refine GL.pass (s := 33) rfl rfl rfl ?_
   refine GL.pure rfl (p_pick_true rfl rfl) ?_; refine GL.mv_ rfl rfl ?_
   iterate 4 refine GL.pass (s := 39) rfl rfl rfl ?_
   refine GL.pure rfl (p_pick_true rfl rfl) ?_; refine GL.mv_ rfl rfl ?_
   iterate 3 refine GL.pass (s := 45) rfl rfl rfl ?_
   refine GL.pure rfl (p_pick_true rfl rfl) ?_; refine GL.nl_ ?_; refine GC.cond_true rfl ?_; refine GC.sr_ ?_; refine GL.as_ rfl rfl ?_; refine GL.nl_ ?_; refine GC.ret ?_
   refine fun a w h => Fin.back (rs := [.tmp 2]) (vs := [_]) (is := []) (js := []) rfl ⟨rfl, trivial⟩ rfl rfl ?_ h
   clear h
   first | exact ⟨by rw [msgE_no (fun H => by obtain ⟨g1, g2, g3, g4, g5, g6, g7⟩ := H; first | omega | contradiction | (simp_all; done))]; rfl, rfl, rfl⟩ | exact ⟨by rw [msgE_yes ⟨by assumption, by omega, by omega, by assumption, by assumption, (by assumption : partsOk m ∧ rowOkE m.log).1, (by assumption : partsOk m ∧ rowOkE m.log).2⟩]; rfl, rfl, rfl⟩
  ·try simp only [tst_, nums_iff] at h2
   refine GL.pureG (s := 28) rfl rfl rfl (p_fieldAddr fo_42_0 rfl) ?_; refine GL.stepG rfl (s := 28) rfl rfl (t_mem rfl (m_load (i := 0) rfl rfl ag_22 rfl)) ?_; refine GL.pureG (s := 28) rfl rfl rfl (p_gtr rfl rfl) ?_; refine GL.pure rfl (p_pick_false rfl rfl) ?_
   refine GL.mv_ rfl rfl ?_; refine GL.split (i := 33) rfl (fun h3 => ?_) (fun h3 => ?_)
   ·try simp only [tst_, nums_iff] at h3
    iterate 4 refine GL.pass (s := 33) rfl rfl rfl ?_
    refine GL.pure rfl (p_pick_true rfl rfl) ?_; refine GL.mv_ rfl rfl ?_
    iterate 4 refine GL.pass (s := 39) rfl rfl rfl ?_
    refine GL.pure rfl (p_pick_true rfl rfl) ?_; refine GL.mv_ rfl rfl ?_
    iterate 3 refine GL.pass (s := 45) rfl rfl rfl ?_
    refine GL.pure rfl (p_pick_true rfl rfl) ?_; refine GL.nl_ ?_; refine GC.cond_true rfl ?_; refine GC.sr_ ?_; refine GL.as_ rfl rfl ?_; refine GL.nl_ ?_; refine GC.ret ?_
    refine fun a w h => Fin.back (rs := [.tmp 2]) (vs := [_]) (is := []) (js := []) rfl ⟨rfl, trivial⟩ rfl rfl ?_ h
    clear h
    first | exact ⟨by rw [msgE_no (fun H => by obtain ⟨g1, g2, g3, g4, g5, g6, g7⟩ := H; first | omega | contradiction | (simp_all; done))]; rfl, rfl, rfl⟩ | exact ⟨by rw [msgE_yes ⟨by assumption, by omega, by omega, by assumption, by assumption, (by assumption : partsOk m ∧ rowOkE m.log).1, (by assumption : partsOk m ∧ rowOkE m.log).2⟩]; rfl, rfl, rfl⟩
   ·try simp only [tst_, nums_iff] at h3
    refine GL.pureG (s := 33) rfl rfl rfl (p_fieldAddr fo_42_1 rfl) ?_; refine GL.stepG rfl (s := 33) rfl rfl (t_mem rfl (m_load (i := 0) rfl rfl ag_3 rfl)) ?_; refine GL.stepG rfl (s := 33) rfl rfl (t_call rfl fn_23 rfl (is := []) (js := []) rfl rfl (by exact who_ct _)) (GL.ret ?_)
    rintro _ _ _ ⟨rfl, rfl, rfl⟩
    refine GL.pureG (s := 33) rfl rfl rfl (p_not rfl) ?_; refine GL.pure rfl (p_pick_false rfl rfl) ?_; refine GL.mv_ rfl rfl ?_; refine GL.split (i := 39) rfl (fun h4 => ?_) (fun h4 => ?_)
    ·try simp only [tst_, nums_iff] at h4
     iterate 4 refine GL.pass (s := 39) rfl rfl rfl ?_
     refine GL.pure rfl (p_pick_true rfl rfl) ?_; refine GL.mv_ rfl rfl ?_
     iterate 3 refine GL.pass (s := 45) rfl rfl rfl ?_
     refine GL.pure rfl (p_pick_true rfl rfl) ?_; refine GL.nl_ ?_; refine GC.cond_true rfl ?_; refine GC.sr_ ?_; refine GL.as_ rfl rfl ?_; refine GL.nl_ ?_; refine GC.ret ?_
     refine fun a w h => Fin.back (rs := [.tmp 2]) (vs := [_]) (is := []) (js := []) rfl ⟨rfl, trivial⟩ rfl rfl ?_ h
     clear h
     first | exact ⟨by rw [msgE_no (fun H => by obtain ⟨g1, g2, g3, g4, g5, g6, g7⟩ := H; first | omega | contradiction | (simp_all; done))]; rfl, rfl, rfl⟩ | exact ⟨by rw [msgE_yes ⟨by assumption, by omega, by omega, by assumption, by assumption, (by assumption : partsOk m ∧ rowOkE m.log).1, (by assumption : partsOk m ∧ rowOkE m.log).2⟩]; rfl, rfl, rfl⟩
    ·try simp only [tst_, nums_iff] at h4
     refine GL.pureG (s := 39) rfl rfl rfl (p_fieldAddr fo_42_2 rfl) ?_; refine GL.stepG rfl (s := 39) rfl rfl (t_mem rfl (m_load (i := 0) rfl rfl ag_3 rfl)) ?_; refine GL.stepG rfl (s := 39) rfl rfl (t_call rfl fn_23 rfl (is := []) (js := []) rfl rfl (by exact who_ct _)) (GL.ret ?_)
     rintro _ _ _ ⟨rfl, rfl, rfl⟩
     refine GL.pureG (s := 39) rfl rfl rfl (p_not rfl) ?_; refine GL.pure rfl (p_pick_false rfl rfl) ?_; refine GL.mv_ rfl rfl ?_; refine GL.split (i := 45) rfl (fun h5 => ?_) (fun h5 => ?_)
     ·try simp only [tst_, nums_iff] at h5
      iterate 3 refine GL.pass (s := 45) rfl rfl rfl ?_
      refine GL.pure rfl (p_pick_true rfl rfl) ?_; refine GL.nl_ ?_; refine GC.cond_true rfl ?_; refine GC.sr_ ?_; refine GL.as_ rfl rfl ?_; refine GL.nl_ ?_; refine GC.ret ?_
      refine fun a w h => Fin.back (rs := [.tmp 2]) (vs := [_]) (is := []) (js := []) rfl ⟨rfl, trivial⟩ rfl rfl ?_ h
      clear h
      first | exact ⟨by rw [msgE_no (fun H => by obtain ⟨g1, g2, g3, g4, g5, g6, g7⟩ := H; first | omega | contradiction | (simp_all; done))]; rfl, rfl, rfl⟩ | exact ⟨by rw [msgE_yes ⟨by assumption, by omega, by omega, by assumption, by assumption, (by assumption : partsOk m ∧ rowOkE m.log).1, (by assumption : partsOk m ∧ rowOkE m.log).2⟩]; rfl, rfl, rfl⟩
     ·try simp only [tst_, nums_iff] at h5
      refine GL.stepG rfl (s := 45) rfl rfl (t_mem rfl (m_loadN (i := 0) rfl rfl ag_42 (vs := [_, _, _, _, _, _, _, _, _, _, _, _, _, _, _, _, _, _, _, _, _, _, _, _, _, _, _, _]) sz_42 ⟨rfl, rfl, rfl, rfl, rfl, rfl, rfl, rfl, rfl, rfl, rfl, rfl, rfl, rfl, rfl, rfl, rfl, rfl, rfl, rfl, rfl, rfl, rfl, rfl, rfl, rfl, rfl, rfl, trivial⟩)) ?_
      refine GL.stepG rfl (s := 45) rfl rfl (t_call rfl fn_24 rfl (is := []) (js := [1, 2, 3, 4, 5, 6, 7, 8]) rfl rfl (by exact wright_ct m s hm)) (GL.ret ?_)
      rintro _ _ _ ⟨rfl, rfl, rfl⟩
      refine GL.pureG (s := 45) rfl rfl rfl (p_not rfl) ?_; refine GL.pure rfl (p_pick_false rfl rfl) ?_; refine GL.nl_ ?_; refine GC.cond rfl (fun h6 => ?_) (fun h6 => ?_)
      ·try simp only [tst_, nums_iff] at h6
       refine GC.sr_ ?_; refine GL.as_ rfl rfl ?_; refine GL.nl_ ?_; refine GC.ret ?_
       refine fun a w h => Fin.back (rs := [.tmp 2]) (vs := [_]) (is := []) (js := []) rfl ⟨rfl, trivial⟩ rfl rfl ?_ h
       clear h
       first | exact ⟨by rw [msgE_no (fun H => by obtain ⟨g1, g2, g3, g4, g5, g6, g7⟩ := H; first | omega | contradiction | (simp_all; done))]; rfl, rfl, rfl⟩ | exact ⟨by rw [msgE_yes ⟨by assumption, by omega, by omega, by assumption, by assumption, (by assumption : partsOk m ∧ rowOkE m.log).1, (by assumption : partsOk m ∧ rowOkE m.log).2⟩]; rfl, rfl, rfl⟩
      ·try simp only [tst_, nums_iff] at h6
       refine GC.skip (?_ : GC _ _ _ _)
       refine GC.sr_ ?_; refine GL.as_ rfl rfl ?_; refine GL.nl_ ?_; refine GC.ret ?_
       refine fun a w h => Fin.back (rs := [.tmp 2]) (vs := [_]) (is := []) (js := []) rfl ⟨rfl, trivial⟩ rfl rfl ?_ h
       clear h
       first | exact ⟨by rw [msgE_no (fun H => by obtain ⟨g1, g2, g3, g4, g5, g6, g7⟩ := H; first | omega | contradiction | (simp_all; done))]; rfl, rfl, rfl⟩ | exact ⟨by rw [msgE_yes ⟨by assumption, by omega, by omega, by assumption, by assumption, (by assumption : partsOk m ∧ rowOkE m.log).1, (by assumption : partsOk m ∧ rowOkE m.log).2⟩]; rfl, rfl, rfl⟩
end Go.Proofs.YtdhdmbmknpjhbaaGreat
namespace Go.Proofs.YtdhdmbmknpjhbaaGreat
open Go Go.Sx Go.Proofs
instance (m : Msg) : Decidable (pOp m) := by unfold pOp; infer_instance
instance (m : Msg) : Decidable (pRes m) := by unfold pRes; infer_instance
instance (m : Msg) : Decidable (pGrp m) := by unfold pGrp; infer_instance
instance (m : Msg) : Decidable (pStt m) := by unfold pStt; infer_instance
end Go.Proofs.YtdhdmbmknpjhbaaGreat
namespace Go.Sx
open Go
section
variable {P : Program} {c : Cx} {n : Nat} {env : List (Nat × Value)} {G G' : List Own} {Q : List Pers} {R : Exit → Asr} {cd : Code} {ops : Array Oper} {rest : List Oper} {a : Act} {w : World}
theorem St.rowIs {i m m' e sz : Nat} {v : Value} {cs cs' : List Value} (h : St c n env G Q a w) (hi : nthO G i = some (.row v e sz m cs)) (hm : m = m') (hc : cs = cs') (hr : repl G i (.row v e sz m' cs') = some G') : St c n env G' Q a w :=
  h.recast hi hr rfl (fun w h => by subst hm hc; exact h)
theorem GL.rowIs {i m m' e sz : Nat} {v : Value} {cs cs' : List Value} (hi : nthO G i = some (.row v e sz m cs)) (hm : m = m') (hc : cs = cs') (hr : repl G i (.row v e sz m' cs') = some G') (k : GL P ops R rest (St c n env G' Q)) : GL P ops R rest (St c n env G Q) := GL.imp (fun a w h => h.rowIs hi hm hc hr) k
theorem GC.rowIs {i m m' e sz : Nat} {v : Value} {cs cs' : List Value} (hi : nthO G i = some (.row v e sz m cs)) (hm : m = m') (hc : cs = cs') (hr : repl G i (.row v e sz m' cs') = some G') (k : GC P R cd (St c n env G' Q)) : GC P R cd (St c n env G Q) := GC.imp (fun a w h => h.rowIs hi hm hc hr) k
theorem GA.rowIs {M : Asr} {I : World → Prop} {fuel : Nat} {listed : Array Bool} {i m m' e sz : Nat} {v : Value} {cs cs' : List Value} (hi : nthO G i = some (.row v e sz m cs)) (hm : m = m') (hc : cs = cs') (hr : repl G i (.row v e sz m' cs') = some G') (k : GA P ops M I fuel listed (St c n env G' Q)) : GA P ops M I fuel listed (St c n env G Q) := GA.st (fun a w h => h.rowIs hi hm hc hr) k
end
end Go.Sx
namespace Go.Proofs.YtdhdmbmknpjhbaaGreat
open Go Go.Sx Go.Proofs
abbrev rowOf (A : Option Addr) (cp : Nat) (b : List UInt8) : Own := .row (.slice A b.length cp) 5 1 b.length (b.map u8v)
theorem bclone_ct (A : Option Addr) (xs : List UInt8) (cp : Nat) (hx : xs.length ≤ 140737488355328) : Ct Tryz.prog 118 [.slice A xs.length cp] [] [Pers.row Kd.u8 A xs]
    (fun v G Q => ∃ A' cp', xs.length ≤ cp' ∧ cp' ≤ 9223372036854775807 ∧ v = .slice A' xs.length cp' ∧ G = [.row (.slice A' xs.length cp') 5 1 xs.length (xs.map u8v)] ∧ Q = []) := by
 cases A with
 | none =>
   refine Ct.pure (fun w S h => row_none (h.per _ (List.mem_singleton.2 rfl))) fun hx0 => ?_
   subst hx0
   refine Ct.intro Tryz.func118 rfl rfl rfl (fun c hc => ?_)
   refine GC.sr_ ?_; refine GL.as_ rfl rfl ?_; refine GL.nl_ ?_; refine GC.seq' ?_; refine GC.sr_ ?_; refine GL.mv_ rfl rfl ?_; refine GL.pure rfl (p_slnil_eql Tryz.underlying25 rfl rfl) ?_; refine GL.nl_ ?_; refine GC.cond_true rfl ?_
   refine GC.sr_ ?_; refine GL.as_ rfl rfl ?_; refine GL.nl_ ?_; refine GC.nilrow 5 1 ?_; refine GC.ret ?_
   refine fun a w h => Fin.back (rs := [.tmp 2]) (vs := [_]) (is := [0]) (js := []) rfl ⟨rfl, trivial⟩ rfl rfl ?_ h
   clear h
   exact ⟨_, _, by simp, by simp, rfl, rfl, rfl⟩
 | some a =>
   refine Ct.intro Tryz.func118 rfl rfl rfl (fun c hc => ?_)
   refine GC.sr_ ?_; refine GL.as_ rfl rfl ?_; refine GL.nl_ ?_; refine GC.seq' ?_; refine GC.sr_ ?_; refine GL.mv_ rfl rfl ?_; refine GL.pure rfl (p_slnil_eql Tryz.underlying25 rfl rfl) ?_; refine GL.nl_ ?_; refine GC.cond_false rfl ?_
   refine GC.skip (?_ : GC _ _ _ _)
   refine GC.sr_ ?_; refine GL.step rfl (t_buildSlice rfl Tryz.underlying25 sz_5 ze_5 rfl rfl rfl rfl rfl rfl) (GL.ex fun b_t5 => ?_); refine GL.mv_ rfl rfl ?_; refine GL.torow (i := 0) (m := 0) (sz := 1) rfl rfl (by decide) rfl ?_
   refine GL.step rfl (t_appendS (i := 0) (k := 0) rfl el_25 rfl rfl rfl rfl (by simp; omega) (fun _ => rfl)) (GL.ex fun v7 => ?_); refine GL.as_ rfl rfl ?_; refine GL.nl_ ?_; refine GC.shape (i := 0) rfl (fun A1 c1 e1 l1 l2 => ?_)
   subst e1
   simp only [Nat.zero_add, List.nil_append] at l1 ⊢
   refine GC.ret ?_
   refine fun a w h => Fin.back (rs := [.tmp 2]) (vs := [_]) (is := [0]) (js := []) rfl ⟨rfl, trivial⟩ rfl rfl ?_ h
   clear h
   exact ⟨_, _, l1, l2, rfl, rfl, rfl⟩
theorem sized_ct (n : Int) : Ct Tryz.prog 117 [.int .i64 n] [] [] (fun v G Q => v = .bool (decide (1 ≤ n ∧ n ≤ 8)) ∧ G = [] ∧ Q = []) := by
 refine Ct.intro Tryz.func117 rfl rfl rfl (fun c hc => ?_)
 refine GC.sr_ ?_; refine GL.as_ rfl rfl ?_; refine GL.nl_ ?_; refine GC.sr_ ?_; refine GL.mv_ rfl rfl ?_; refine GL.pure rfl (p_geq rfl rfl) ?_; refine GL.mv_ rfl rfl ?_; refine GL.split (i := 5) rfl (fun h1 => ?_) (fun h1 => ?_)
 ·try simp only [tst_] at h1
  refine GL.pureG (s := 5) rfl rfl rfl (p_move rfl) ?_; refine GL.pureG (s := 5) rfl rfl rfl (p_leq rfl rfl) ?_; refine GL.pure rfl (p_pick_true rfl rfl) ?_; refine GL.as_ rfl rfl ?_; refine GL.nl_ ?_; refine GC.ret ?_
  refine fun a w h => Fin.back (rs := [.tmp 2]) (vs := [_]) (is := []) (js := []) rfl ⟨rfl, trivial⟩ rfl rfl ?_ h
  clear h
  refine ⟨congrArg Value.bool ?_, rfl, rfl⟩; first | exact (decide_eq_true (by omega)).symm | exact (decide_eq_false (by omega)).symm | exact decide_eq_decide.2 (by omega)
 ·try simp only [tst_] at h1
  iterate 2 refine GL.pass (s := 5) rfl rfl rfl ?_
  refine GL.pure rfl (p_pick_false rfl rfl) ?_; refine GL.as_ rfl rfl ?_; refine GL.nl_ ?_; refine GC.ret ?_
  refine fun a w h => Fin.back (rs := [.tmp 2]) (vs := [_]) (is := []) (js := []) rfl ⟨rfl, trivial⟩ rfl rfl ?_ h
  clear h
  refine ⟨congrArg Value.bool ?_, rfl, rfl⟩; first | exact (decide_eq_true (by omega)).symm | exact (decide_eq_false (by omega)).symm | exact decide_eq_decide.2 (by omega)
theorem sized_ok (n : Nat) (h : 1 ≤ n) (h' : n ≤ 8) : Ct Tryz.prog 117 [.int .i64 (n : Int)] [] [] (fun v G Q => v = .bool true ∧ G = [] ∧ Q = []) := by
  have := sized_ct (n : Int)
  rw [decide_eq_true (by omega)] at this
  exact this
theorem div_lt_iff {v n : Nat} : v / 256 ^ n = 0 ↔ v < 256 ^ n := Nat.div_eq_zero_iff.trans ⟨fun h => h.resolve_left (by simp), .inr⟩
theorem fits_ct (v n : Nat) (h : 1 ≤ n) (h' : n ≤ 8) (hv : v < 18446744073709551616) : Ct Tryz.prog 119 [.int .u64 (v : Int), .int .i64 (n : Int)] [] [] (fun u G Q => u = .bool (decide (v < 256 ^ n)) ∧ G = [] ∧ Q = []) := by
 refine Ct.intro Tryz.func119 rfl rfl rfl (fun c hc => ?_)
 refine GC.sr_ ?_; refine GL.as_ rfl rfl ?_; refine GL.nl_ ?_; refine GC.sr_ ?_; refine GL.mv_ rfl rfl ?_; refine GL.pure rfl (p_eql rfl rfl) ?_; refine GL.mv_ rfl rfl ?_; refine GL.split (i := 7) rfl (fun h1 => ?_) (fun h1 => ?_)
 ·try simp only [tst_] at h1
  iterate 6 refine GL.pass (s := 7) rfl rfl rfl ?_
  refine GL.pure rfl (p_pick_true rfl rfl) ?_; refine GL.as_ rfl rfl ?_; refine GL.nl_ ?_; refine GC.ret ?_
  refine fun a w h => Fin.back (rs := [.tmp 4]) (vs := [_]) (is := []) (js := []) rfl ⟨rfl, trivial⟩ rfl rfl ?_ h
  clear h
  refine ⟨congrArg Value.bool ?_, rfl, rfl⟩; first | (obtain rfl : n = 8 := (by omega); exact (decide_eq_true (by omega)).symm) | exact decide_eq_decide.2 (by rw [← div_lt_iff]; norm_cast)
 ·try simp only [tst_] at h1
  iterate 2 refine GL.pureG (s := 7) rfl rfl rfl (p_move rfl) ?_
  refine GL.pureG (s := 7) rfl rfl rfl (p_mul rfl rfl (w64 (by omega) (by omega))) ?_; refine GL.pureG (s := 7) rfl rfl rfl (p_convR (t := 3) (r := ((8 * n : Nat) : Int)) (by rw [Tryz.underlying3]; simp) Tryz.underlying146 rfl (by rw [cvU (by omega) (by omega)]; omega)) ?_
  refine GL.pureG (s := 7) rfl rfl rfl (p_shrR (r := ((v / 256 ^ n : Nat) : Int)) rfl rfl (by omega) (shr8 h')) ?_; refine GL.pureG (s := 7) rfl rfl rfl (p_eql rfl rfl) ?_; refine GL.pure rfl (p_pick_false rfl rfl) ?_; refine GL.as_ rfl rfl ?_
  refine GL.nl_ ?_; refine GC.ret ?_
  refine fun a w h => Fin.back (rs := [.tmp 4]) (vs := [_]) (is := []) (js := []) rfl ⟨rfl, trivial⟩ rfl rfl ?_ h
  clear h
  refine ⟨congrArg Value.bool ?_, rfl, rfl⟩; first | (obtain rfl : n = 8 := (by omega); exact (decide_eq_true (by omega)).symm) | exact decide_eq_decide.2 (by rw [← div_lt_iff]; norm_cast)
theorem put8_ct (A : Option Addr) (cp : Nat) (b : List UInt8) (v n : Nat) (h' : n ≤ 8) (hb : b.length ≤ 100000000000000) : Ct Tryz.prog 120 [.slice A b.length cp, .int .u64 (v : Int), .int .i64 (n : Int)] [rowOf A cp b] []
    (fun u G Q => ∃ A' cp', (b ++ leN n v).length ≤ cp' ∧ cp' ≤ 9223372036854775807 ∧ u = .slice A' (b ++ leN n v).length cp' ∧ G = [rowOf A' cp' (b ++ leN n v)] ∧ Q = []) := by
 refine Ct.intro Tryz.func120 rfl rfl rfl (fun c hc => ?_)
 refine GC.sr_ ?_; refine GL.as_ rfl rfl ?_; refine GL.nl_ ?_; refine GC.seq' ?_; refine GC.sr_ ?_
 iterate 2 refine GL.mv_ rfl rfl ?_
 refine GL.nl_ ?_; refine GC.block ?_; refine GC.loopK2 (ks := [1, 8]) (is := []) (js := []) (fun (k : Nat) (U : Value) => k ≤ n) (fun (k : Nat) (U : Value) => [(0, U), (9, .int .i64 (k : Int))]) (fun (k : Nat) (U : Value) => [.row U 5 1 (b.length + k) ((b ++ leN k v).map u8v)]) (fun (k : Nat) (U : Value) => []) (fun (k : Nat) (U : Value) => n - k) (0) (_) rfl rfl rfl (fun a w h => ⟨by omega, by simp only [leN, List.append_nil]; exact h.cutK (is := [0]) (js := []) (ks := [1, 8]) ⟨rfl, rfl, trivial⟩ rfl rfl rfl⟩) ?_
 intro k U hk
 try dsimp only [List.cons_append, List.nil_append] at hk ⊢
 refine GC.sr_ ?_; refine GL.pure rfl (p_lss rfl rfl) ?_; refine GL.nl_ ?_; refine GC.seq' ?_; refine GC.cond rfl (fun h1 => ?_) (fun h1 => ?_)
 ·try simp only [tst_] at h1
  refine GC.skip (?_ : GC _ _ _ _)
  refine GC.seq' ?_; refine GC.block ?_; refine GC.sr_ ?_; refine GL.mv_ rfl rfl ?_; refine GL.as_ rfl rfl ?_; refine GL.nl_ ?_; refine GC.region ?_
  iterate 3 refine GL.mv_ rfl rfl ?_
  refine GL.pure rfl (p_mul rfl rfl (w64 (by omega) (by omega))) ?_; refine GL.pure rfl (p_convR (t := 3) (r := ((8 * k : Nat) : Int)) (by rw [Tryz.underlying3]; simp) Tryz.underlying146 rfl (by rw [cvU (by omega) (by omega)]; omega)) ?_
  refine GL.pure rfl (p_shrR (r := ((v / 256 ^ k : Nat) : Int)) rfl rfl (by omega) (shr8 (by omega))) ?_; refine GL.pure rfl (p_convR (t := 23) (r := ((UInt8.ofNat (v / 256 ^ k % 256)).toNat : Int)) (by rw [Tryz.underlying23]; simp) Tryz.underlying5 rfl (wrapB _)) ?_
  refine GL.step rfl (t_buildSlice rfl Tryz.underlying25 sz_5 ze_5 rfl rfl rfl rfl rfl rfl) (GL.ex fun b_t19 => ?_); refine GL.step rfl (t_append (i := 1) (k := 0) rfl el_25 rfl rfl rfl rfl rfl (allOne_mem rfl) (by simp; omega) (fun _ => rfl)) (GL.ex fun v20 => ?_)
  refine GL.as_ rfl rfl ?_
  refine GL.nil (?_ : GC _ _ _ _)
  refine GC.region ?_; refine GL.pure rfl (p_add rfl rfl (w64 (by omega) (by omega))) ?_; refine GL.mv_ rfl rfl ?_; refine GL.nil ?_
  exact fun a w h => ⟨(k + 1), (v20), (by omega), by omega, by rw [leN_succ, ← List.append_assoc, List.map_append]; exact h.cut (is := [1]) (js := []) ⟨rfl, rfl, rfl, rfl, trivial⟩ rfl rfl⟩
 ·try simp only [tst_] at h1
  refine GC.exit (?_ : GC _ _ _ _)
  refine GC.seq' ?_
  obtain rfl : k = n := by omega
  refine GC.rowIs (i := 0) (m' := ((b ++ leN k v)).length) (cs' := ((b ++ leN k v)).map u8v) rfl (by first | (simp only [List.length_append, List.length_cons, List.length_nil, List.append_assoc]; done) | (simp only [List.length_append, List.length_cons, List.length_nil, List.append_assoc]; omega) | (simp [leN_length]; done) | (simp [leN_length]; omega) | rfl) (by first | (simp only [List.map_append, List.map_cons, List.map_nil, List.append_assoc]; done) | (simp [leN_length]; done) | rfl) rfl ?_
  refine GC.shape (i := 0) rfl (fun A_b c_b e_b l_b k_b => ?_)
  subst e_b
  refine GC.region ?_; refine GL.mv_ rfl rfl ?_; refine GL.as_ rfl rfl ?_
  refine GL.nil (?_ : GC _ _ _ _)
  refine GC.ret ?_
  refine fun a w h => Fin.back (rs := [.tmp 6]) (vs := [_]) (is := [0]) (js := []) rfl ⟨rfl, trivial⟩ rfl rfl ?_ h
  clear h
  exact ⟨_, _, l_b, k_b, rfl, rfl, rfl⟩
end Go.Proofs.YtdhdmbmknpjhbaaGreat
namespace Go.Proofs.YtdhdmbmknpjhbaaGreat
open Go Go.Sx Go.Proofs
abbrev uv (x : Nat) : Value := .int .u64 (x : Int)
abbrev kU : Kd Nat := Kd.sc uv (fun _ => rfl)
def flI (n : Nat) (l : List Nat) : List UInt8 := l.flatMap (leN n)
theorem flI_length (n : Nat) (l : List Nat) : (flI n l).length = n * l.length := by
  unfold flI
  induction l with
  | nil => simp
  | cons x r ih => rw [List.flatMap_cons, List.length_append, leN_length, ih, List.length_cons, Nat.mul_succ]; omega
theorem flI_take {n : Nat} {l : List Nat} {k : Nat} (h : k < l.length) : flI n (l.take (k + 1)) = flI n (l.take k) ++ leN n (gt l (k : Int)) := by
  unfold flI; rw [take_gt h, List.flatMap_append]; simp
theorem fits_ok (v n : Nat) (h : 1 ≤ n) (h' : n ≤ 8) (hv : v < 256 ^ n) : Ct Tryz.prog 119 [.int .u64 (v : Int), .int .i64 (n : Int)] [] [] (fun u G Q => u = .bool true ∧ G = [] ∧ Q = []) := by
  have h8 : 256 ^ n ≤ 256 ^ 8 := Nat.pow_le_pow_right (by decide) h'
  have := fits_ct v n h h' (by omega)
  rw [decide_eq_true hv] at this
  exact this
theorem nk_le {n k c : Nat} (hn : n ≤ 8) (hk : k ≤ c) : n * k ≤ 8 * c := Nat.mul_le_mul hn hk
theorem putall_ct (A : Option Addr) (b : List UInt8) (cp n : Nat) (L : Option Addr) (l : List Nat) (cl : Nat) (hn : 1 ≤ n) (hn' : n ≤ 8) (hb : b.length + 8 * l.length ≤ 100000000000000) (hl : ∀ x ∈ l, x < 256 ^ n) : Ct Tryz.prog 76 [.slice A b.length cp, .int .i64 (n : Int), .slice L l.length cl] [] [Pers.row Kd.u8 A b, Pers.row kU L l]
    (fun u G Q => ∃ A' cp', (b ++ flI n l).length ≤ cp' ∧ cp' ≤ 9223372036854775807 ∧ u = .tuple #[.slice A' (b ++ flI n l).length cp', .int .i64 0] ∧ G = [rowOf A' cp' (b ++ flI n l)] ∧ Q = []) := by
 refine Ct.intro Tryz.func76 rfl rfl rfl (fun c hc => ?_)
 refine GC.sr_ ?_
 iterate 2 refine GL.as_ rfl rfl ?_
 refine GL.nl_ ?_; refine GC.seq' ?_; refine GC.sr_ ?_; refine GL.mv_ rfl rfl ?_; refine GL.step rfl (t_call rfl fn_117 rfl (is := []) (js := []) rfl rfl (by exact sized_ok n hn hn')) (GL.ret ?_)
 rintro _ _ _ ⟨rfl, rfl, rfl⟩
 refine GL.pure rfl (p_not rfl) ?_; refine GL.nl_ ?_; refine GC.cond_false rfl ?_
 refine GC.skip (?_ : GC _ _ _ _)
 refine GC.sr_ ?_; refine GL.mv_ rfl rfl ?_; refine GL.step rfl (t_call rfl fn_118 rfl (is := []) (js := [0]) rfl rfl (by exact bclone_ct _ _ _ (by first | assumption | omega))) (GL.ret ?_)
 rintro _ _ _ ⟨A15, cp15, l15, k15, rfl, rfl, rfl⟩
 refine GL.as_ rfl rfl ?_; refine GL.nl_ ?_; refine GC.seq' ?_; refine GC.sr_ ?_; refine GL.mv_ rfl rfl ?_; refine GL.pure rfl (p_len Tryz.underlying126 rfl) ?_; refine GL.mv_ rfl rfl ?_; refine GL.nl_ ?_; refine GC.block ?_
 refine GC.loopK3 (ks := [1, 16, 17]) (is := []) (js := [0, 1]) (fun (k : Nat) (A1 : Option Addr) (c1 : Nat) => k ≤ l.length ∧ (b ++ flI n (l.take k)).length ≤ c1 ∧ c1 ≤ 9223372036854775807) (fun (k : Nat) (A1 : Option Addr) (c1 : Nat) => [(8, .slice A1 (b ++ flI n (l.take k)).length c1), (18, .int .i64 (k : Int))]) (fun (k : Nat) (A1 : Option Addr) (c1 : Nat) => [rowOf A1 c1 (b ++ flI n (l.take k))]) (fun (k : Nat) (A1 : Option Addr) (c1 : Nat) => []) (fun (k : Nat) (A1 : Option Addr) (c1 : Nat) => l.length - k) (0) (_) (_) rfl rfl rfl (fun a w h => ⟨⟨by omega, by simpa [flI] using l15, k15⟩, by simp only [flI, List.take_zero, List.flatMap_nil, List.append_nil]; exact h.cutK (is := [0]) (js := [0, 1]) (ks := [1, 16, 17]) ⟨rfl, rfl, trivial⟩ rfl rfl rfl⟩) ?_
 intro k A1 c1 hk
 try dsimp only [List.cons_append, List.nil_append] at hk ⊢
 obtain ⟨hk, hc1, hc2⟩ := hk
 refine GC.sr_ ?_; refine GL.pure rfl (p_lss rfl rfl) ?_; refine GL.nl_ ?_; refine GC.seq' ?_; refine GC.cond rfl (fun h1 => ?_) (fun h1 => ?_)
 ·try simp only [tst_] at h1
  refine GC.skip (?_ : GC _ _ _ _)
  refine GC.seq' ?_; refine GC.block ?_; refine GC.sr_ ?_; refine GL.step rfl (t_index (i := 1) rfl rfl rfl rfl Tryz.underlying126 sz_23 (by omega) (gt_ok (by omega) (by omega))) (GL.ex fun p_x20 => GL.ex fun r_x20 => GL.and fun ok_x20 => ?_)
  rcases r_x20 with _
  refine GL.step rfl (t_mem rfl (m_loadP (i := 0) rfl rfl ag_23 rfl)) ?_; refine GL.as_ rfl rfl ?_; refine GL.nl_ ?_; refine GC.seq' ?_; refine GC.sr_ ?_
  iterate 2 refine GL.mv_ rfl rfl ?_
  refine GL.step rfl (t_call rfl fn_119 rfl (is := []) (js := []) rfl rfl (by exact fits_ok (gt l (k : Int)) n hn hn' (hl _ (gt_elem (by omega))))) (GL.ret ?_)
  rintro _ _ _ ⟨rfl, rfl, rfl⟩
  refine GL.pure rfl (p_not rfl) ?_; refine GL.nl_ ?_; refine GC.cond_false rfl ?_
  refine GC.skip (?_ : GC _ _ _ _)
  refine GC.region ?_
  iterate 3 refine GL.mv_ rfl rfl ?_
  refine GL.step rfl (t_call rfl fn_120 rfl (is := [0]) (js := []) rfl rfl (by exact put8_ct A1 c1 (b ++ flI n (l.take k)) (gt l (k : Int)) n hn' (by rw [List.length_append, flI_length, List.length_take]; have := nk_le hn' (show min k l.length ≤ l.length by omega); omega))) (GL.ret ?_)
  rintro _ _ _ ⟨A29, cp29, l29, k29, rfl, rfl, rfl⟩
  refine GL.as_ rfl rfl ?_
  refine GL.nil (?_ : GC _ _ _ _)
  refine GC.region ?_; refine GL.pure rfl (p_add rfl rfl (w64 (by omega) (by omega))) ?_; refine GL.mv_ rfl rfl ?_; refine GL.nil ?_
  exact fun a w h => ⟨(k + 1), (A29), (cp29), (by omega), ⟨by omega, by rw [flI_take (by omega), ← List.append_assoc]; exact l29, k29⟩, by rw [flI_take (by omega), ← List.append_assoc]; exact h.cut (is := [0]) (js := [1, 2]) ⟨rfl, rfl, rfl, rfl, rfl, trivial⟩ rfl rfl⟩
 ·try simp only [tst_] at h1
  refine GC.exit (?_ : GC _ _ _ _)
  refine GC.sr_ ?_; refine GL.mv_ rfl rfl ?_
  iterate 2 refine GL.as_ rfl rfl ?_
  refine GL.nl_ ?_; refine GC.ret ?_
  refine fun a w h => Fin.back (rs := [.tmp 6, .tmp 7]) (vs := [_, _]) (is := [0]) (js := []) rfl ⟨rfl, rfl, trivial⟩ rfl rfl ?_ h
  clear h
  obtain rfl : k = l.length := by omega
  rw [List.take_length] at *
  exact ⟨_, _, hc1, hc2, rfl, rfl, rfl⟩
theorem flI_one (n v : Nat) : flI n [v] = leN n v := by simp [flI]
theorem oput_ct (A : Option Addr) (b : List UInt8) (cp v n : Nat) (hn : 1 ≤ n) (hn' : n ≤ 8) (hb : b.length ≤ 10000000000000) (hv : v < 256 ^ n) : Ct Tryz.prog 80 [.slice A b.length cp, .int .u64 (v : Int), .int .i64 (n : Int)] [] [Pers.row Kd.u8 A b]
    (fun u G Q => ∃ A' cp', (b ++ leN n v).length ≤ cp' ∧ cp' ≤ 9223372036854775807 ∧ u = .tuple #[.slice A' (b ++ leN n v).length cp', .int .i64 0] ∧ G = [rowOf A' cp' (b ++ leN n v)] ∧ Q = []) := by
 refine Ct.intro Tryz.func80 rfl rfl rfl (fun c hc => ?_)
 refine GC.sr_ ?_
 iterate 2 refine GL.as_ rfl rfl ?_
 refine GL.nl_ ?_; refine GC.sr_ ?_
 iterate 3 refine GL.mv_ rfl rfl ?_
 refine GL.step rfl (t_buildSlice rfl Tryz.underlying126 sz_23 ze_23 rfl rfl rfl rfl rfl rfl) (GL.ex fun b_t11 => ?_); refine GL.freezeC (enc := uv) (xs := [v]) (h1 := fun _ => rfl) (i := 0) rfl ?_; refine GL.step rfl (t_call rfl fn_76 rfl (is := []) (js := [1, 0]) rfl rfl (by exact putall_ct _ b _ n _ [v] _ hn hn' (by simp; omega) (by simpa using hv))) (GL.ret ?_)
 rintro _ _ _ ⟨A12, cp12, l12, k12, rfl, rfl, rfl⟩
 iterate 2 refine GL.pure rfl (p_extract rfl rfl) ?_
 iterate 2 refine GL.as_ rfl rfl ?_
 refine GL.nl_ ?_; refine GC.ret ?_
 refine fun a w h => Fin.back (rs := [.tmp 6, .tmp 7]) (vs := [_, _]) (is := [0]) (js := []) rfl ⟨rfl, rfl, trivial⟩ rfl rfl ?_ h
 clear h
 rw [flI_one] at *
 exact ⟨_, _, l12, k12, rfl, rfl, rfl⟩
theorem otext_ct (A : Option Addr) (b : List UInt8) (cp : Nat) (B : Option Addr) (s : List UInt8) (cq : Nat) (hb : b.length ≤ 10000000000000) (hs : s.length ≤ 16777216) : Ct Tryz.prog 82 [.slice A b.length cp, .slice B s.length cq] [] [Pers.row Kd.u8 A b, Pers.row Kd.u8 B s]
    (fun u G Q => ∃ A' cp', (b ++ leN 4 s.length ++ s).length ≤ cp' ∧ cp' ≤ 9223372036854775807 ∧ u = .tuple #[.slice A' (b ++ leN 4 s.length ++ s).length cp', .int .i64 0] ∧ G = [rowOf A' cp' (b ++ leN 4 s.length ++ s)] ∧ Q = []) := by
 refine Ct.intro Tryz.func82 rfl rfl rfl (fun c hc => ?_)
 refine GC.sr_ ?_
 iterate 2 refine GL.as_ rfl rfl ?_
 refine GL.nl_ ?_; refine GC.seq' ?_; refine GC.sr_ ?_; refine GL.mv_ rfl rfl ?_; refine GL.pure rfl (p_len Tryz.underlying25 rfl) ?_; refine GL.pure rfl (p_gtr rfl rfl) ?_; refine GL.nl_ ?_; refine GC.cond rfl (fun h1 => ?_) (fun h1 => ?_)
 ·try simp only [tst_] at h1
  first
  | (exfalso; omega)
  |(skip
    refine GC.sr_ ?_
    iterate 2 refine GL.as_ rfl rfl ?_
    refine GL.nl_ ?_; refine GC.ret ?_
    refine fun a w h => Fin.back (rs := [.tmp 4, .tmp 5]) (vs := [_, _]) (is := []) (js := []) rfl ⟨rfl, rfl, trivial⟩ rfl rfl ?_ h
    clear h
    skip)
 ·try simp only [tst_] at h1
  first
  | (exfalso; omega)
  |(skip
    refine GC.skip (?_ : GC _ _ _ _)
    refine GC.sr_ ?_; refine GL.mv_ rfl rfl ?_; refine GL.step rfl (t_call rfl fn_118 rfl (is := []) (js := [0]) rfl rfl (by exact bclone_ct _ _ _ (by first | assumption | omega))) (GL.ret ?_)
    rintro _ _ _ ⟨A10, cp10, l10, k10, rfl, rfl, rfl⟩
    refine GL.mv_ rfl rfl ?_; refine GL.pure rfl (p_len Tryz.underlying25 rfl) ?_; refine GL.pure rfl (p_convR (t := 3) (r := ((s.length : Nat) : Int)) (by rw [Tryz.underlying3]; simp) Tryz.underlying23 rfl (cvU (by omega) (by omega))) ?_
    refine GL.step rfl (t_call rfl fn_120 rfl (is := [0]) (js := []) rfl rfl (by exact put8_ct A10 cp10 b s.length 4 (by omega) (by omega))) (GL.ret ?_)
    rintro _ _ _ ⟨A14, cp14, l14, k14, rfl, rfl, rfl⟩
    refine GL.mv_ rfl rfl ?_; refine GL.step rfl (t_appendS (i := 0) (k := 1) rfl el_25 rfl rfl rfl rfl (by simp [leN_length]; omega) (fun _ => rfl)) (GL.ex fun v16 => ?_)
    refine GL.rowIs (i := 0) (m' := ((b ++ leN 4 s.length ++ s)).length) (cs' := ((b ++ leN 4 s.length ++ s)).map u8v) rfl (by first | (simp only [List.length_append, List.length_cons, List.length_nil, List.append_assoc]; done) | (simp only [List.length_append, List.length_cons, List.length_nil, List.append_assoc]; omega) | (simp [leN_length]; done) | (simp [leN_length]; omega) | rfl) (by first | (simp only [List.map_append, List.map_cons, List.map_nil, List.append_assoc]; done) | (simp [leN_length]; done) | rfl) rfl ?_
    refine GL.shape (i := 0) rfl (fun A_pt14 c_pt14 e_pt14 l_pt14 k_pt14 => ?_)
    subst e_pt14
    iterate 2 refine GL.as_ rfl rfl ?_
    refine GL.nl_ ?_; refine GC.ret ?_
    refine fun a w h => Fin.back (rs := [.tmp 4, .tmp 5]) (vs := [_, _]) (is := [0]) (js := []) rfl ⟨rfl, rfl, trivial⟩ rfl rfl ?_ h
    clear h
    exact ⟨_, _, l_pt14, k_pt14, rfl, rfl, rfl⟩)
theorem get_ok (A : Option Addr) (b : List UInt8) (cp at_ n : Nat) (hn : 1 ≤ n) (hn' : n ≤ 8) (hb : b.length ≤ cp) (hb' : b.length ≤ 200000000000000) (h : at_ + n ≤ b.length) : Ct Tryz.prog 91 [.slice A b.length cp, .int .i64 (at_ : Int), .int .i64 (n : Int)] [] [Pers.row Kd.u8 A b]
    (fun u G Q => u = .tuple #[.int .u64 ((valN (seg b at_ (at_ + n)) : Nat) : Int), .int .i64 ((at_ + n : Nat) : Int), .int .i64 0] ∧ G = [] ∧ Q = []) := by
 have hsl : (seg b at_ (at_ + n)).length = n := by rw [seg_length h]; omega
 refine Ct.intro Tryz.func91 rfl rfl rfl (fun c hc => ?_)
 refine GC.sr_ ?_
 iterate 3 refine GL.as_ rfl rfl ?_
 refine GL.nl_ ?_; refine GC.seq' ?_; refine GC.block ?_; refine GC.sr_ ?_; refine GL.mv_ rfl rfl ?_; refine GL.step rfl (t_call rfl fn_117 rfl (is := []) (js := []) rfl rfl (by exact sized_ok n hn hn')) (GL.ret ?_)
 rintro _ _ _ ⟨rfl, rfl, rfl⟩
 refine GL.pure rfl (p_not rfl) ?_; refine GL.as_ rfl rfl ?_; refine GL.nl_ ?_; refine GC.cond_false rfl ?_; refine GC.sr_ ?_; refine GL.mv_ rfl rfl ?_; refine GL.pure rfl (p_lss rfl rfl) ?_; refine GL.mv_ rfl rfl ?_; refine GL.split (i := 19) rfl (fun h1 => ?_) (fun h1 => ?_)
 ·try simp only [tst_] at h1
  first
  | (exfalso; omega)
  |(skip
    iterate 4 refine GL.pass (s := 19) rfl rfl rfl ?_
    refine GL.pure rfl (p_pick_true rfl rfl) ?_; refine GL.as_ rfl rfl ?_; refine GL.nl_ ?_; refine GC.cond_true rfl ?_; refine GC.sr_ ?_
    iterate 3 refine GL.as_ rfl rfl ?_
    refine GL.nl_ ?_; refine GC.ret ?_
    refine fun a w h => Fin.back (rs := [.tmp 6, .tmp 7, .tmp 8]) (vs := [_, _, _]) (is := []) (js := []) rfl ⟨rfl, rfl, rfl, trivial⟩ rfl rfl ?_ h
    clear h
    obtain rfl : k = (seg b at_ (at_ + n)).length := by omega
    rw [List.take_length]
    exact ⟨rfl, rfl, rfl⟩)
 ·try simp only [tst_] at h1
  first
  | (exfalso; omega)
  |(skip
    iterate 2 refine GL.pureG (s := 19) rfl rfl rfl (p_move rfl) ?_
    refine GL.pureG (s := 19) rfl rfl rfl (p_len Tryz.underlying25 rfl) ?_; refine GL.pureG (s := 19) rfl rfl rfl (p_gtr rfl rfl) ?_; refine GL.pure rfl (p_pick_false rfl rfl) ?_; refine GL.as_ rfl rfl ?_; refine GL.nl_ ?_
    refine GC.cond rfl (fun h2 => ?_) (fun h2 => ?_)
    ·try simp only [tst_] at h2
     first
     | (exfalso; omega)
     |(skip
       refine GC.sr_ ?_
       iterate 3 refine GL.as_ rfl rfl ?_
       refine GL.nl_ ?_; refine GC.ret ?_
       refine fun a w h => Fin.back (rs := [.tmp 6, .tmp 7, .tmp 8]) (vs := [_, _, _]) (is := []) (js := []) rfl ⟨rfl, rfl, rfl, trivial⟩ rfl rfl ?_ h
       clear h
       obtain rfl : k = (seg b at_ (at_ + n)).length := by omega
       rw [List.take_length]
       exact ⟨rfl, rfl, rfl⟩)
    ·try simp only [tst_] at h2
     first
     | (exfalso; omega)
     |(skip
       refine GC.sr_ ?_
       iterate 2 refine GL.mv_ rfl rfl ?_
       refine GL.pure rfl (p_len Tryz.underlying25 rfl) ?_; refine GL.mv_ rfl rfl ?_; refine GL.pure rfl (p_sub rfl rfl (w64 (by omega) (by omega))) ?_; refine GL.pure rfl (p_gtr rfl rfl) ?_; refine GL.as_ rfl rfl ?_; refine GL.nl_ ?_
       refine GC.cond rfl (fun h3 => ?_) (fun h3 => ?_)
       ·try simp only [tst_] at h3
        first
        | (exfalso; omega)
        |(skip
          refine GC.sr_ ?_
          iterate 3 refine GL.as_ rfl rfl ?_
          refine GL.nl_ ?_; refine GC.ret ?_
          refine fun a w h => Fin.back (rs := [.tmp 6, .tmp 7, .tmp 8]) (vs := [_, _, _]) (is := []) (js := []) rfl ⟨rfl, rfl, rfl, trivial⟩ rfl rfl ?_ h
          clear h
          obtain rfl : k = (seg b at_ (at_ + n)).length := by omega
          rw [List.take_length]
          exact ⟨rfl, rfl, rfl⟩)
       ·try simp only [tst_] at h3
        first
        | (exfalso; omega)
        |(skip
          refine GC.skip (?_ : GC _ _ _ _)
          refine GC.sr_ ?_; refine GL.as_ rfl rfl ?_; refine GL.nl_ ?_; refine GC.seq' ?_; refine GC.sr_ ?_
          iterate 4 refine GL.mv_ rfl rfl ?_
          refine GL.pure rfl (p_add rfl rfl (w64 (by omega) (by omega))) ?_; refine GL.step rfl (t_cut_lh (j := 0) rfl rfl rfl rfl rfl Tryz.underlying25 sz_5 (by omega) (by omega) (by omega) (by omega)) ?_
          rw [show ((at_ : Int)).toNat = at_ from rfl, show ((at_ : Int) + (n : Int)).toNat = at_ + n from rfl]
          refine GL.pure rfl (p_len Tryz.underlying25 rfl) ?_; refine GL.mv_ rfl rfl ?_; refine GL.nl_ ?_; refine GC.block ?_; refine GC.loopK1 (ks := [1, 2, 37, 38]) (is := []) (js := [0, 1]) (fun (k : Nat) => k ≤ n) (fun (k : Nat) => [(9, .int .u64 ((valN ((seg b at_ (at_ + n)).take k) : Nat) : Int)), (39, .int .i64 (k : Int))]) (fun (k : Nat) => []) (fun (k : Nat) => []) (fun (k : Nat) => n - k) (0) rfl rfl rfl (fun a w h => ⟨by omega, h.cutK (is := []) (js := [0, 1]) (ks := [1, 2, 37, 38]) ⟨rfl, rfl, trivial⟩ rfl rfl rfl⟩) ?_
          intro k hk
          try dsimp only [List.cons_append, List.nil_append] at hk ⊢
          refine GC.sr_ ?_; refine GL.pure rfl (p_lss rfl rfl) ?_; refine GL.nl_ ?_; refine GC.seq' ?_; refine GC.cond rfl (fun h4 => ?_) (fun h4 => ?_)
          ·try simp only [tst_] at h4
           first
           | (exfalso; omega)
           |(skip
             refine GC.skip (?_ : GC _ _ _ _)
             refine GC.seq' ?_; refine GC.block ?_; refine GC.sr_ ?_; refine GL.mv_ rfl rfl ?_; refine GL.step rfl (t_index (i := 0) rfl rfl rfl rfl Tryz.underlying25 sz_5 (by omega) (gt_ok (by omega) (by omega))) (GL.ex fun p_x42 => GL.ex fun r_x42 => GL.and fun ok_x42 => ?_)
             rcases r_x42 with _
             refine GL.step rfl (t_mem rfl (m_loadP (i := 0) rfl rfl ag_5 rfl)) ?_
             iterate 2 refine GL.as_ rfl rfl ?_
             refine GL.nl_ ?_; refine GC.region ?_
             iterate 2 refine GL.mv_ rfl rfl ?_
             refine GL.pure rfl (p_convR (t := 5) (r := (((gt (seg b at_ (at_ + n)) (k : Int)).toNat : Nat) : Int)) (by rw [Tryz.underlying5]; simp) Tryz.underlying23 rfl (cvU (by omega) (by have := (gt (seg b at_ (at_ + n)) (k : Int)).toNat_lt; omega))) ?_
             refine GL.mv_ rfl rfl ?_; refine GL.pure rfl (p_mul rfl rfl (w64 (by omega) (by omega))) ?_; refine GL.pure rfl (p_convR (t := 3) (r := ((8 * k : Nat) : Int)) (by rw [Tryz.underlying3]; simp) Tryz.underlying146 rfl (by rw [cvU (by omega) (by omega)]; omega)) ?_
             refine GL.pure rfl (p_shlR (r := (((gt (seg b at_ (at_ + n)) (k : Int)).toNat * 256 ^ k : Nat) : Int)) rfl rfl (by omega) (shl8 (by omega) (gt (seg b at_ (at_ + n)) (k : Int)).toNat_lt)) ?_; refine GL.pure rfl (p_orR (r := ((valN ((seg b at_ (at_ + n)).take k) + (gt (seg b at_ (at_ + n)) (k : Int)).toNat * 256 ^ k : Nat) : Int)) rfl rfl (or8 (by omega) (by have := valN_lt ((seg b at_ (at_ + n)).take k); rwa [List.length_take, Nat.min_eq_left (by omega)] at this) (gt (seg b at_ (at_ + n)) (k : Int)).toNat_lt)) ?_
             refine GL.as_ rfl rfl ?_
             refine GL.nil (?_ : GC _ _ _ _)
             refine GC.region ?_; refine GL.pure rfl (p_add rfl rfl (w64 (by omega) (by omega))) ?_; refine GL.mv_ rfl rfl ?_; refine GL.nil ?_
             exact fun a w h => ⟨(k + 1), (by omega), by omega, by rw [take_gt (by omega), valN_snoc, List.length_take, Nat.min_eq_left (by omega)]; exact h.cut (is := []) (js := [1, 2]) ⟨rfl, rfl, rfl, rfl, rfl, rfl, trivial⟩ rfl rfl⟩)
          ·try simp only [tst_] at h4
           first
           | (exfalso; omega)
           |(skip
             refine GC.exit (?_ : GC _ _ _ _)
             refine GC.sr_ ?_
             iterate 3 refine GL.mv_ rfl rfl ?_
             refine GL.pure rfl (p_add rfl rfl (w64 (by omega) (by omega))) ?_
             iterate 3 refine GL.as_ rfl rfl ?_
             refine GL.nl_ ?_; refine GC.ret ?_
             refine fun a w h => Fin.back (rs := [.tmp 6, .tmp 7, .tmp 8]) (vs := [_, _, _]) (is := []) (js := []) rfl ⟨rfl, rfl, rfl, trivial⟩ rfl rfl ?_ h
             clear h
             obtain rfl : k = (seg b at_ (at_ + n)).length := by omega
             rw [List.take_length]
             exact ⟨rfl, rfl, rfl⟩))))
theorem get_short (A : Option Addr) (b : List UInt8) (cp at_ n : Nat) (hn : 1 ≤ n) (hn' : n ≤ 8) (hb' : b.length ≤ 140737488355328) (h1_ : at_ ≤ b.length) (h : b.length < at_ + n) : Ct Tryz.prog 91 [.slice A b.length cp, .int .i64 (at_ : Int), .int .i64 (n : Int)] [] [Pers.row Kd.u8 A b]
    (fun u G Q => u = .tuple #[.int .u64 0, .int .i64 0, .int .i64 10] ∧ G = [] ∧ Q = []) := by
 refine Ct.intro Tryz.func91 rfl rfl rfl (fun c hc => ?_)
 refine GC.sr_ ?_
 iterate 3 refine GL.as_ rfl rfl ?_
 refine GL.nl_ ?_; refine GC.seq' ?_; refine GC.block ?_; refine GC.sr_ ?_; refine GL.mv_ rfl rfl ?_; refine GL.step rfl (t_call rfl fn_117 rfl (is := []) (js := []) rfl rfl (by exact sized_ok n hn hn')) (GL.ret ?_)
 rintro _ _ _ ⟨rfl, rfl, rfl⟩
 refine GL.pure rfl (p_not rfl) ?_; refine GL.as_ rfl rfl ?_; refine GL.nl_ ?_; refine GC.cond_false rfl ?_; refine GC.sr_ ?_; refine GL.mv_ rfl rfl ?_; refine GL.pure rfl (p_lss rfl rfl) ?_; refine GL.mv_ rfl rfl ?_; refine GL.split (i := 19) rfl (fun h1 => ?_) (fun h1 => ?_)
 ·try simp only [tst_] at h1
  first
  | (exfalso; omega)
  |(skip
    iterate 4 refine GL.pass (s := 19) rfl rfl rfl ?_
    refine GL.pure rfl (p_pick_true rfl rfl) ?_; refine GL.as_ rfl rfl ?_; refine GL.nl_ ?_; refine GC.cond_true rfl ?_; refine GC.sr_ ?_
    iterate 3 refine GL.as_ rfl rfl ?_
    refine GL.nl_ ?_; refine GC.ret ?_
    refine fun a w h => Fin.back (rs := [.tmp 6, .tmp 7, .tmp 8]) (vs := [_, _, _]) (is := []) (js := []) rfl ⟨rfl, rfl, rfl, trivial⟩ rfl rfl ?_ h
    clear h
    exact ⟨rfl, rfl, rfl⟩)
 ·try simp only [tst_] at h1
  first
  | (exfalso; omega)
  |(skip
    iterate 2 refine GL.pureG (s := 19) rfl rfl rfl (p_move rfl) ?_
    refine GL.pureG (s := 19) rfl rfl rfl (p_len Tryz.underlying25 rfl) ?_; refine GL.pureG (s := 19) rfl rfl rfl (p_gtr rfl rfl) ?_; refine GL.pure rfl (p_pick_false rfl rfl) ?_; refine GL.as_ rfl rfl ?_; refine GL.nl_ ?_
    refine GC.cond rfl (fun h2 => ?_) (fun h2 => ?_)
    ·try simp only [tst_] at h2
     first
     | (exfalso; omega)
     |(skip
       refine GC.sr_ ?_
       iterate 3 refine GL.as_ rfl rfl ?_
       refine GL.nl_ ?_; refine GC.ret ?_
       refine fun a w h => Fin.back (rs := [.tmp 6, .tmp 7, .tmp 8]) (vs := [_, _, _]) (is := []) (js := []) rfl ⟨rfl, rfl, rfl, trivial⟩ rfl rfl ?_ h
       clear h
       exact ⟨rfl, rfl, rfl⟩)
    ·try simp only [tst_] at h2
     first
     | (exfalso; omega)
     |(skip
       refine GC.sr_ ?_
       iterate 2 refine GL.mv_ rfl rfl ?_
       refine GL.pure rfl (p_len Tryz.underlying25 rfl) ?_; refine GL.mv_ rfl rfl ?_; refine GL.pure rfl (p_sub rfl rfl (w64 (by omega) (by omega))) ?_; refine GL.pure rfl (p_gtr rfl rfl) ?_; refine GL.as_ rfl rfl ?_; refine GL.nl_ ?_
       refine GC.cond rfl (fun h3 => ?_) (fun h3 => ?_)
       ·try simp only [tst_] at h3
        first
        | (exfalso; omega)
        |(skip
          refine GC.sr_ ?_
          iterate 3 refine GL.as_ rfl rfl ?_
          refine GL.nl_ ?_; refine GC.ret ?_
          refine fun a w h => Fin.back (rs := [.tmp 6, .tmp 7, .tmp 8]) (vs := [_, _, _]) (is := []) (js := []) rfl ⟨rfl, rfl, rfl, trivial⟩ rfl rfl ?_ h
          clear h
          exact ⟨rfl, rfl, rfl⟩)
       ·try simp only [tst_] at h3
        exfalso; omega))
end Go.Proofs.YtdhdmbmknpjhbaaGreat
namespace Go.Proofs.YtdhdmbmknpjhbaaGreat
open Go Go.Sx Go.Proofs
theorem bequal_ct (A : Option Addr) (x : List UInt8) (cp : Nat) (B : Option Addr) (y : List UInt8) (cq : Nat) (hl : x.length ≤ 140737488355328) : Ct Tryz.prog 128 [.slice A x.length cp, .slice B y.length cq] [] [Pers.row Kd.u8 A x, Pers.row Kd.u8 B y] (fun u G Q => u = .bool (decide (x = y)) ∧ G = [] ∧ Q = []) := by
 refine Ct.intro Tryz.func128 rfl rfl rfl (fun c hc => ?_)
 refine GC.sr_ ?_; refine GL.as_ rfl rfl ?_; refine GL.nl_ ?_; refine GC.seq' ?_; refine GC.sr_ ?_; refine GL.mv_ rfl rfl ?_; refine GL.pure rfl (p_len Tryz.underlying25 rfl) ?_; refine GL.mv_ rfl rfl ?_; refine GL.pure rfl (p_len Tryz.underlying25 rfl) ?_
 refine GL.pure rfl (p_neq rfl rfl) ?_; refine GL.nl_ ?_; refine GC.cond rfl (fun h1 => ?_) (fun h1 => ?_)
 ·try simp only [tst_] at h1
  refine GC.sr_ ?_; refine GL.as_ rfl rfl ?_; refine GL.nl_ ?_; refine GC.ret ?_
  refine fun a w h => Fin.back (rs := [.tmp 4]) (vs := [_]) (is := []) (js := []) rfl ⟨rfl, trivial⟩ rfl rfl ?_ h
  clear h
  exact ⟨congrArg Value.bool (decide_eq_false fun e => by subst e; omega).symm, rfl, rfl⟩
 ·try simp only [tst_] at h1
  refine GC.skip (?_ : GC _ _ _ _)
  refine GC.seq' ?_; refine GC.sr_ ?_; refine GL.mv_ rfl rfl ?_; refine GL.pure rfl (p_len Tryz.underlying25 rfl) ?_; refine GL.mv_ rfl rfl ?_; refine GL.nl_ ?_; refine GC.block ?_; refine GC.loopK1 (ks := [0, 1, 12]) (is := []) (js := [0, 1]) (fun (k : Nat) => k ≤ x.length ∧ ∀ j : Nat, j < k → gt x (j : Int) = gt y (j : Int)) (fun (k : Nat) => [(13, .int .i64 (k : Int))]) (fun (k : Nat) => []) (fun (k : Nat) => []) (fun (k : Nat) => x.length - k) (0) rfl rfl rfl (fun a w h => ⟨⟨by omega, fun j hj => by omega⟩, h.cutK (is := []) (js := [0, 1]) (ks := [0, 1, 12]) ⟨rfl, trivial⟩ rfl rfl rfl⟩) ?_
  intro k hk
  try dsimp only [List.cons_append, List.nil_append] at hk ⊢
  obtain ⟨hk, he⟩ := hk
  refine GC.sr_ ?_; refine GL.pure rfl (p_lss rfl rfl) ?_; refine GL.nl_ ?_; refine GC.seq' ?_; refine GC.cond rfl (fun h2 => ?_) (fun h2 => ?_)
  ·try simp only [tst_] at h2
   refine GC.skip (?_ : GC _ _ _ _)
   refine GC.seq' ?_; refine GC.block ?_; refine GC.sr_ ?_; refine GL.mv_ rfl rfl ?_; refine GL.as_ rfl rfl ?_; refine GL.nl_ ?_; refine GC.seq' ?_; refine GC.layQ (y := .tmp 5) (j := 0) rfl rfl (by omega) (gt_ok (by omega) (by omega)) (fun p_x18 r_x18 hA_x18 ok_x18 => ?_)
   rcases r_x18 with _
   refine GC.layQ (y := .tmp 5) (j := 2) rfl rfl (by omega) (gt_ok (by omega) (by omega)) (fun p_x22 r_x22 hA_x22 ok_x22 => ?_)
   rcases r_x22 with _
   refine GC.regionQ wide_ (by kernel_rfl) ?_
   iterate 2 refine GQ.step rfl (q_pure (p_move rfl)) ?_
   refine GQ.step rfl (q_pure (p_indexL hA_x18 rfl rfl Tryz.underlying25 sz_5 (by omega) (by omega))) ?_; refine GQ.step rfl (q_mem (m_loadP (i := 1) rfl rfl ag_5 rfl)) ?_
   iterate 2 refine GQ.step rfl (q_pure (p_move rfl)) ?_
   refine GQ.step rfl (q_pure (p_indexL hA_x22 rfl rfl Tryz.underlying25 sz_5 (by omega) (by omega))) ?_; refine GQ.step rfl (q_mem (m_loadP (i := 0) rfl rfl ag_5 rfl)) ?_; refine GQ.step rfl (q_pure (p_neq rfl rfl)) ?_
   refine GQ.nil (?_ : GC _ _ _ _)
   refine GC.cond rfl (fun h3 => ?_) (fun h3 => ?_)
   ·try simp only [tst_] at h3
    refine GC.sr_ ?_; refine GL.as_ rfl rfl ?_; refine GL.nl_ ?_; refine GC.ret ?_
    refine fun a w h => Fin.back (rs := [.tmp 4]) (vs := [_]) (is := []) (js := []) rfl ⟨rfl, trivial⟩ rfl rfl ?_ h
    clear h
    exact ⟨congrArg Value.bool (decide_eq_false (fun e => by subst e; omega)).symm, rfl, rfl⟩
   ·try simp only [tst_] at h3
    refine GC.skip (?_ : GC _ _ _ _)
    refine GC.region ?_; refine GL.pure rfl (p_add rfl rfl (w64 (by omega) (by omega))) ?_; refine GL.mv_ rfl rfl ?_; refine GL.nil ?_
    exact fun a w h => ⟨(k + 1), (by omega), ⟨by omega, fun j hj => (Nat.lt_succ_iff_lt_or_eq.1 hj).elim (he j) (fun e => by subst e; exact UInt8.toNat_inj.1 (by omega))⟩, h.cut (is := []) (js := [2, 3]) ⟨rfl, rfl, rfl, rfl, trivial⟩ rfl rfl⟩
  ·try simp only [tst_] at h2
   refine GC.exit (?_ : GC _ _ _ _)
   refine GC.sr_ ?_; refine GL.as_ rfl rfl ?_; refine GL.nl_ ?_; refine GC.ret ?_
   refine fun a w h => Fin.back (rs := [.tmp 4]) (vs := [_]) (is := []) (js := []) rfl ⟨rfl, trivial⟩ rfl rfl ?_ h
   clear h
   exact ⟨congrArg Value.bool (decide_eq_true (ext_gtI (by omega) fun j hj => he j (by omega))).symm, rfl, rfl⟩
theorem leN4 (v : Nat) : leN 4 v = [UInt8.ofNat (v % 256), UInt8.ofNat (v / 256 ^ 1 % 256), UInt8.ofNat (v / 256 ^ 2 % 256), UInt8.ofNat (v / 256 ^ 3 % 256)] := by
  simp [leN, Nat.div_div_eq_div_mul]
abbrev crcB (b : List UInt8) : BitVec 32 := moreB 0#32 b
def sealB (b : List UInt8) : List UInt8 := b ++ leN 4 (crcB b).toNat
theorem sealB_len (b : List UInt8) : (sealB b).length = b.length + 4 := by simp [sealB, leN_length]
theorem shr1 (v : Nat) : (v : Int).fdiv (2 ^ (min (8 : Int).toNat IntKind.u32.bits)) = ((v / 256 ^ 1 : Nat) : Int) := by
  rw [show min (8 : Int).toNat IntKind.u32.bits = 8 from rfl, ← fdivN]; rfl
theorem shr2 (v : Nat) : (v : Int).fdiv (2 ^ (min (16 : Int).toNat IntKind.u32.bits)) = ((v / 256 ^ 2 : Nat) : Int) := by
  rw [show min (16 : Int).toNat IntKind.u32.bits = 16 from rfl, ← fdivN]; rfl
theorem shr3 (v : Nat) : (v : Int).fdiv (2 ^ (min (24 : Int).toNat IntKind.u32.bits)) = ((v / 256 ^ 3 : Nat) : Int) := by
  rw [show min (24 : Int).toNat IntKind.u32.bits = 24 from rfl, ← fdivN]; rfl
theorem cseal_ct (A : Option Addr) (b : List UInt8) (cp : Nat) (s : BitVec 32) (hb : b.length ≤ 10000000000000) : Ct Tryz.prog 124 [.slice A b.length cp, w32 s] [] [Pers.row Kd.u8 A b]
    (fun u G Q => ∃ A' cp', (b ++ leN 4 s.toNat).length ≤ cp' ∧ cp' ≤ 9223372036854775807 ∧ u = .slice A' (b ++ leN 4 s.toNat).length cp' ∧ G = [rowOf A' cp' (b ++ leN 4 s.toNat)] ∧ Q = []) := by
 refine Ct.intro Tryz.func124 rfl rfl rfl (fun c hc => ?_)
 refine GC.sr_ ?_; refine GL.as_ rfl rfl ?_; refine GL.nl_ ?_; refine GC.sr_ ?_; refine GL.mv_ rfl rfl ?_; refine GL.step rfl (t_call rfl fn_118 rfl (is := []) (js := [0]) rfl rfl (by exact bclone_ct _ _ _ (by first | assumption | omega))) (GL.ret ?_)
 rintro _ _ _ ⟨A6, cp6, l6, k6, rfl, rfl, rfl⟩
 refine GL.mv_ rfl rfl ?_; refine GL.pure rfl (p_convR (t := 144) (by rw [Tryz.underlying144]; simp) Tryz.underlying5 rfl (wrapB _)) ?_
 refine GL.mv_ rfl rfl ?_; refine GL.pure rfl (p_shrR rfl rfl (by decide) (shr1 _)) ?_; refine GL.pure rfl (p_convR (t := 144) (by rw [Tryz.underlying144]; simp) Tryz.underlying5 rfl (wrapB _)) ?_
 refine GL.mv_ rfl rfl ?_; refine GL.pure rfl (p_shrR rfl rfl (by decide) (shr2 _)) ?_; refine GL.pure rfl (p_convR (t := 144) (by rw [Tryz.underlying144]; simp) Tryz.underlying5 rfl (wrapB _)) ?_
 refine GL.mv_ rfl rfl ?_; refine GL.pure rfl (p_shrR rfl rfl (by decide) (shr3 _)) ?_; refine GL.pure rfl (p_convR (t := 144) (by rw [Tryz.underlying144]; simp) Tryz.underlying5 rfl (wrapB _)) ?_
 refine GL.step rfl (t_buildSlice rfl Tryz.underlying25 sz_5 ze_5 rfl rfl rfl rfl rfl rfl) (GL.ex fun b_t18 => ?_); refine GL.step rfl (t_append (i := 1) (k := 0) rfl el_25 rfl rfl rfl rfl rfl (allOne_mem rfl) (by simp; omega) (fun _ => rfl)) (GL.ex fun v19 => ?_)
 refine GL.rowIs (i := 1) (m' := ((b ++ leN 4 s.toNat)).length) (cs' := ((b ++ leN 4 s.toNat)).map u8v) rfl (by first | (simp only [List.length_append, List.length_cons, List.length_nil, List.append_assoc]; done) | (simp only [List.length_append, List.length_cons, List.length_nil, List.append_assoc]; omega) | (simp [leN4]; done) | (simp [leN4]; omega) | rfl) (by first | (simp only [List.map_append, List.map_cons, List.map_nil, List.append_assoc]; done) | (simp [leN4]; done) | rfl) rfl ?_
 refine GL.shape (i := 1) rfl (fun A_cl6 c_cl6 e_cl6 l_cl6 k_cl6 => ?_)
 subst e_cl6
 refine GL.as_ rfl rfl ?_; refine GL.nl_ ?_; refine GC.ret ?_
 refine fun a w h => Fin.back (rs := [.tmp 4]) (vs := [_]) (is := [1]) (js := []) rfl ⟨rfl, trivial⟩ rfl rfl ?_ h
 clear h
 exact ⟨_, _, l_cl6, k_cl6, rfl, rfl, rfl⟩
end Go.Proofs.YtdhdmbmknpjhbaaGreat
