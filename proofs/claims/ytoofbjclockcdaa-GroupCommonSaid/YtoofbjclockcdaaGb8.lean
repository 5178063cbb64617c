/- GROUPS: each member leads once in turn: plain words, and the walk of the law. -/
import Derived.Test.YtoofbjclockcdaaGb7
set_option linter.unusedVariables false
set_option linter.unusedSimpArgs false
set_option maxRecDepth 100000
namespace Go.Proofs.Ytoofbjclockcdaa
open Go Go.Sx Go.Proofs
def accT (l : List Int) (view : Int) : Nat → List Int
  | 0 => []
  | k + 1 => accT l view k ++ [gt l ((view + (k : Int)) % (l.length : Int))]
theorem accT_len (l : List Int) (view : Int) (k : Nat) : (accT l view k).length = k := by
  induction k with
  | zero => rfl
  | succ k ih => simp [accT, ih]
theorem accT_mem {l : List Int} {view : Int} {x : Int} : ∀ {k : Nat}, x ∈ accT l view k → ∃ j, j < k ∧ x = gt l ((view + ((j : Nat) : Int)) % (l.length : Int))
  | 0, h => by simp [accT] at h
  | k + 1, h => by
    rw [accT, List.mem_append, List.mem_singleton] at h
    rcases h with h | h
    · obtain ⟨j, hj, e⟩ := accT_mem h
      exact ⟨j, by omega, e⟩
    · exact ⟨k, by omega, h⟩
theorem gt_inj {l : List Int} (h : l.Pairwise (· < ·)) {i j : Nat} (hi : i < l.length) (hj : j < l.length) (e : gt l (i : Int) = gt l (j : Int)) : i = j := by
  rw [gt_get hi, gt_get hj] at e
  have := List.pairwise_iff_getElem.1 h
  rcases Nat.lt_trichotomy i j with g | g | g
  · have := this i j hi hj g; omega
  · exact g
  · have := this j i hj hi g; omega
theorem accT_new {e : Int} {l : List Int} {view : Int} {k : Nat} (hg : groupOk e l = true) (hk : k < l.length) : gt l ((view + (k : Int)) % (l.length : Int)) ∉ accT l view k := fun hm => by
  obtain ⟨j, hj, e1⟩ := accT_mem hm
  have hl := grp_len hg
  have m0 := Int.emod_nonneg (view + (k : Int)) (show (l.length : Int) ≠ 0 by omega)
  have m1 := Int.emod_lt_of_pos (view + (k : Int)) (show 0 < (l.length : Int) by omega)
  have n0 := Int.emod_nonneg (view + (j : Int)) (show (l.length : Int) ≠ 0 by omega)
  have n1 := Int.emod_lt_of_pos (view + (j : Int)) (show 0 < (l.length : Int) by omega)
  obtain ⟨p, hp⟩ := Int.eq_ofNat_of_zero_le m0
  obtain ⟨q, hq⟩ := Int.eq_ofNat_of_zero_le n0
  rw [hp, hq] at e1
  have := gt_inj (grp_mem hg).2 (by omega) (by omega) e1
  have e2 : (view + (k : Int)) % (l.length : Int) = (view + (j : Int)) % (l.length : Int) := by rw [hp, hq, this]
  have e3 := (Int.emod_eq_emod_iff_emod_sub_eq_zero).1 e2
  have e4 := Int.dvd_of_emod_eq_zero e3
  have e5 : view + (k : Int) - (view + (j : Int)) = ((k - j : Nat) : Int) := by omega
  rw [e5] at e4
  have := Int.le_of_dvd (by omega) e4
  omega
theorem groupTurns_ct (e : Int) (A : Option Addr) (l : List Int) (cp : Nat) (view : Int) (hl : l.length ≤ cp) :
    Ct Try.prog 4 [grpV e A l.length cp, .int .i64 view] [] [Pers.row kI A l] (fun u G Q => u = .bool true ∧ G = [] ∧ Q = []) := by
  have q1 : (l.take 100).length ≤ 140737488355328 := by simp; omega
  refine Ct.intro Try.func4 rfl rfl rfl (fun c hc => ?_)
  refine GC.seq' ?_
  refine GC.region ?_
  refine GL.step rfl (t_box rfl rfl rfl) (GL.ex fun b_t2 => ?_)
  refine GL.pure rfl (p_assign rfl) ?_
  refine GL.nil (?_ : GC _ _ _ _)
  refine GC.seq' ?_
  refine GC.seq' ?_
  refine GC.region ?_
  refine GL.step rfl (t_call rfl fn_13 rfl (is := []) (js := []) rfl rfl (by exact awake_ct)) (GL.ret ?_)
  rintro _ _ _ ⟨rfl, rfl, rfl⟩
  refine GL.pure rfl (p_not rfl) ?_
  refine GL.nil (?_ : GC _ _ _ _)
  refine GC.cond_false rfl ?_
  refine GC.skip (?_ : GC _ _ _ _)
  refine GC.seq' ?_
  refine GC.region ?_
  refine GL.step rfl (t_mem rfl (m_loadN (i := 0) rfl rfl ag_24 (vs := [_, _]) sz_24 ⟨rfl, rfl, trivial⟩)) ?_
  refine GL.step rfl (t_call rfl fn_8 rfl (is := []) (js := [0]) rfl rfl (by exact cut_ct _ _ _ _ (by first | assumption | omega))) (GL.ret ?_)
  rintro _ _ _ ⟨A12, cp12, rfl, rfl, rfl⟩
  refine GL.step rfl (t_storeN (i := 0) rfl rfl rfl sz_24 rfl rfl rfl) ?_
  refine GL.nil (?_ : GC _ _ _ _)
  refine GC.seq' ?_
  refine GC.seq' ?_
  refine GC.region ?_
  refine GL.step rfl (t_mem rfl (m_loadN (i := 0) rfl rfl ag_24 (vs := [_, _]) sz_24 ⟨rfl, rfl, trivial⟩)) ?_
  refine GL.step rfl (t_call rfl fn_14 rfl (is := []) (js := [0]) rfl rfl (by exact rcheck_ct _ _ (l.take 100) _ q1)) (GL.ret ?_)
  rintro _ _ _ ⟨rfl, rfl, rfl⟩
  refine GL.pure rfl (p_neq rfl rfl) ?_
  refine GL.pure rfl (p_move rfl) ?_
  refine GL.split (i := 16) rfl (fun h1 => ?_) (fun h1 => ?_)
  · try simp only [decide_eq_true_eq, decide_eq_false_iff_not, Bool.not_eq_true', Bool.not_eq_false', Bool.not_true, Bool.not_false, Bool.not_not, ne_eq, Decidable.not_not, Int.not_lt, Int.not_le, gt_iff_lt, ge_iff_le, bool_true_eq_, bool_false_eq_, chkE_iff] at h1
    first
    | (exfalso; first | omega | (simp at h1; done) | (rw [hpr] at h1; exact h1 rfl) | exact accT_new hg (by omega) h1 | exact h1 hmem)
    | (skip
       refine GL.pass (s := 16) rfl rfl rfl ?_
       refine GL.pass (s := 16) rfl rfl rfl ?_
       refine GL.pure rfl (p_pick_true rfl rfl) ?_
       refine GL.pure rfl (p_move rfl) ?_
       refine GL.pass (s := 20) rfl rfl rfl ?_
       refine GL.pass (s := 20) rfl rfl rfl ?_
       refine GL.pure rfl (p_pick_true rfl rfl) ?_
       refine GL.nil (?_ : GC _ _ _ _)
       refine GC.cond_true rfl ?_
       refine GC.seq' ?_
       refine GC.region ?_
       refine GL.pure rfl (p_assign rfl) ?_
       refine GL.nil (?_ : GC _ _ _ _)
       refine GC.ret ?_
       refine fun a w h => Fin.back (rs := [.tmp 4]) (vs := [_]) (is := []) (js := []) rfl ⟨rfl, trivial⟩ rfl rfl ?_ h
       clear h
       exact ⟨rfl, rfl, rfl⟩)
  · try simp only [decide_eq_true_eq, decide_eq_false_iff_not, Bool.not_eq_true', Bool.not_eq_false', Bool.not_true, Bool.not_false, Bool.not_not, ne_eq, Decidable.not_not, Int.not_lt, Int.not_le, gt_iff_lt, ge_iff_le, bool_true_eq_, bool_false_eq_, chkE_iff] at h1
    first
    | (exfalso; first | omega | (simp at h1; done) | (rw [hpr] at h1; exact h1 rfl) | exact accT_new hg (by omega) h1 | exact h1 hmem)
    | (skip
       refine GL.pureG (s := 16) rfl rfl rfl (p_move rfl) ?_
       refine GL.pureG (s := 16) rfl rfl rfl (p_lss rfl rfl) ?_
       refine GL.pure rfl (p_pick_false rfl rfl) ?_
       refine GL.pure rfl (p_move rfl) ?_
       refine GL.split (i := 20) rfl (fun h2 => ?_) (fun h2 => ?_)
       · try simp only [decide_eq_true_eq, decide_eq_false_iff_not, Bool.not_eq_true', Bool.not_eq_false', Bool.not_true, Bool.not_false, Bool.not_not, ne_eq, Decidable.not_not, Int.not_lt, Int.not_le, gt_iff_lt, ge_iff_le, bool_true_eq_, bool_false_eq_, chkE_iff] at h2
         first
         | (exfalso; first | omega | (simp at h2; done) | (rw [hpr] at h2; exact h2 rfl) | exact accT_new hg (by omega) h2 | exact h2 hmem)
         | (skip
            refine GL.pass (s := 20) rfl rfl rfl ?_
            refine GL.pass (s := 20) rfl rfl rfl ?_
            refine GL.pure rfl (p_pick_true rfl rfl) ?_
            refine GL.nil (?_ : GC _ _ _ _)
            refine GC.cond_true rfl ?_
            refine GC.seq' ?_
            refine GC.region ?_
            refine GL.pure rfl (p_assign rfl) ?_
            refine GL.nil (?_ : GC _ _ _ _)
            refine GC.ret ?_
            refine fun a w h => Fin.back (rs := [.tmp 4]) (vs := [_]) (is := []) (js := []) rfl ⟨rfl, trivial⟩ rfl rfl ?_ h
            clear h
            exact ⟨rfl, rfl, rfl⟩)
       · try simp only [decide_eq_true_eq, decide_eq_false_iff_not, Bool.not_eq_true', Bool.not_eq_false', Bool.not_true, Bool.not_false, Bool.not_not, ne_eq, Decidable.not_not, Int.not_lt, Int.not_le, gt_iff_lt, ge_iff_le, bool_true_eq_, bool_false_eq_, chkE_iff] at h2
         first
         | (exfalso; first | omega | (simp at h2; done) | (rw [hpr] at h2; exact h2 rfl) | exact accT_new hg (by omega) h2 | exact h2 hmem)
         | (skip
            refine GL.pureG (s := 20) rfl rfl rfl (p_move rfl) ?_
            refine GL.pureG (s := 20) rfl rfl rfl (p_gtr rfl rfl) ?_
            refine GL.pure rfl (p_pick_false rfl rfl) ?_
            refine GL.nil (?_ : GC _ _ _ _)
            refine GC.cond rfl (fun h3 => ?_) (fun h3 => ?_)
            · try simp only [decide_eq_true_eq, decide_eq_false_iff_not, Bool.not_eq_true', Bool.not_eq_false', Bool.not_true, Bool.not_false, Bool.not_not, ne_eq, Decidable.not_not, Int.not_lt, Int.not_le, gt_iff_lt, ge_iff_le, bool_true_eq_, bool_false_eq_, chkE_iff] at h3
              first
              | (exfalso; first | omega | (simp at h3; done) | (rw [hpr] at h3; exact h3 rfl) | exact accT_new hg (by omega) h3 | exact h3 hmem)
              | (skip
                 refine GC.seq' ?_
                 refine GC.region ?_
                 refine GL.pure rfl (p_assign rfl) ?_
                 refine GL.nil (?_ : GC _ _ _ _)
                 refine GC.ret ?_
                 refine fun a w h => Fin.back (rs := [.tmp 4]) (vs := [_]) (is := []) (js := []) rfl ⟨rfl, trivial⟩ rfl rfl ?_ h
                 clear h
                 exact ⟨rfl, rfl, rfl⟩)
            · try simp only [decide_eq_true_eq, decide_eq_false_iff_not, Bool.not_eq_true', Bool.not_eq_false', Bool.not_true, Bool.not_false, Bool.not_not, ne_eq, Decidable.not_not, Int.not_lt, Int.not_le, gt_iff_lt, ge_iff_le, bool_true_eq_, bool_false_eq_, chkE_iff] at h3
              first
              | (exfalso; first | omega | (simp at h3; done) | (rw [hpr] at h3; exact h3 rfl) | exact accT_new hg (by omega) h3 | exact h3 hmem)
              | (skip
                 refine GC.skip (?_ : GC _ _ _ _)
                 refine GC.seq' ?_
                 refine GC.region ?_
                 have hg : groupOk e (l.take 100) = true := by assumption
                 have hl9 := grp_len hg
                 refine GL.pure rfl (p_assign rfl) ?_
                 refine GL.nil (?_ : GC _ _ _ _)
                 refine GC.seq' ?_
                 refine GC.seq' ?_
                 refine GC.region ?_
                 refine GL.nilrow 3 1 ?_
                 refine GL.pure rfl (p_assign rfl) ?_
                 refine GL.nil (?_ : GC _ _ _ _)
                 refine GC.block ?_
                 refine GC.loopK3 (ks := [1, 2]) (is := [1]) (js := [0, 1]) (fun (k : Nat) (A1 : Option Addr) (c1 : Nat) => k ≤ (l.take 100).length) (fun (k : Nat) (A1 : Option Addr) (c1 : Nat) => [(5, .slice A1 (accT (l.take 100) view k).length c1), (6, .int .i64 (k : Int))]) (fun (k : Nat) (A1 : Option Addr) (c1 : Nat) => [.row (.slice A1 (accT (l.take 100) view k).length c1) 3 1 (accT (l.take 100) view k).length ((accT (l.take 100) view k).map iv)]) (fun (k : Nat) (A1 : Option Addr) (c1 : Nat) => []) (fun (k : Nat) (A1 : Option Addr) (c1 : Nat) => (l.take 100).length - k) (0) (none) (0) rfl rfl rfl (fun a w h => ⟨by omega, h.cutK (is := [0, 0]) (js := [0, 1]) (ks := [1, 2]) ⟨rfl, rfl, trivial⟩ rfl rfl rfl⟩) ?_
                 intro k A1 c1 hk
                 try dsimp only [List.cons_append, List.nil_append] at hk ⊢
                 refine GC.seq' ?_
                 refine GC.seq' ?_
                 refine GC.region ?_
                 refine GL.pure rfl (p_move rfl) ?_
                 refine GL.pure rfl (p_fieldAddr fo_24_1 rfl) ?_
                 refine GL.step rfl (t_mem rfl (m_load (i := 1) rfl rfl ag_22 rfl)) ?_
                 refine GL.pure rfl (p_len Try.underlying22 rfl) ?_
                 refine GL.pure rfl (p_lss rfl rfl) ?_
                 refine GL.nil (?_ : GC _ _ _ _)
                 refine GC.cond rfl (fun h4 => ?_) (fun h4 => ?_)
                 · try simp only [decide_eq_true_eq, decide_eq_false_iff_not, Bool.not_eq_true', Bool.not_eq_false', Bool.not_true, Bool.not_false, Bool.not_not, ne_eq, Decidable.not_not, Int.not_lt, Int.not_le, gt_iff_lt, ge_iff_le, bool_true_eq_, bool_false_eq_, chkE_iff] at h4
                   first
                   | (exfalso; first | omega | (simp at h4; done) | (rw [hpr] at h4; exact h4 rfl) | exact accT_new hg (by omega) h4 | exact h4 hmem)
                   | (skip
                      refine GC.skip (?_ : GC _ _ _ _)
                      refine GC.seq' ?_
                      refine GC.block ?_
                      refine GC.seq' ?_
                      refine GC.region ?_
                      have hpr : primF e (l.take 100) (view + (k : Int)) = (gt (l.take 100) ((view + (k : Int)) % ((l.take 100).length : Int)), 0) := primF_yes hg (by omega)
                      have m0 := Int.emod_nonneg (view + (k : Int)) (show ((l.take 100).length : Int) ≠ 0 by omega)
                      have m1 := Int.emod_lt_of_pos (view + (k : Int)) (show 0 < ((l.take 100).length : Int) by omega)
                      have hmem : gt (l.take 100) ((view + (k : Int)) % ((l.take 100).length : Int)) ∈ l.take 100 := by
                        obtain ⟨p, hp⟩ := Int.eq_ofNat_of_zero_le m0
                        rw [hp]; exact gt_memI (by omega)
                      refine GL.step rfl (t_mem rfl (m_loadN (i := 1) rfl rfl ag_24 (vs := [_, _]) sz_24 ⟨rfl, rfl, trivial⟩)) ?_
                      refine GL.pure rfl (p_move rfl) ?_
                      refine GL.pure rfl (p_move rfl) ?_
                      refine GL.pure rfl (p_add rfl rfl (w64 (by omega) (by omega))) ?_
                      refine GL.step rfl (t_call rfl fn_15 rfl (is := []) (js := [0]) rfl rfl (by exact prim_ct _ _ (l.take 100) _ (view + (k : Int)) q1)) (GL.ret ?_)
                      rintro _ _ _ ⟨rfl, rfl, rfl⟩
                      refine GL.pure rfl (p_move rfl) ?_
                      refine GL.pure rfl (p_extract rfl rfl) ?_
                      refine GL.pure rfl (p_extract rfl rfl) ?_
                      refine GL.pure rfl (p_assign rfl) ?_
                      refine GL.pure rfl (p_assign rfl) ?_
                      refine GL.nil (?_ : GC _ _ _ _)
                      refine GC.seq' ?_
                      refine GC.seq' ?_
                      refine GC.region ?_
                      rw [hpr]
                      dsimp only
                      refine GL.pure rfl (p_move rfl) ?_
                      refine GL.pure rfl (p_neq rfl rfl) ?_
                      refine GL.pure rfl (p_move rfl) ?_
                      refine GL.split (i := 41) rfl (fun h5 => ?_) (fun h5 => ?_)
                      · try simp only [decide_eq_true_eq, decide_eq_false_iff_not, Bool.not_eq_true', Bool.not_eq_false', Bool.not_true, Bool.not_false, Bool.not_not, ne_eq, Decidable.not_not, Int.not_lt, Int.not_le, gt_iff_lt, ge_iff_le, bool_true_eq_, bool_false_eq_, chkE_iff] at h5
                        first
                        | (exfalso; first | omega | (simp at h5; done) | (rw [hpr] at h5; exact h5 rfl) | exact accT_new hg (by omega) h5 | exact h5 hmem)
                        | (skip
                           refine GL.pass (s := 41) rfl rfl rfl ?_
                           refine GL.pass (s := 41) rfl rfl rfl ?_
                           skip
                           refine GL.pass (s := 41) rfl rfl rfl ?_
                           refine GL.pure rfl (p_pick_true rfl rfl) ?_
                           refine GL.pure rfl (p_move rfl) ?_
                           refine GL.pass (s := 46) rfl rfl rfl ?_
                           refine GL.pass (s := 46) rfl rfl rfl ?_
                           refine GL.pass (s := 46) rfl rfl rfl ?_
                           refine GL.pass (s := 46) rfl rfl rfl ?_
                           refine GL.pure rfl (p_pick_true rfl rfl) ?_
                           refine GL.nil (?_ : GC _ _ _ _)
                           refine GC.cond_true rfl ?_
                           refine GC.seq' ?_
                           refine GC.region ?_
                           refine GL.pure rfl (p_assign rfl) ?_
                           refine GL.nil (?_ : GC _ _ _ _)
                           refine GC.ret ?_
                           refine fun a w h => Fin.back (rs := [.tmp 4]) (vs := [_]) (is := []) (js := []) rfl ⟨rfl, trivial⟩ rfl rfl ?_ h
                           clear h
                           exact ⟨rfl, rfl, rfl⟩)
                      · try simp only [decide_eq_true_eq, decide_eq_false_iff_not, Bool.not_eq_true', Bool.not_eq_false', Bool.not_true, Bool.not_false, Bool.not_not, ne_eq, Decidable.not_not, Int.not_lt, Int.not_le, gt_iff_lt, ge_iff_le, bool_true_eq_, bool_false_eq_, chkE_iff] at h5
                        first
                        | (exfalso; first | omega | (simp at h5; done) | (rw [hpr] at h5; exact h5 rfl) | exact accT_new hg (by omega) h5 | exact h5 hmem)
                        | (skip
                           refine GL.pureG (s := 41) rfl rfl rfl (p_move rfl) ?_
                           refine GL.pureG (s := 41) rfl rfl rfl (p_move rfl) ?_
                           skip
                           refine GL.stepG rfl (s := 41) rfl rfl (t_lend rfl fn_16 rfl (is := []) (ls := [0]) (js := []) rfl rfl rfl (lendI) (by exact in_ct _ (accT (l.take 100) view k) _ _ (by rw [accT_len]; omega)) (by rintro _ _ _ ⟨rfl, rfl, rfl⟩; rfl)) (GL.retL ?_)
                           rintro _ _ ⟨rfl, rfl, _⟩
                           refine GL.pure rfl (p_pick_false rfl rfl) ?_
                           refine GL.pure rfl (p_move rfl) ?_
                           refine GL.split (i := 46) rfl (fun h6 => ?_) (fun h6 => ?_)
                           · try simp only [decide_eq_true_eq, decide_eq_false_iff_not, Bool.not_eq_true', Bool.not_eq_false', Bool.not_true, Bool.not_false, Bool.not_not, ne_eq, Decidable.not_not, Int.not_lt, Int.not_le, gt_iff_lt, ge_iff_le, bool_true_eq_, bool_false_eq_, chkE_iff] at h6
                             first
                             | (exfalso; first | omega | (simp at h6; done) | (rw [hpr] at h6; exact h6 rfl) | exact accT_new hg (by omega) h6 | exact h6 hmem)
                             | (skip
                                refine GL.pass (s := 46) rfl rfl rfl ?_
                                refine GL.pass (s := 46) rfl rfl rfl ?_
                                refine GL.pass (s := 46) rfl rfl rfl ?_
                                refine GL.pass (s := 46) rfl rfl rfl ?_
                                refine GL.pure rfl (p_pick_true rfl rfl) ?_
                                refine GL.nil (?_ : GC _ _ _ _)
                                refine GC.cond_true rfl ?_
                                refine GC.seq' ?_
                                refine GC.region ?_
                                refine GL.pure rfl (p_assign rfl) ?_
                                refine GL.nil (?_ : GC _ _ _ _)
                                refine GC.ret ?_
                                refine fun a w h => Fin.back (rs := [.tmp 4]) (vs := [_]) (is := []) (js := []) rfl ⟨rfl, trivial⟩ rfl rfl ?_ h
                                clear h
                                exact ⟨rfl, rfl, rfl⟩)
                           · try simp only [decide_eq_true_eq, decide_eq_false_iff_not, Bool.not_eq_true', Bool.not_eq_false', Bool.not_true, Bool.not_false, Bool.not_not, ne_eq, Decidable.not_not, Int.not_lt, Int.not_le, gt_iff_lt, ge_iff_le, bool_true_eq_, bool_false_eq_, chkE_iff] at h6
                             first
                             | (exfalso; first | omega | (simp at h6; done) | (rw [hpr] at h6; exact h6 rfl) | exact accT_new hg (by omega) h6 | exact h6 hmem)
                             | (skip
                                refine GL.stepG rfl (s := 46) rfl rfl (t_mem rfl (m_loadN (i := 1) rfl rfl ag_24 (vs := [_, _]) sz_24 ⟨rfl, rfl, trivial⟩)) ?_
                                refine GL.pureG (s := 46) rfl rfl rfl (p_move rfl) ?_
                                refine GL.stepG rfl (s := 46) rfl rfl (t_call rfl fn_17 rfl (is := []) (js := [0]) rfl rfl (by exact has_ct _ _ (l.take 100) _ _ q1)) (GL.ret ?_)
                                rintro _ _ _ ⟨rfl, rfl, rfl⟩
                                refine GL.pureG (s := 46) rfl rfl rfl (p_not rfl) ?_
                                refine GL.pure rfl (p_pick_false rfl rfl) ?_
                                refine GL.nil (?_ : GC _ _ _ _)
                                refine GC.cond rfl (fun h7 => ?_) (fun h7 => ?_)
                                · try simp only [decide_eq_true_eq, decide_eq_false_iff_not, Bool.not_eq_true', Bool.not_eq_false', Bool.not_true, Bool.not_false, Bool.not_not, ne_eq, Decidable.not_not, Int.not_lt, Int.not_le, gt_iff_lt, ge_iff_le, bool_true_eq_, bool_false_eq_, chkE_iff] at h7
                                  first
                                  | (exfalso; first | omega | (simp at h7; done) | (rw [hpr] at h7; exact h7 rfl) | exact accT_new hg (by omega) h7 | exact h7 hmem)
                                  | (skip
                                     refine GC.seq' ?_
                                     refine GC.region ?_
                                     refine GL.pure rfl (p_assign rfl) ?_
                                     refine GL.nil (?_ : GC _ _ _ _)
                                     refine GC.ret ?_
                                     refine fun a w h => Fin.back (rs := [.tmp 4]) (vs := [_]) (is := []) (js := []) rfl ⟨rfl, trivial⟩ rfl rfl ?_ h
                                     clear h
                                     exact ⟨rfl, rfl, rfl⟩)
                                · try simp only [decide_eq_true_eq, decide_eq_false_iff_not, Bool.not_eq_true', Bool.not_eq_false', Bool.not_true, Bool.not_false, Bool.not_not, ne_eq, Decidable.not_not, Int.not_lt, Int.not_le, gt_iff_lt, ge_iff_le, bool_true_eq_, bool_false_eq_, chkE_iff] at h7
                                  first
                                  | (exfalso; first | omega | (simp at h7; done) | (rw [hpr] at h7; exact h7 rfl) | exact accT_new hg (by omega) h7 | exact h7 hmem)
                                  | (skip
                                     refine GC.skip (?_ : GC _ _ _ _)
                                     refine GC.region ?_
                                     refine GL.pure rfl (p_move rfl) ?_
                                     refine GL.pure rfl (p_move rfl) ?_
                                     refine GL.step rfl (t_buildSlice rfl Try.underlying22 sz_3 ze_3 rfl rfl rfl rfl rfl rfl) (GL.ex fun b_t54 => ?_)
                                     refine GL.step rfl (t_append (i := 1) (k := 0) rfl el_22 rfl rfl rfl rfl rfl (allOne_mem rfl) (by have := accT_len (l.take 100) view k; omega) (fun _ => rfl)) (GL.ex fun v55 => ?_)
                                     refine GL.shape (i := 1) rfl (fun A_v55 c_v55 e_v55 l_v55 k_v55 => ?_)
                                     subst e_v55
                                     refine GL.pure rfl (p_assign rfl) ?_
                                     refine GL.nil (?_ : GC _ _ _ _)
                                     refine GC.region ?_
                                     refine GL.pure rfl (p_move rfl) ?_
                                     refine GL.pure rfl (p_add rfl rfl (w64 (by omega) (by omega))) ?_
                                     refine GL.pure rfl (p_assign rfl) ?_
                                     refine GL.nil ?_
                                     exact fun a w h => ⟨(k + 1), (A_v55), (c_v55), (by omega), by omega, by rw [accT, List.length_append, List.map_append]; exact h.cut (is := [1, 1]) (js := [0, 1]) ⟨rfl, rfl, rfl, rfl, trivial⟩ rfl rfl⟩))))
                 · try simp only [decide_eq_true_eq, decide_eq_false_iff_not, Bool.not_eq_true', Bool.not_eq_false', Bool.not_true, Bool.not_false, Bool.not_not, ne_eq, Decidable.not_not, Int.not_lt, Int.not_le, gt_iff_lt, ge_iff_le, bool_true_eq_, bool_false_eq_, chkE_iff] at h4
                   first
                   | (exfalso; first | omega | (simp at h4; done) | (rw [hpr] at h4; exact h4 rfl) | exact accT_new hg (by omega) h4 | exact h4 hmem)
                   | (skip
                      refine GC.exit (?_ : GC _ _ _ _)
                      refine GC.seq' ?_
                      refine GC.region ?_
                      refine GL.pure rfl (p_assign rfl) ?_
                      refine GL.nil (?_ : GC _ _ _ _)
                      refine GC.ret ?_
                      refine fun a w h => Fin.back (rs := [.tmp 4]) (vs := [_]) (is := []) (js := []) rfl ⟨rfl, trivial⟩ rfl rfl ?_ h
                      clear h
                      exact ⟨rfl, rfl, rfl⟩))))
end Go.Proofs.Ytoofbjclockcdaa
