/- GROUPS: the group of the next epoch: the reference's walk; both tell the same. -/
import Derived.Test.YtoofbjclockcdaaGb4
set_option linter.unusedVariables false
set_option linter.unusedSimpArgs false
set_option maxRecDepth 100000
namespace Go.Proofs.Ytoofbjclockcdaa
open Go Go.Sx Go.Proofs
def wantP (l add drop : List Int) (n : Int) : Prop := (n ∈ l ∨ n ∈ add) ∧ n ∉ drop
instance (l add drop : List Int) (n : Int) : Decidable (wantP l add drop n) := by unfold wantP; infer_instance
def outR (l add drop : List Int) : Nat → List Int
  | 0 => []
  | k + 1 => outR l add drop k ++ (if wantP l add drop (k : Int) then [(k : Int)] else [])
theorem outR_le (l add drop : List Int) (k : Nat) : (outR l add drop k).length ≤ k := by
  induction k with
  | zero => simp [outR]
  | succ k ih => simp only [outR, List.length_append]; split <;> simp <;> omega
def badP (drop : List Int) (x : Int) : Prop := (x < 0 ∨ x ≥ 64) ∧ x ∉ drop
instance (drop : List Int) (x : Int) : Decidable (badP drop x) := by unfold badP; infer_instance
def nextR (e : Int) (l add drop : List Int) : Int × List Int × Int :=
  if groupOk e l = true then
    if e ≥ 4611686018427387904 then (0, [], 130)
    else if ∃ x ∈ add, badP drop x then (0, [], 130)
    else if groupOk (e + 1) (outR l add drop 64) = true then (e + 1, outR l add drop 64, 0) else (0, [], 130)
  else (0, [], 130)
theorem rnext_ct (e : Int) (A : Option Addr) (l : List Int) (cp : Nat) (B : Option Addr) (add : List Int) (cq : Nat) (D : Option Addr) (drop : List Int) (cr : Nat) (hl : l.length ≤ 1000000) (ha : add.length ≤ 1000000) (hd : drop.length ≤ 1000000) :
    Ct Try.prog 11 [grpV e A l.length cp, .slice B add.length cq, .slice D drop.length cr] [] [Pers.row kI A l, Pers.row kI B add, Pers.row kI D drop]
      (fun u G Q => ∃ R cs, u = nextV (nextR e l add drop) R cs ∧ G = [] ∧ Q = [Pers.row kI R (nextR e l add drop).2.1]) := by
  refine Ct.intro Try.func11 rfl rfl rfl (fun c hc => ?_)
  refine GC.know (q := Pers.row kI none []) (fun _ _ _ => .inl rfl) ?_
  refine GC.seq' ?_
  refine GC.region ?_
  refine GL.step rfl (t_box rfl rfl rfl) (GL.ex fun b_t3 => ?_)
  refine GL.step rfl (t_alloc rfl ze_24) (GL.ex fun b_t6 => ?_)
  refine GL.pure rfl (p_assign rfl) ?_
  refine GL.nil (?_ : GC _ _ _ _)
  refine GC.seq' ?_
  refine GC.region ?_
  refine GL.step rfl (t_mem rfl (m_loadN (i := 1) rfl rfl ag_24 (vs := [_, _]) sz_24 ⟨rfl, rfl, trivial⟩)) ?_
  refine GL.step rfl (t_call rfl fn_14 rfl (is := []) (js := [1]) rfl rfl (by exact rcheck_ct _ _ _ _ (by first | assumption | omega))) (GL.ret ?_)
  rintro _ _ _ ⟨rfl, rfl, rfl⟩
  refine GL.pure rfl (p_assign rfl) ?_
  refine GL.nil (?_ : GC _ _ _ _)
  refine GC.seq' ?_
  refine GC.seq' ?_
  refine GC.region ?_
  refine GL.pure rfl (p_move rfl) ?_
  refine GL.pure rfl (p_neq rfl rfl) ?_
  refine GL.nil (?_ : GC _ _ _ _)
  refine GC.cond rfl (fun h1 => ?_) (fun h1 => ?_)
  · try simp only [decide_eq_true_eq, decide_eq_false_iff_not, Bool.not_eq_true', Bool.not_eq_false', Bool.not_true, Bool.not_false, Bool.not_not, ne_eq, Decidable.not_not, Int.not_lt, Int.not_le, gt_iff_lt, ge_iff_le, bool_true_eq_, bool_false_eq_, chkE_iff] at h1
    first
    | (exfalso; first | omega | (simp at h1; done))
    | (skip
       refine GC.seq' ?_
       refine GC.region ?_
       refine GL.pure rfl (p_build ze_24 of_24 rfl rfl) ?_
       refine GL.pure rfl (p_move rfl) ?_
       refine GL.step rfl (t_storeN (i := 0) rfl rfl rfl sz_24 rfl rfl rfl) ?_
       refine GL.pure rfl (p_assign rfl) ?_
       refine GL.nil (?_ : GC _ _ _ _)
       refine GC.ret ?_
       refine fun a w h => Fin.back (rs := [.cell 6 24, .tmp 7]) (vs := [_, _]) (is := []) (js := [0]) rfl ⟨⟨0, _, _, _, _, rfl, rfl, .inr ⟨[_, _], rfl, ag_24, sz_24, ⟨rfl, rfl, trivial⟩⟩⟩, rfl, trivial⟩ rfl rfl ?_ h
       clear h
       have e1 : nextR e l add drop = (0, [], 130) := by unfold nextR; rw [if_neg (by assumption)]
       rw [e1]; exact ⟨none, 0, by rw [show chkE e l = 130 from if_neg (by assumption)]; rfl, rfl, rfl⟩)
  · try simp only [decide_eq_true_eq, decide_eq_false_iff_not, Bool.not_eq_true', Bool.not_eq_false', Bool.not_true, Bool.not_false, Bool.not_not, ne_eq, Decidable.not_not, Int.not_lt, Int.not_le, gt_iff_lt, ge_iff_le, bool_true_eq_, bool_false_eq_, chkE_iff] at h1
    first
    | (exfalso; first | omega | (simp at h1; done))
    | (skip
       refine GC.skip (?_ : GC _ _ _ _)
       refine GC.seq' ?_
       refine GC.seq' ?_
       refine GC.region ?_
       have hg := grp_len (by assumption : groupOk e l = true)
       refine GL.pure rfl (p_fieldAddr fo_24_0 rfl) ?_
       refine GL.step rfl (t_mem rfl (m_load (i := 1) rfl rfl ag_3 rfl)) ?_
       refine GL.pure rfl (p_geq rfl rfl) ?_
       refine GL.nil (?_ : GC _ _ _ _)
       refine GC.cond rfl (fun h2 => ?_) (fun h2 => ?_)
       · try simp only [decide_eq_true_eq, decide_eq_false_iff_not, Bool.not_eq_true', Bool.not_eq_false', Bool.not_true, Bool.not_false, Bool.not_not, ne_eq, Decidable.not_not, Int.not_lt, Int.not_le, gt_iff_lt, ge_iff_le, bool_true_eq_, bool_false_eq_, chkE_iff] at h2
         first
         | (exfalso; first | omega | (simp at h2; done))
         | (skip
            refine GC.seq' ?_
            refine GC.region ?_
            refine GL.pure rfl (p_build ze_24 of_24 rfl rfl) ?_
            refine GL.step rfl (t_storeN (i := 0) rfl rfl rfl sz_24 rfl rfl rfl) ?_
            refine GL.pure rfl (p_assign rfl) ?_
            refine GL.nil (?_ : GC _ _ _ _)
            refine GC.ret ?_
            refine fun a w h => Fin.back (rs := [.cell 6 24, .tmp 7]) (vs := [_, _]) (is := []) (js := [0]) rfl ⟨⟨0, _, _, _, _, rfl, rfl, .inr ⟨[_, _], rfl, ag_24, sz_24, ⟨rfl, rfl, trivial⟩⟩⟩, rfl, trivial⟩ rfl rfl ?_ h
            clear h
            have e1 : nextR e l add drop = (0, [], 130) := by unfold nextR; rw [if_pos (by assumption), if_pos (by omega)]
            rw [e1]; exact ⟨none, 0, rfl, rfl, rfl⟩)
       · try simp only [decide_eq_true_eq, decide_eq_false_iff_not, Bool.not_eq_true', Bool.not_eq_false', Bool.not_true, Bool.not_false, Bool.not_not, ne_eq, Decidable.not_not, Int.not_lt, Int.not_le, gt_iff_lt, ge_iff_le, bool_true_eq_, bool_false_eq_, chkE_iff] at h2
         first
         | (exfalso; first | omega | (simp at h2; done))
         | (skip
            refine GC.skip (?_ : GC _ _ _ _)
            refine GC.seq' ?_
            refine GC.region ?_
            refine GL.pure rfl (p_fieldAddr fo_24_0 rfl) ?_
            refine GL.step rfl (t_mem rfl (m_load (i := 1) rfl rfl ag_3 rfl)) ?_
            refine GL.pure rfl (p_add rfl rfl (w64 (by omega) (by omega))) ?_
            refine GL.pure rfl (p_build ze_24 of_24 rfl rfl) ?_
            refine GL.step rfl (t_alloc rfl ze_24) (GL.ex fun b_t9 => ?_)
            refine GL.step rfl (t_storeN (i := 0) rfl rfl rfl sz_24 rfl rfl rfl) ?_
            refine GL.nil (?_ : GC _ _ _ _)
            refine GC.seq' ?_
            refine GC.seq' ?_
            refine GC.region ?_
            refine GL.pure rfl (p_assign rfl) ?_
            refine GL.nil (?_ : GC _ _ _ _)
            refine GC.block ?_
            refine GC.loopK1 (ks := [1, 2, 3, 6, 9]) (is := [0, 1, 2]) (js := [0, 1, 2, 3]) (fun (k : Nat) => k ≤ add.length ∧ ∀ j : Nat, j < k → ¬ badP drop (gt add (j : Int))) (fun (k : Nat) => [(10, .int .i64 (k : Int))]) (fun (k : Nat) => []) (fun (k : Nat) => []) (fun (k : Nat) => add.length - k) (0) rfl rfl rfl (fun a w h => ⟨⟨by omega, fun j hj => by omega⟩, h.cutK (is := [0, 0, 0]) (js := [0, 1, 2, 3]) (ks := [1, 2, 3, 6, 9]) ⟨rfl, trivial⟩ rfl rfl rfl⟩) ?_
            intro k hk
            try dsimp only [List.cons_append, List.nil_append] at hk ⊢
            refine GC.seq' ?_
            refine GC.seq' ?_
            refine GC.region ?_
            refine GL.pure rfl (p_move rfl) ?_
            refine GL.pure rfl (p_move rfl) ?_
            refine GL.pure rfl (p_len Try.underlying22 rfl) ?_
            refine GL.pure rfl (p_lss rfl rfl) ?_
            refine GL.nil (?_ : GC _ _ _ _)
            refine GC.cond rfl (fun h3 => ?_) (fun h3 => ?_)
            · try simp only [decide_eq_true_eq, decide_eq_false_iff_not, Bool.not_eq_true', Bool.not_eq_false', Bool.not_true, Bool.not_false, Bool.not_not, ne_eq, Decidable.not_not, Int.not_lt, Int.not_le, gt_iff_lt, ge_iff_le, bool_true_eq_, bool_false_eq_, chkE_iff] at h3
              first
              | (exfalso; first | omega | (simp at h3; done))
              | (skip
                 refine GC.skip (?_ : GC _ _ _ _)
                 refine GC.seq' ?_
                 refine GC.block ?_
                 refine GC.seq' ?_
                 refine GC.region ?_
                 refine GL.pure rfl (p_move rfl) ?_
                 refine GL.pure rfl (p_move rfl) ?_
                 refine GL.step rfl (t_index (i := 2) rfl rfl rfl rfl Try.underlying22 sz_3 (by omega) (gt_ok (by omega) (by omega))) (GL.ex fun p_x34 => GL.ex fun r_x34 => GL.and fun ok_x34 => ?_)
                 rcases r_x34 with _
                 refine GL.step rfl (t_mem rfl (m_loadP (i := 0) rfl rfl ag_3 rfl)) ?_
                 refine GL.pure rfl (p_lss rfl rfl) ?_
                 refine GL.pure rfl (p_move rfl) ?_
                 refine GL.split (i := 37) rfl (fun h4 => ?_) (fun h4 => ?_)
                 · try simp only [decide_eq_true_eq, decide_eq_false_iff_not, Bool.not_eq_true', Bool.not_eq_false', Bool.not_true, Bool.not_false, Bool.not_not, ne_eq, Decidable.not_not, Int.not_lt, Int.not_le, gt_iff_lt, ge_iff_le, bool_true_eq_, bool_false_eq_, chkE_iff] at h4
                   first
                   | (exfalso; first | omega | (simp at h4; done))
                   | (skip
                      refine GL.pass (s := 37) rfl rfl rfl ?_
                      refine GL.pass (s := 37) rfl rfl rfl ?_
                      refine GL.pass (s := 37) rfl rfl rfl ?_
                      refine GL.pass (s := 37) rfl rfl rfl ?_
                      refine GL.pass (s := 37) rfl rfl rfl ?_
                      refine GL.pure rfl (p_pick_true rfl rfl) ?_
                      refine GL.pure rfl (p_move rfl) ?_
                      refine GL.pureG (s := 44) rfl rfl rfl (p_move rfl) ?_
                      refine GL.pureG (s := 44) rfl rfl rfl (p_move rfl) ?_
                      refine GL.pureG (s := 44) rfl rfl rfl (p_move rfl) ?_
                      refine GL.stepG rfl (s := 44) rfl rfl (t_index (i := 3) rfl rfl rfl rfl Try.underlying22 sz_3 (by omega) (gt_ok (by omega) (by omega))) (GL.ex fun p_x48 => GL.ex fun r_x48 => GL.and fun ok_x48 => ?_)
                      rcases r_x48 with _
                      refine GL.stepG rfl (s := 44) rfl rfl (t_mem rfl (m_loadP (i := 0) rfl rfl ag_3 rfl)) ?_
                      refine GL.stepG rfl (s := 44) rfl rfl (t_call rfl fn_16 rfl (is := []) (js := [5]) rfl rfl (by exact in_ct _ _ _ _ (by first | assumption | omega))) (GL.ret ?_)
                      rintro _ _ _ ⟨rfl, rfl, rfl⟩
                      refine GL.pureG (s := 44) rfl rfl rfl (p_not rfl) ?_
                      refine GL.pure rfl (p_pick_true rfl rfl) ?_
                      refine GL.nil (?_ : GC _ _ _ _)
                      refine GC.cond rfl (fun h5 => ?_) (fun h5 => ?_)
                      · try simp only [decide_eq_true_eq, decide_eq_false_iff_not, Bool.not_eq_true', Bool.not_eq_false', Bool.not_true, Bool.not_false, Bool.not_not, ne_eq, Decidable.not_not, Int.not_lt, Int.not_le, gt_iff_lt, ge_iff_le, bool_true_eq_, bool_false_eq_, chkE_iff] at h5
                        first
                        | (exfalso; first | omega | (simp at h5; done))
                        | (skip
                           refine GC.seq' ?_
                           refine GC.region ?_
                           refine GL.pure rfl (p_build ze_24 of_24 rfl rfl) ?_
                           refine GL.step rfl (t_storeN (i := 1) rfl rfl rfl sz_24 rfl rfl rfl) ?_
                           refine GL.pure rfl (p_assign rfl) ?_
                           refine GL.nil (?_ : GC _ _ _ _)
                           refine GC.ret ?_
                           refine fun a w h => Fin.back (rs := [.cell 6 24, .tmp 7]) (vs := [_, _]) (is := []) (js := [2]) rfl ⟨⟨1, _, _, _, _, rfl, rfl, .inr ⟨[_, _], rfl, ag_24, sz_24, ⟨rfl, rfl, trivial⟩⟩⟩, rfl, trivial⟩ rfl rfl ?_ h
                           clear h
                           have e1 : nextR e l add drop = (0, [], 130) := by unfold nextR; rw [if_pos (by assumption), if_neg (by omega), if_pos ⟨gt add (k : Int), gt_memI (by omega), by omega, by assumption⟩]
                           rw [e1]; exact ⟨none, 0, rfl, rfl, rfl⟩)
                      · try simp only [decide_eq_true_eq, decide_eq_false_iff_not, Bool.not_eq_true', Bool.not_eq_false', Bool.not_true, Bool.not_false, Bool.not_not, ne_eq, Decidable.not_not, Int.not_lt, Int.not_le, gt_iff_lt, ge_iff_le, bool_true_eq_, bool_false_eq_, chkE_iff] at h5
                        first
                        | (exfalso; first | omega | (simp at h5; done))
                        | (skip
                           refine GC.skip (?_ : GC _ _ _ _)
                           refine GC.region ?_
                           refine GL.pure rfl (p_move rfl) ?_
                           refine GL.pure rfl (p_add rfl rfl (w64 (by omega) (by omega))) ?_
                           refine GL.pure rfl (p_assign rfl) ?_
                           refine GL.nil ?_
                           exact fun a w h => ⟨(k + 1), (by omega), ⟨by omega, fun j hj => (Nat.lt_succ_iff_lt_or_eq.1 hj).elim (hk.2 j) (fun e => by subst e; intro hb; obtain ⟨b1, b2⟩ := hb; first | omega | exact b2 (by assumption))⟩, h.cut (is := [0, 0, 0]) (js := [2, 3, 4, 5]) ⟨rfl, rfl, rfl, rfl, rfl, rfl, trivial⟩ rfl rfl⟩))
                 · try simp only [decide_eq_true_eq, decide_eq_false_iff_not, Bool.not_eq_true', Bool.not_eq_false', Bool.not_true, Bool.not_false, Bool.not_not, ne_eq, Decidable.not_not, Int.not_lt, Int.not_le, gt_iff_lt, ge_iff_le, bool_true_eq_, bool_false_eq_, chkE_iff] at h4
                   first
                   | (exfalso; first | omega | (simp at h4; done))
                   | (skip
                      refine GL.pureG (s := 37) rfl rfl rfl (p_move rfl) ?_
                      refine GL.pureG (s := 37) rfl rfl rfl (p_move rfl) ?_
                      refine GL.stepG rfl (s := 37) rfl rfl (t_index (i := 3) rfl rfl rfl rfl Try.underlying22 sz_3 (by omega) (gt_ok (by omega) (by omega))) (GL.ex fun p_x40 => GL.ex fun r_x40 => GL.and fun ok_x40 => ?_)
                      rcases r_x40 with _
                      refine GL.stepG rfl (s := 37) rfl rfl (t_mem rfl (m_loadP (i := 0) rfl rfl ag_3 rfl)) ?_
                      refine GL.pureG (s := 37) rfl rfl rfl (p_geq rfl rfl) ?_
                      refine GL.pure rfl (p_pick_false rfl rfl) ?_
                      refine GL.pure rfl (p_move rfl) ?_
                      refine GL.split (i := 44) rfl (fun h6 => ?_) (fun h6 => ?_)
                      · try simp only [decide_eq_true_eq, decide_eq_false_iff_not, Bool.not_eq_true', Bool.not_eq_false', Bool.not_true, Bool.not_false, Bool.not_not, ne_eq, Decidable.not_not, Int.not_lt, Int.not_le, gt_iff_lt, ge_iff_le, bool_true_eq_, bool_false_eq_, chkE_iff] at h6
                        first
                        | (exfalso; first | omega | (simp at h6; done))
                        | (skip
                           refine GL.pureG (s := 44) rfl rfl rfl (p_move rfl) ?_
                           refine GL.pureG (s := 44) rfl rfl rfl (p_move rfl) ?_
                           refine GL.pureG (s := 44) rfl rfl rfl (p_move rfl) ?_
                           refine GL.stepG rfl (s := 44) rfl rfl (t_index (i := 4) rfl rfl rfl rfl Try.underlying22 sz_3 (by omega) (gt_ok (by omega) (by omega))) (GL.ex fun p_x48 => GL.ex fun r_x48 => GL.and fun ok_x48 => ?_)
                           rcases r_x48 with _
                           refine GL.stepG rfl (s := 44) rfl rfl (t_mem rfl (m_loadP (i := 0) rfl rfl ag_3 rfl)) ?_
                           refine GL.stepG rfl (s := 44) rfl rfl (t_call rfl fn_16 rfl (is := []) (js := [6]) rfl rfl (by exact in_ct _ _ _ _ (by first | assumption | omega))) (GL.ret ?_)
                           rintro _ _ _ ⟨rfl, rfl, rfl⟩
                           refine GL.pureG (s := 44) rfl rfl rfl (p_not rfl) ?_
                           refine GL.pure rfl (p_pick_true rfl rfl) ?_
                           refine GL.nil (?_ : GC _ _ _ _)
                           refine GC.cond rfl (fun h7 => ?_) (fun h7 => ?_)
                           · try simp only [decide_eq_true_eq, decide_eq_false_iff_not, Bool.not_eq_true', Bool.not_eq_false', Bool.not_true, Bool.not_false, Bool.not_not, ne_eq, Decidable.not_not, Int.not_lt, Int.not_le, gt_iff_lt, ge_iff_le, bool_true_eq_, bool_false_eq_, chkE_iff] at h7
                             first
                             | (exfalso; first | omega | (simp at h7; done))
                             | (skip
                                refine GC.seq' ?_
                                refine GC.region ?_
                                refine GL.pure rfl (p_build ze_24 of_24 rfl rfl) ?_
                                refine GL.step rfl (t_storeN (i := 1) rfl rfl rfl sz_24 rfl rfl rfl) ?_
                                refine GL.pure rfl (p_assign rfl) ?_
                                refine GL.nil (?_ : GC _ _ _ _)
                                refine GC.ret ?_
                                refine fun a w h => Fin.back (rs := [.cell 6 24, .tmp 7]) (vs := [_, _]) (is := []) (js := [3]) rfl ⟨⟨1, _, _, _, _, rfl, rfl, .inr ⟨[_, _], rfl, ag_24, sz_24, ⟨rfl, rfl, trivial⟩⟩⟩, rfl, trivial⟩ rfl rfl ?_ h
                                clear h
                                have e1 : nextR e l add drop = (0, [], 130) := by unfold nextR; rw [if_pos (by assumption), if_neg (by omega), if_pos ⟨gt add (k : Int), gt_memI (by omega), by omega, by assumption⟩]
                                rw [e1]; exact ⟨none, 0, rfl, rfl, rfl⟩)
                           · try simp only [decide_eq_true_eq, decide_eq_false_iff_not, Bool.not_eq_true', Bool.not_eq_false', Bool.not_true, Bool.not_false, Bool.not_not, ne_eq, Decidable.not_not, Int.not_lt, Int.not_le, gt_iff_lt, ge_iff_le, bool_true_eq_, bool_false_eq_, chkE_iff] at h7
                             first
                             | (exfalso; first | omega | (simp at h7; done))
                             | (skip
                                refine GC.skip (?_ : GC _ _ _ _)
                                refine GC.region ?_
                                refine GL.pure rfl (p_move rfl) ?_
                                refine GL.pure rfl (p_add rfl rfl (w64 (by omega) (by omega))) ?_
                                refine GL.pure rfl (p_assign rfl) ?_
                                refine GL.nil ?_
                                exact fun a w h => ⟨(k + 1), (by omega), ⟨by omega, fun j hj => (Nat.lt_succ_iff_lt_or_eq.1 hj).elim (hk.2 j) (fun e => by subst e; intro hb; obtain ⟨b1, b2⟩ := hb; first | omega | exact b2 (by assumption))⟩, h.cut (is := [0, 0, 0]) (js := [3, 4, 5, 6]) ⟨rfl, rfl, rfl, rfl, rfl, rfl, trivial⟩ rfl rfl⟩))
                      · try simp only [decide_eq_true_eq, decide_eq_false_iff_not, Bool.not_eq_true', Bool.not_eq_false', Bool.not_true, Bool.not_false, Bool.not_not, ne_eq, Decidable.not_not, Int.not_lt, Int.not_le, gt_iff_lt, ge_iff_le, bool_true_eq_, bool_false_eq_, chkE_iff] at h6
                        first
                        | (exfalso; first | omega | (simp at h6; done))
                        | (skip
                           refine GL.pass (s := 44) rfl rfl rfl ?_
                           refine GL.pass (s := 44) rfl rfl rfl ?_
                           refine GL.pass (s := 44) rfl rfl rfl ?_
                           refine GL.pass (s := 44) rfl rfl rfl ?_
                           refine GL.pass (s := 44) rfl rfl rfl ?_
                           refine GL.pass (s := 44) rfl rfl rfl ?_
                           refine GL.pass (s := 44) rfl rfl rfl ?_
                           refine GL.pure rfl (p_pick_false rfl rfl) ?_
                           refine GL.nil (?_ : GC _ _ _ _)
                           refine GC.cond_false rfl ?_
                           refine GC.skip (?_ : GC _ _ _ _)
                           refine GC.region ?_
                           refine GL.pure rfl (p_move rfl) ?_
                           refine GL.pure rfl (p_add rfl rfl (w64 (by omega) (by omega))) ?_
                           refine GL.pure rfl (p_assign rfl) ?_
                           refine GL.nil ?_
                           exact fun a w h => ⟨(k + 1), (by omega), ⟨by omega, fun j hj => (Nat.lt_succ_iff_lt_or_eq.1 hj).elim (hk.2 j) (fun e => by subst e; intro hb; obtain ⟨b1, b2⟩ := hb; first | omega | exact b2 (by assumption))⟩, h.cut (is := [0, 0, 0]) (js := [2, 3, 4, 5]) ⟨rfl, rfl, rfl, rfl, rfl, rfl, trivial⟩ rfl rfl⟩)))
            · try simp only [decide_eq_true_eq, decide_eq_false_iff_not, Bool.not_eq_true', Bool.not_eq_false', Bool.not_true, Bool.not_false, Bool.not_not, ne_eq, Decidable.not_not, Int.not_lt, Int.not_le, gt_iff_lt, ge_iff_le, bool_true_eq_, bool_false_eq_, chkE_iff] at h3
              first
              | (exfalso; first | omega | (simp at h3; done))
              | (skip
                 refine GC.exit (?_ : GC _ _ _ _)
                 refine GC.seq' ?_
                 refine GC.seq' ?_
                 refine GC.region ?_
                 have hno : ¬ ∃ x ∈ add, badP drop x := fun ⟨x, hx, hb⟩ => by
                   obtain ⟨j, hj, rfl⟩ := mem_gt hx
                   exact hk.2 j (by omega) hb
                 refine GL.nilrow 3 1 ?_
                 refine GL.pure rfl (p_assign rfl) ?_
                 refine GL.nil (?_ : GC _ _ _ _)
                 refine GC.block ?_
                 refine GC.loopK2 (ks := [1, 2, 3, 6, 9]) (is := [2, 3]) (js := [0, 1, 2, 3]) (fun (k : Nat) (V : Value) => k ≤ 64) (fun (k : Nat) (V : Value) => [(11, .int .i64 (k : Int))]) (fun (k : Nat) (V : Value) => [.cells b_t9 [.int .i64 (e + 1), V] 24, .row V 3 1 (outR l add drop k).length ((outR l add drop k).map iv)]) (fun (k : Nat) (V : Value) => []) (fun (k : Nat) (V : Value) => 64 - k) (0) (_) rfl rfl rfl (fun a w h => ⟨by omega, h.cutK (is := [1, 0, 0, 0]) (js := [0, 1, 2, 3]) (ks := [1, 2, 3, 6, 9]) ⟨rfl, trivial⟩ rfl rfl rfl⟩) ?_
                 intro k V hm
                 try dsimp only [List.cons_append, List.nil_append] at hm ⊢
                 refine GC.seq' ?_
                 refine GC.seq' ?_
                 refine GC.region ?_
                 refine GL.pure rfl (p_move rfl) ?_
                 refine GL.pure rfl (p_lss rfl rfl) ?_
                 refine GL.nil (?_ : GC _ _ _ _)
                 refine GC.cond rfl (fun h8 => ?_) (fun h8 => ?_)
                 · try simp only [decide_eq_true_eq, decide_eq_false_iff_not, Bool.not_eq_true', Bool.not_eq_false', Bool.not_true, Bool.not_false, Bool.not_not, ne_eq, Decidable.not_not, Int.not_lt, Int.not_le, gt_iff_lt, ge_iff_le, bool_true_eq_, bool_false_eq_, chkE_iff] at h8
                   first
                   | (exfalso; first | omega | (simp at h8; done))
                   | (skip
                      refine GC.skip (?_ : GC _ _ _ _)
                      refine GC.seq' ?_
                      refine GC.block ?_
                      refine GC.seq' ?_
                      refine GC.region ?_
                      refine GL.pure rfl (p_fieldAddr fo_24_1 rfl) ?_
                      refine GL.step rfl (t_mem rfl (m_load (i := 3) rfl rfl ag_22 rfl)) ?_
                      refine GL.pure rfl (p_move rfl) ?_
                      refine GL.step rfl (t_call rfl fn_16 rfl (is := []) (js := [1]) rfl rfl (by exact in_ct _ _ _ _ (by first | assumption | omega))) (GL.ret ?_)
                      rintro _ _ _ ⟨rfl, rfl, rfl⟩
                      refine GL.pure rfl (p_move rfl) ?_
                      refine GL.split (i := 62) rfl (fun h9 => ?_) (fun h9 => ?_)
                      · try simp only [decide_eq_true_eq, decide_eq_false_iff_not, Bool.not_eq_true', Bool.not_eq_false', Bool.not_true, Bool.not_false, Bool.not_not, ne_eq, Decidable.not_not, Int.not_lt, Int.not_le, gt_iff_lt, ge_iff_le, bool_true_eq_, bool_false_eq_, chkE_iff] at h9
                        first
                        | (exfalso; first | omega | (simp at h9; done))
                        | (skip
                           refine GL.pass (s := 62) rfl rfl rfl ?_
                           refine GL.pass (s := 62) rfl rfl rfl ?_
                           refine GL.pass (s := 62) rfl rfl rfl ?_
                           refine GL.pure rfl (p_pick_true rfl rfl) ?_
                           refine GL.pure rfl (p_move rfl) ?_
                           refine GL.pureG (s := 67) rfl rfl rfl (p_move rfl) ?_
                           refine GL.pureG (s := 67) rfl rfl rfl (p_move rfl) ?_
                           refine GL.stepG rfl (s := 67) rfl rfl (t_call rfl fn_16 rfl (is := []) (js := [3]) rfl rfl (by exact in_ct _ _ _ _ (by first | assumption | omega))) (GL.ret ?_)
                           rintro _ _ _ ⟨rfl, rfl, rfl⟩
                           refine GL.pureG (s := 67) rfl rfl rfl (p_not rfl) ?_
                           refine GL.pure rfl (p_pick_true rfl rfl) ?_
                           refine GL.nil (?_ : GC _ _ _ _)
                           refine GC.cond rfl (fun h10 => ?_) (fun h10 => ?_)
                           · try simp only [decide_eq_true_eq, decide_eq_false_iff_not, Bool.not_eq_true', Bool.not_eq_false', Bool.not_true, Bool.not_false, Bool.not_not, ne_eq, Decidable.not_not, Int.not_lt, Int.not_le, gt_iff_lt, ge_iff_le, bool_true_eq_, bool_false_eq_, chkE_iff] at h10
                             first
                             | (exfalso; first | omega | (simp at h10; done))
                             | (skip
                                refine GC.region ?_
                                refine GL.pure rfl (p_fieldAddr fo_24_1 rfl) ?_
                                refine GL.step rfl (t_mem rfl (m_load (i := 0) rfl rfl ag_22 rfl)) ?_
                                refine GL.pure rfl (p_move rfl) ?_
                                refine GL.step rfl (t_buildSlice rfl Try.underlying22 sz_3 ze_3 rfl rfl rfl rfl rfl rfl) (GL.ex fun b_t76 => ?_)
                                refine GL.step rfl (t_append (i := 2) (k := 0) rfl el_22 rfl rfl rfl rfl rfl (allOne_mem rfl) (by have := outR_le l add drop k; simp; omega) (fun _ => rfl)) (GL.ex fun v77 => ?_)
                                refine GL.shape (i := 2) rfl (fun A_v77 c_v77 e_v77 l_v77 k_v77 => ?_)
                                subst e_v77
                                refine GL.pure rfl (p_fieldAddr fo_24_1 rfl) ?_
                                refine GL.step rfl (t_store (i := 1) rfl rfl rfl rfl sz_22 rfl rfl rfl) ?_
                                refine GL.nil (?_ : GC _ _ _ _)
                                refine GC.region ?_
                                refine GL.pure rfl (p_move rfl) ?_
                                refine GL.pure rfl (p_add rfl rfl (w64 (by omega) (by omega))) ?_
                                refine GL.pure rfl (p_assign rfl) ?_
                                refine GL.nil ?_
                                exact fun a w h => ⟨(k + 1), (.slice A_v77 ((outR l add drop k).length + 1) c_v77), (by omega), by omega, by rw [outR, if_pos (by simp [wantP, *]), List.length_append, List.map_append]; exact h.cut (is := [1, 1, 1, 1]) (js := [0, 1, 2, 3]) ⟨rfl, rfl, rfl, rfl, rfl, rfl, trivial⟩ rfl rfl⟩)
                           · try simp only [decide_eq_true_eq, decide_eq_false_iff_not, Bool.not_eq_true', Bool.not_eq_false', Bool.not_true, Bool.not_false, Bool.not_not, ne_eq, Decidable.not_not, Int.not_lt, Int.not_le, gt_iff_lt, ge_iff_le, bool_true_eq_, bool_false_eq_, chkE_iff] at h10
                             first
                             | (exfalso; first | omega | (simp at h10; done))
                             | (skip
                                refine GC.skip (?_ : GC _ _ _ _)
                                refine GC.region ?_
                                refine GL.pure rfl (p_move rfl) ?_
                                refine GL.pure rfl (p_add rfl rfl (w64 (by omega) (by omega))) ?_
                                refine GL.pure rfl (p_assign rfl) ?_
                                refine GL.nil ?_
                                exact fun a w h => ⟨(k + 1), (V), (by omega), by omega, by rw [outR, if_neg (by simp [wantP, *]), List.append_nil]; exact h.cut (is := [0, 0, 0, 0]) (js := [0, 1, 2, 3]) ⟨rfl, rfl, rfl, rfl, rfl, rfl, trivial⟩ rfl rfl⟩))
                      · try simp only [decide_eq_true_eq, decide_eq_false_iff_not, Bool.not_eq_true', Bool.not_eq_false', Bool.not_true, Bool.not_false, Bool.not_not, ne_eq, Decidable.not_not, Int.not_lt, Int.not_le, gt_iff_lt, ge_iff_le, bool_true_eq_, bool_false_eq_, chkE_iff] at h9
                        first
                        | (exfalso; first | omega | (simp at h9; done))
                        | (skip
                           refine GL.pureG (s := 62) rfl rfl rfl (p_move rfl) ?_
                           refine GL.pureG (s := 62) rfl rfl rfl (p_move rfl) ?_
                           refine GL.stepG rfl (s := 62) rfl rfl (t_call rfl fn_16 rfl (is := []) (js := [2]) rfl rfl (by exact in_ct _ _ _ _ (by first | assumption | omega))) (GL.ret ?_)
                           rintro _ _ _ ⟨rfl, rfl, rfl⟩
                           refine GL.pure rfl (p_pick_false rfl rfl) ?_
                           refine GL.pure rfl (p_move rfl) ?_
                           refine GL.split (i := 67) rfl (fun h11 => ?_) (fun h11 => ?_)
                           · try simp only [decide_eq_true_eq, decide_eq_false_iff_not, Bool.not_eq_true', Bool.not_eq_false', Bool.not_true, Bool.not_false, Bool.not_not, ne_eq, Decidable.not_not, Int.not_lt, Int.not_le, gt_iff_lt, ge_iff_le, bool_true_eq_, bool_false_eq_, chkE_iff] at h11
                             first
                             | (exfalso; first | omega | (simp at h11; done))
                             | (skip
                                refine GL.pureG (s := 67) rfl rfl rfl (p_move rfl) ?_
                                refine GL.pureG (s := 67) rfl rfl rfl (p_move rfl) ?_
                                refine GL.stepG rfl (s := 67) rfl rfl (t_call rfl fn_16 rfl (is := []) (js := [3]) rfl rfl (by exact in_ct _ _ _ _ (by first | assumption | omega))) (GL.ret ?_)
                                rintro _ _ _ ⟨rfl, rfl, rfl⟩
                                refine GL.pureG (s := 67) rfl rfl rfl (p_not rfl) ?_
                                refine GL.pure rfl (p_pick_true rfl rfl) ?_
                                refine GL.nil (?_ : GC _ _ _ _)
                                refine GC.cond rfl (fun h12 => ?_) (fun h12 => ?_)
                                · try simp only [decide_eq_true_eq, decide_eq_false_iff_not, Bool.not_eq_true', Bool.not_eq_false', Bool.not_true, Bool.not_false, Bool.not_not, ne_eq, Decidable.not_not, Int.not_lt, Int.not_le, gt_iff_lt, ge_iff_le, bool_true_eq_, bool_false_eq_, chkE_iff] at h12
                                  first
                                  | (exfalso; first | omega | (simp at h12; done))
                                  | (skip
                                     refine GC.region ?_
                                     refine GL.pure rfl (p_fieldAddr fo_24_1 rfl) ?_
                                     refine GL.step rfl (t_mem rfl (m_load (i := 0) rfl rfl ag_22 rfl)) ?_
                                     refine GL.pure rfl (p_move rfl) ?_
                                     refine GL.step rfl (t_buildSlice rfl Try.underlying22 sz_3 ze_3 rfl rfl rfl rfl rfl rfl) (GL.ex fun b_t76 => ?_)
                                     refine GL.step rfl (t_append (i := 2) (k := 0) rfl el_22 rfl rfl rfl rfl rfl (allOne_mem rfl) (by have := outR_le l add drop k; simp; omega) (fun _ => rfl)) (GL.ex fun v77 => ?_)
                                     refine GL.shape (i := 2) rfl (fun A_v77 c_v77 e_v77 l_v77 k_v77 => ?_)
                                     subst e_v77
                                     refine GL.pure rfl (p_fieldAddr fo_24_1 rfl) ?_
                                     refine GL.step rfl (t_store (i := 1) rfl rfl rfl rfl sz_22 rfl rfl rfl) ?_
                                     refine GL.nil (?_ : GC _ _ _ _)
                                     refine GC.region ?_
                                     refine GL.pure rfl (p_move rfl) ?_
                                     refine GL.pure rfl (p_add rfl rfl (w64 (by omega) (by omega))) ?_
                                     refine GL.pure rfl (p_assign rfl) ?_
                                     refine GL.nil ?_
                                     exact fun a w h => ⟨(k + 1), (.slice A_v77 ((outR l add drop k).length + 1) c_v77), (by omega), by omega, by rw [outR, if_pos (by simp [wantP, *]), List.length_append, List.map_append]; exact h.cut (is := [1, 1, 1, 1]) (js := [0, 1, 2, 3]) ⟨rfl, rfl, rfl, rfl, rfl, rfl, trivial⟩ rfl rfl⟩)
                                · try simp only [decide_eq_true_eq, decide_eq_false_iff_not, Bool.not_eq_true', Bool.not_eq_false', Bool.not_true, Bool.not_false, Bool.not_not, ne_eq, Decidable.not_not, Int.not_lt, Int.not_le, gt_iff_lt, ge_iff_le, bool_true_eq_, bool_false_eq_, chkE_iff] at h12
                                  first
                                  | (exfalso; first | omega | (simp at h12; done))
                                  | (skip
                                     refine GC.skip (?_ : GC _ _ _ _)
                                     refine GC.region ?_
                                     refine GL.pure rfl (p_move rfl) ?_
                                     refine GL.pure rfl (p_add rfl rfl (w64 (by omega) (by omega))) ?_
                                     refine GL.pure rfl (p_assign rfl) ?_
                                     refine GL.nil ?_
                                     exact fun a w h => ⟨(k + 1), (V), (by omega), by omega, by rw [outR, if_neg (by simp [wantP, *]), List.append_nil]; exact h.cut (is := [0, 0, 0, 0]) (js := [0, 1, 2, 3]) ⟨rfl, rfl, rfl, rfl, rfl, rfl, trivial⟩ rfl rfl⟩))
                           · try simp only [decide_eq_true_eq, decide_eq_false_iff_not, Bool.not_eq_true', Bool.not_eq_false', Bool.not_true, Bool.not_false, Bool.not_not, ne_eq, Decidable.not_not, Int.not_lt, Int.not_le, gt_iff_lt, ge_iff_le, bool_true_eq_, bool_false_eq_, chkE_iff] at h11
                             first
                             | (exfalso; first | omega | (simp at h11; done))
                             | (skip
                                refine GL.pass (s := 67) rfl rfl rfl ?_
                                refine GL.pass (s := 67) rfl rfl rfl ?_
                                refine GL.pass (s := 67) rfl rfl rfl ?_
                                refine GL.pass (s := 67) rfl rfl rfl ?_
                                refine GL.pure rfl (p_pick_false rfl rfl) ?_
                                refine GL.nil (?_ : GC _ _ _ _)
                                refine GC.cond_false rfl ?_
                                refine GC.skip (?_ : GC _ _ _ _)
                                refine GC.region ?_
                                refine GL.pure rfl (p_move rfl) ?_
                                refine GL.pure rfl (p_add rfl rfl (w64 (by omega) (by omega))) ?_
                                refine GL.pure rfl (p_assign rfl) ?_
                                refine GL.nil ?_
                                exact fun a w h => ⟨(k + 1), (V), (by omega), by omega, by rw [outR, if_neg (by simp [wantP, *]), List.append_nil]; exact h.cut (is := [0, 0, 0, 0]) (js := [0, 1, 2, 3]) ⟨rfl, rfl, rfl, rfl, rfl, rfl, trivial⟩ rfl rfl⟩)))
                 · try simp only [decide_eq_true_eq, decide_eq_false_iff_not, Bool.not_eq_true', Bool.not_eq_false', Bool.not_true, Bool.not_false, Bool.not_not, ne_eq, Decidable.not_not, Int.not_lt, Int.not_le, gt_iff_lt, ge_iff_le, bool_true_eq_, bool_false_eq_, chkE_iff] at h8
                   first
                   | (exfalso; first | omega | (simp at h8; done))
                   | (skip
                      refine GC.exit (?_ : GC _ _ _ _)
                      refine GC.seq' ?_
                      refine GC.seq' ?_
                      refine GC.region ?_
                      obtain rfl : k = 64 := by omega
                      refine GL.shape (i := 1) rfl (fun A_D c_D e_D l_D k_D => ?_)
                      subst e_D
                      refine GL.freezeI (i := 1) rfl ?_
                      refine GL.step rfl (t_mem rfl (m_loadN (i := 0) rfl rfl ag_24 (vs := [_, _]) sz_24 ⟨rfl, rfl, trivial⟩)) ?_
                      refine GL.step rfl (t_call rfl fn_14 rfl (is := []) (js := [0]) rfl rfl (by exact rcheck_ct _ _ (outR l add drop 64) _ (by have := outR_le l add drop 64; omega))) (GL.ret ?_)
                      rintro _ _ _ ⟨rfl, rfl, rfl⟩
                      refine GL.pure rfl (p_neq rfl rfl) ?_
                      refine GL.nil (?_ : GC _ _ _ _)
                      refine GC.cond rfl (fun h13 => ?_) (fun h13 => ?_)
                      · try simp only [decide_eq_true_eq, decide_eq_false_iff_not, Bool.not_eq_true', Bool.not_eq_false', Bool.not_true, Bool.not_false, Bool.not_not, ne_eq, Decidable.not_not, Int.not_lt, Int.not_le, gt_iff_lt, ge_iff_le, bool_true_eq_, bool_false_eq_, chkE_iff] at h13
                        first
                        | (exfalso; first | omega | (simp at h13; done))
                        | (skip
                           refine GC.seq' ?_
                           refine GC.region ?_
                           refine GL.pure rfl (p_build ze_24 of_24 rfl rfl) ?_
                           refine GL.step rfl (t_storeN (i := 1) rfl rfl rfl sz_24 rfl rfl rfl) ?_
                           refine GL.pure rfl (p_assign rfl) ?_
                           refine GL.nil (?_ : GC _ _ _ _)
                           refine GC.ret ?_
                           refine fun a w h => Fin.back (rs := [.cell 6 24, .tmp 7]) (vs := [_, _]) (is := []) (js := [1]) rfl ⟨⟨1, _, _, _, _, rfl, rfl, .inr ⟨[_, _], rfl, ag_24, sz_24, ⟨rfl, rfl, trivial⟩⟩⟩, rfl, trivial⟩ rfl rfl ?_ h
                           clear h
                           have e1 : nextR e l add drop = (0, [], 130) := by unfold nextR; rw [if_pos (by assumption), if_neg (by omega), if_neg hno, if_neg (by assumption)]
                           rw [e1]; exact ⟨none, 0, rfl, rfl, rfl⟩)
                      · try simp only [decide_eq_true_eq, decide_eq_false_iff_not, Bool.not_eq_true', Bool.not_eq_false', Bool.not_true, Bool.not_false, Bool.not_not, ne_eq, Decidable.not_not, Int.not_lt, Int.not_le, gt_iff_lt, ge_iff_le, bool_true_eq_, bool_false_eq_, chkE_iff] at h13
                        first
                        | (exfalso; first | omega | (simp at h13; done))
                        | (skip
                           refine GC.skip (?_ : GC _ _ _ _)
                           refine GC.seq' ?_
                           refine GC.region ?_
                           refine GL.step rfl (t_mem rfl (m_loadN (i := 0) rfl rfl ag_24 (vs := [_, _]) sz_24 ⟨rfl, rfl, trivial⟩)) ?_
                           refine GL.step rfl (t_storeN (i := 1) rfl rfl rfl sz_24 rfl rfl rfl) ?_
                           refine GL.pure rfl (p_assign rfl) ?_
                           refine GL.nil (?_ : GC _ _ _ _)
                           refine GC.ret ?_
                           refine fun a w h => Fin.back (rs := [.cell 6 24, .tmp 7]) (vs := [_, _]) (is := []) (js := [0]) rfl ⟨⟨1, _, _, _, _, rfl, rfl, .inr ⟨[_, _], rfl, ag_24, sz_24, ⟨rfl, rfl, trivial⟩⟩⟩, rfl, trivial⟩ rfl rfl ?_ h
                           clear h
                           have e1 : nextR e l add drop = (e + 1, outR l add drop 64, 0) := by unfold nextR; rw [if_pos (by assumption), if_neg (by omega), if_neg hno, if_pos (by assumption)]
                           rw [e1]; exact ⟨_, _, rfl, rfl, rfl⟩)))))
end Go.Proofs.Ytoofbjclockcdaa
