/- VOTES: a set with one more node, the document's way. -/
import Derived.Test.YtmjfkjajedhciaaVa1
set_option linter.unusedVariables false
set_option linter.unusedSimpArgs false
set_option maxRecDepth 100000
namespace Go.Proofs.Ytmjfkjajedhciaa
open Go Go.Sx Go.Proofs
theorem radd_ct (A : Option Addr) (l : List Int) (cp : Nat) (x : Int) (hl : l.length ≤ 1000000) : Ct Try.prog 11 [.slice A l.length cp, .int .i64 x] [] [Pers.row kI A l]
    (fun u G Q => ∃ R cs, u = .slice R (addF l x).length cs ∧ G = [] ∧ Q = [Pers.row kI R (addF l x)]) := by
  refine Ct.intro Try.func11 rfl rfl rfl (fun c hc => ?_)
  refine GC.seq' ?_
  refine GC.region ?_
  refine GL.pure rfl (p_assign rfl) ?_
  refine GL.nil (?_ : GC _ _ _ _)
  refine GC.seq' ?_
  refine GC.region ?_
  refine GL.pure rfl (p_assign rfl) ?_
  refine GL.nil (?_ : GC _ _ _ _)
  refine GC.seq' ?_
  refine GC.region ?_
  refine GL.nilrow 3 1 ?_
  refine GL.know (q := Pers.reps kI [] []) (fun _ _ _ => rfl) ?_
  refine GL.step rfl (t_buildSlice rfl Try.underlying22 sz_3 ze_3 rfl rfl rfl rfl rfl rfl) (GL.ex fun b_t9 => ?_)
  refine GL.pure rfl (p_move rfl) ?_
  refine GL.torow (i := 0) (m := 0) (sz := 1) rfl rfl (by decide) rfl ?_
  refine GL.step rfl (t_appendS (i := 0) (k := 1) rfl el_22 rfl rfl rfl rfl (by first | omega | (simp [seg]; omega)) (fun _ => rfl)) (GL.ex fun v11 => ?_)
  refine GL.pure rfl (p_move rfl) ?_
  refine GL.step rfl (t_buildSlice rfl Try.underlying22 sz_3 ze_3 rfl rfl rfl rfl rfl rfl) (GL.ex fun b_t13 => ?_)
  refine GL.step rfl (t_append (i := 1) (k := 0) rfl el_22 rfl rfl rfl rfl rfl (allOne_mem rfl) (by first | omega | (simp [seg]; omega)) (fun _ => rfl)) (GL.ex fun v14 => ?_)
  refine GL.rowIs (i := 1) (m' := (l ++ [x]).length) (cs' := (l ++ [x]).map (Value.int .i64)) rfl (by first | rfl | (simp [rmAt, seg]; done) | (simp [rmAt, seg]; omega)) (by first | rfl | (simp [rmAt, seg]; done)) rfl ?_
  refine GL.shape (i := 1) rfl (fun A_t9 c_t9 e_t9 l_t9 k_t9 => ?_)
  subst e_t9
  refine GL.freezeI (i := 1) rfl ?_
  refine GL.pure rfl (p_assign rfl) ?_
  refine GL.nil (?_ : GC _ _ _ _)
  refine GC.seq' ?_
  refine GC.block ?_
  refine GC.loopK6 (ks := []) (is := [0]) (js := [2]) (fun (al : List Int) (A1 : Option Addr) (c1 : Nat) (o : List Int) (A2 : Option Addr) (c2 : Nat) => AddInv l x al o ∧ al.length ≤ c1 ∧ c1 ≤ 9223372036854775807) (fun (al : List Int) (A1 : Option Addr) (c1 : Nat) (o : List Int) (A2 : Option Addr) (c2 : Nat) => [(6, .slice A1 al.length c1), (5, .slice A2 o.length c2)]) (fun (al : List Int) (A1 : Option Addr) (c1 : Nat) (o : List Int) (A2 : Option Addr) (c2 : Nat) => [.row (.slice A2 o.length c2) 3 1 o.length (o.map iv)]) (fun (al : List Int) (A1 : Option Addr) (c1 : Nat) (o : List Int) (A2 : Option Addr) (c2 : Nat) => [Pers.row kI A1 al]) (fun (al : List Int) (A1 : Option Addr) (c1 : Nat) (o : List Int) (A2 : Option Addr) (c2 : Nat) => al.length) (l ++ [x]) (_) (_) ([]) (_) (_) rfl rfl rfl (fun a w h => ⟨⟨AddInv.zero l x, l_t9, k_t9⟩, h.cutK (is := [1, 0]) (js := [0, 2]) (ks := []) ⟨rfl, rfl, trivial⟩ rfl rfl rfl⟩) ?_
  intro al A1 c1 o A2 c2 hI
  try dsimp only [List.cons_append, List.nil_append] at hI ⊢
  obtain ⟨hI, hc1, hc2⟩ := hI
  have hal := hI.len
  refine GC.seq' ?_
  refine GC.seq' ?_
  refine GC.region ?_
  refine GL.pure rfl (p_move rfl) ?_
  refine GL.pure rfl (p_len Try.underlying22 rfl) ?_
  refine GL.pure rfl (p_gtr rfl rfl) ?_
  refine GL.nil (?_ : GC _ _ _ _)
  refine GC.cond rfl (fun h1 => ?_) (fun h1 => ?_)
  · try simp only [decide_eq_true_eq, decide_eq_false_iff_not, Bool.not_eq_true', Bool.not_eq_false', Bool.not_true, Bool.not_false, Bool.not_not, ne_eq, Decidable.not_not, Int.not_lt, Int.not_le, gt_iff_lt, ge_iff_le, bool_true_eq_, bool_false_eq_] at h1
    first
    | (exfalso; omega)
    | (skip
       refine GC.skip (?_ : GC _ _ _ _)
       refine GC.block ?_
       refine GC.seq' ?_
       refine GC.region ?_
       refine GL.pure rfl (p_assign rfl) ?_
       refine GL.nil (?_ : GC _ _ _ _)
       refine GC.seq' ?_
       refine GC.seq' ?_
       refine GC.region ?_
       refine GL.pure rfl (p_assign rfl) ?_
       refine GL.nil (?_ : GC _ _ _ _)
       refine GC.block ?_
       refine GC.loopK2 (ks := [5, 6]) (is := [0, 1]) (js := [0, 1]) (fun (i : Nat) (m : Nat) => 1 ≤ i ∧ i ≤ al.length ∧ m < i ∧ ∀ j : Nat, j < i → gt al (m : Int) ≤ gt al (j : Int)) (fun (i : Nat) (m : Nat) => [(8, .int .i64 (i : Int)), (7, .int .i64 (m : Int))]) (fun (i : Nat) (m : Nat) => []) (fun (i : Nat) (m : Nat) => []) (fun (i : Nat) (m : Nat) => al.length - i) (1) (0) rfl rfl rfl (fun a w h => ⟨⟨by omega, by omega, by omega, fun j hj => by obtain rfl : j = 0 := (by omega); exact Int.le_refl _⟩, h.cutK (is := [0, 0]) (js := [0, 1]) (ks := [5, 6]) ⟨rfl, rfl, trivial⟩ rfl rfl rfl⟩) ?_
       intro i m hm
       try dsimp only [List.cons_append, List.nil_append] at hm ⊢
       obtain ⟨h1i, hil, hmi, hmin⟩ := hm
       refine GC.seq' ?_
       refine GC.seq' ?_
       refine GC.region ?_
       refine GL.pure rfl (p_move rfl) ?_
       refine GL.pure rfl (p_move rfl) ?_
       refine GL.pure rfl (p_len Try.underlying22 rfl) ?_
       refine GL.pure rfl (p_lss rfl rfl) ?_
       refine GL.nil (?_ : GC _ _ _ _)
       refine GC.cond rfl (fun h2 => ?_) (fun h2 => ?_)
       · try simp only [decide_eq_true_eq, decide_eq_false_iff_not, Bool.not_eq_true', Bool.not_eq_false', Bool.not_true, Bool.not_false, Bool.not_not, ne_eq, Decidable.not_not, Int.not_lt, Int.not_le, gt_iff_lt, ge_iff_le, bool_true_eq_, bool_false_eq_] at h2
         first
         | (exfalso; omega)
         | (skip
            refine GC.skip (?_ : GC _ _ _ _)
            refine GC.seq' ?_
            refine GC.block ?_
            refine GC.seq' ?_
            refine GC.layQ (y := .tmp 8) (j := 0) rfl rfl (by omega) (gt_ok (by omega) (by omega)) (fun p_x26 r_x26 hA_x26 ok_x26 => ?_)
            rcases r_x26 with _
            refine GC.layQ (y := .tmp 7) (j := 1) rfl rfl (by omega) (gt_ok (by omega) (by omega)) (fun p_x30 r_x30 hA_x30 ok_x30 => ?_)
            rcases r_x30 with _
            refine GC.regionQ wide_ (by kernel_rfl) ?_
            refine GQ.step rfl (q_pure (p_move rfl)) ?_
            refine GQ.step rfl (q_pure (p_move rfl)) ?_
            refine GQ.step rfl (q_pure (p_indexL hA_x26 rfl rfl Try.underlying22 sz_3 (by omega) (by omega))) ?_
            refine GQ.step rfl (q_mem (m_loadP (i := 1) rfl rfl ag_3 rfl)) ?_
            refine GQ.step rfl (q_pure (p_move rfl)) ?_
            refine GQ.step rfl (q_pure (p_move rfl)) ?_
            refine GQ.step rfl (q_pure (p_indexL hA_x30 rfl rfl Try.underlying22 sz_3 (by omega) (by omega))) ?_
            refine GQ.step rfl (q_mem (m_loadP (i := 0) rfl rfl ag_3 rfl)) ?_
            refine GQ.step rfl (q_pure (p_lss rfl rfl)) ?_
            refine GQ.nil (?_ : GC _ _ _ _)
            refine GC.cond rfl (fun h3 => ?_) (fun h3 => ?_)
            · try simp only [decide_eq_true_eq, decide_eq_false_iff_not, Bool.not_eq_true', Bool.not_eq_false', Bool.not_true, Bool.not_false, Bool.not_not, ne_eq, Decidable.not_not, Int.not_lt, Int.not_le, gt_iff_lt, ge_iff_le, bool_true_eq_, bool_false_eq_] at h3
              first
              | (exfalso; omega)
              | (skip
                 refine GC.region ?_
                 refine GL.pure rfl (p_move rfl) ?_
                 refine GL.pure rfl (p_assign rfl) ?_
                 refine GL.nil (?_ : GC _ _ _ _)
                 refine GC.region ?_
                 refine GL.pure rfl (p_move rfl) ?_
                 refine GL.pure rfl (p_add rfl rfl (w64 (by omega) (by omega))) ?_
                 refine GL.pure rfl (p_assign rfl) ?_
                 refine GL.nil ?_
                 exact fun a w h => ⟨(i + 1), (i), (by omega), ⟨by omega, by omega, by omega, fun j hj => by
                     have := hmin (min j (i - 1)) (by omega)
                     rcases Nat.lt_or_ge j i with hji | hji
                     · have := hmin j hji; omega
                     · obtain rfl : j = i := (by omega)
                       omega⟩, h.cut (is := [0, 0]) (js := [2, 3]) ⟨rfl, rfl, rfl, rfl, trivial⟩ rfl rfl⟩)
            · try simp only [decide_eq_true_eq, decide_eq_false_iff_not, Bool.not_eq_true', Bool.not_eq_false', Bool.not_true, Bool.not_false, Bool.not_not, ne_eq, Decidable.not_not, Int.not_lt, Int.not_le, gt_iff_lt, ge_iff_le, bool_true_eq_, bool_false_eq_] at h3
              first
              | (exfalso; omega)
              | (skip
                 refine GC.skip (?_ : GC _ _ _ _)
                 refine GC.region ?_
                 refine GL.pure rfl (p_move rfl) ?_
                 refine GL.pure rfl (p_add rfl rfl (w64 (by omega) (by omega))) ?_
                 refine GL.pure rfl (p_assign rfl) ?_
                 refine GL.nil ?_
                 exact fun a w h => ⟨(i + 1), (m), (by omega), ⟨by omega, by omega, by omega, fun j hj => by
                     have := hmin (min j (i - 1)) (by omega)
                     rcases Nat.lt_or_ge j i with hji | hji
                     · have := hmin j hji; omega
                     · obtain rfl : j = i := (by omega)
                       omega⟩, h.cut (is := [0, 0]) (js := [2, 3]) ⟨rfl, rfl, rfl, rfl, trivial⟩ rfl rfl⟩))
       · try simp only [decide_eq_true_eq, decide_eq_false_iff_not, Bool.not_eq_true', Bool.not_eq_false', Bool.not_true, Bool.not_false, Bool.not_not, ne_eq, Decidable.not_not, Int.not_lt, Int.not_le, gt_iff_lt, ge_iff_le, bool_true_eq_, bool_false_eq_] at h2
         first
         | (exfalso; omega)
         | (skip
            refine GC.exit (?_ : GC _ _ _ _)
            refine GC.seq' ?_
            refine GC.seq' ?_
            rcases Nat.eq_zero_or_pos o.length with ho | ho
            · skip
              refine GC.layQ (y := .tmp 7) (j := 0) rfl rfl (by omega) (gt_ok (by omega) (by omega)) (fun p_x46 r_x46 hA_x46 ok_x46 => ?_)
              rcases r_x46 with _
              refine GC.regionQ wide_ (by kernel_rfl) ?_
              refine GQ.step rfl (q_pure (p_move rfl)) ?_
              refine GQ.step rfl (q_pure (p_len Try.underlying22 rfl)) ?_
              refine GQ.step rfl (q_pure (p_eql rfl rfl)) ?_
              refine GQ.step rfl (q_pure (p_move rfl)) ?_
              refine GQ.split (i := 37) rfl (fun h4 => ?_) (fun h4 => ?_)
              · try simp only [decide_eq_true_eq, decide_eq_false_iff_not, Bool.not_eq_true', Bool.not_eq_false', Bool.not_true, Bool.not_false, Bool.not_not, ne_eq, Decidable.not_not, Int.not_lt, Int.not_le, gt_iff_lt, ge_iff_le, bool_true_eq_, bool_false_eq_] at h4
                first
                | (exfalso; omega)
                | (skip
                   refine GQ.pass (s := 37) rfl rfl rfl ?_
                   refine GQ.pass (s := 37) rfl rfl rfl ?_
                   refine GQ.pass (s := 37) rfl rfl rfl ?_
                   refine GQ.pass (s := 37) rfl rfl rfl ?_
                   refine GQ.pass (s := 37) rfl rfl rfl ?_
                   refine GQ.pass (s := 37) rfl rfl rfl ?_
                   refine GQ.pass (s := 37) rfl rfl rfl ?_
                   refine GQ.pass (s := 37) rfl rfl rfl ?_
                   refine GQ.pass (s := 37) rfl rfl rfl ?_
                   refine GQ.pass (s := 37) rfl rfl rfl ?_
                   refine GQ.pass (s := 37) rfl rfl rfl ?_
                   refine GQ.step rfl (q_pure (p_pick_true rfl rfl)) ?_
                   refine GQ.nil (?_ : GC _ _ _ _)
                   refine GC.cond_true rfl ?_
                   refine GC.region ?_
                   refine GL.pure rfl (p_move rfl) ?_
                   refine GL.pure rfl (p_move rfl) ?_
                   refine GL.pure rfl (p_move rfl) ?_
                   refine GL.step rfl (t_index (i := 1) rfl rfl rfl rfl Try.underlying22 sz_3 (by omega) (gt_ok (by omega) (by omega))) (GL.ex fun p_x53 => GL.ex fun r_x53 => GL.and fun ok_x53 => ?_)
                   rcases r_x53 with _
                   refine GL.step rfl (t_mem rfl (m_loadP (i := 0) rfl rfl ag_3 rfl)) ?_
                   refine GL.step rfl (t_buildSlice rfl Try.underlying22 sz_3 ze_3 rfl rfl rfl rfl rfl rfl) (GL.ex fun b_t55 => ?_)
                   refine GL.step rfl (t_append (i := 1) (k := 0) rfl el_22 rfl rfl rfl rfl rfl (allOne_mem rfl) (by first | omega | (simp [seg]; omega)) (fun _ => rfl)) (GL.ex fun v56 => ?_)
                   refine GL.rowIs (i := 1) (m' := (o ++ [gt al (m : Int)]).length) (cs' := (o ++ [gt al (m : Int)]).map (Value.int .i64)) rfl (by first | rfl | (simp [rmAt, seg]; done) | (simp [rmAt, seg]; omega)) (by first | rfl | (simp [rmAt, seg]; done)) rfl ?_
                   refine GL.shape (i := 1) rfl (fun A_D c_D e_D l_D k_D => ?_)
                   subst e_D
                   refine GL.pure rfl (p_assign rfl) ?_
                   refine GL.nil (?_ : GC _ _ _ _)
                   refine GC.regionC (m := 11) (is := [0, 0, 0]) (js := [0, 1, 2, 3]) wide_ rfl rfl rfl ?_
                   refine GA.take 1 rfl (by kernel_rfl) (by kernel_rfl) (by kernel_rfl) rfl (fun a w h => h.mem (is := [0, 0, 0]) (js := [0, 1, 2, 3]) rfl rfl) (i_pure (p_move rfl)) ?_
                   refine GA.take 2 rfl (by kernel_rfl) (by kernel_rfl) (by kernel_rfl) rfl (fun a w h => h.mem (is := [0, 0, 0]) (js := [0, 1, 2, 3]) rfl rfl) (i_pure (p_move rfl)) ?_
                   refine GA.take 5 rfl (by kernel_rfl) (by kernel_rfl) (by kernel_rfl) rfl (fun a w h => h.mem (is := [0, 0, 0]) (js := [0, 1, 2, 3]) rfl rfl) (i_pure (p_move rfl)) ?_
                   refine GA.take 6 rfl (by kernel_rfl) (by kernel_rfl) (by kernel_rfl) rfl (fun a w h => h.mem (is := [0, 0, 0]) (js := [0, 1, 2, 3]) rfl rfl) (i_pure (p_move rfl)) ?_
                   refine GA.take 7 rfl (by kernel_rfl) (by kernel_rfl) (by kernel_rfl) rfl (fun a w h => h.mem (is := [0, 0, 0]) (js := [0, 1, 2, 3]) rfl rfl) (i_pure (p_add rfl rfl (w64 (by omega) (by omega)))) ?_
                   refine GA.all (rs := [0, 3, 8]) (by kernel_rfl) (by simp) ?_
                   refine GAs.cons (i := 0) rfl rfl (t_buildSlice rfl Try.underlying22 sz_3 ze_3 rfl rfl rfl rfl rfl rfl) (by rintro a w ⟨_, h⟩; exact h.mem (is := [1, 1, 1]) (js := [0, 1, 2, 3]) rfl rfl) (GA.ex fun b_t57 => ?_) ?_
                   · refine GA.all (rs := [3, 8]) (by kernel_rfl) (by simp) ?_
                     refine GAs.cons (i := 3) rfl rfl (t_cut_h (j := 2) rfl rfl rfl rfl Try.underlying22 sz_3 (by omega) (by omega) (by omega)) (by rintro a w h; exact h.mem (is := [1, 1, 1]) (js := [1, 2, 3, 4]) rfl rfl) ?_ ?_
                     · refine GA.torow (i := 0) (m := 0) (sz := 1) rfl rfl (by decide) rfl ?_
                       refine GA.all (rs := [4, 8]) (by kernel_rfl) (by simp) ?_
                       refine GAs.cons (i := 4) rfl rfl (t_appendS (i := 0) (k := 0) rfl el_22 rfl rfl rfl rfl (by first | omega | (simp [seg]; omega)) (fun _ => rfl)) (by rintro a w ⟨_, h⟩; exact h.mem (is := [1, 1, 1]) (js := [1, 2, 3, 4]) rfl rfl) (GA.ex fun v61 => ?_) ?_
                       · refine GA.all (rs := [8]) (by kernel_rfl) (by simp) ?_
                         refine GAs.cons (i := 8) rfl rfl (t_cut_l (j := 3) rfl rfl rfl rfl Try.underlying22 sz_3 (by omega) (by omega) (by omega)) (by rintro a w h; exact h.mem (is := [1, 1, 1]) (js := [2, 3, 4, 5]) rfl rfl) ?_ ?_
                         · refine GA.all (rs := [9]) (by kernel_rfl) (by simp) ?_
                           refine GAs.cons (i := 9) rfl rfl (t_appendS (i := 0) (k := 0) rfl el_22 rfl rfl rfl rfl (by first | omega | (simp [seg]; omega)) (fun _ => rfl)) (by rintro a w ⟨_, h⟩; exact h.mem (is := [1, 1, 1]) (js := [2, 3, 4, 5]) rfl rfl) (GA.ex fun v66 => ?_) ?_
                           · refine GA.take 10 rfl (by kernel_rfl) (by kernel_rfl) (by kernel_rfl) rfl (fun a w h => h.mem (is := [1, 1, 1]) (js := [2, 3, 4, 5]) rfl rfl) (i_pure (p_assign rfl)) ?_
                             refine GA.rowIs (i := 0) (m' := (rmAt al m).length) (cs' := (rmAt al m).map (Value.int .i64)) rfl (by first | rfl | (simp [rmAt, seg]; done) | (simp [rmAt, seg]; omega)) (by first | rfl | (simp [rmAt, seg]; done)) rfl ?_
                             refine GA.shape (i := 0) rfl (fun A_t57 c_t57 e_t57 l_t57 k_t57 => ?_)
                             subst e_t57
                             refine GA.freezeI (i := 0) rfl ?_
                             refine GA.done (by kernel_rfl) ?_
                             exact fun a w h => ⟨(rmAt al m), (_), (_), (o ++ [gt al (m : Int)]), (_), (_), by have := rmAt_len (al := al) (m := m) (by omega); omega, ⟨hI.new (by omega) (fun j hj => hmin j (by omega)) (by omega), l_t57, k_t57⟩, h.cut (is := [1, 1]) (js := [0, 6]) ⟨rfl, rfl, trivial⟩ rfl rfl⟩
                           exact GAs.nil
                         exact GAs.nil
                       refine GAs.cons (i := 8) rfl rfl (t_cut_l (j := 3) rfl rfl rfl rfl Try.underlying22 sz_3 (by omega) (by omega) (by omega)) (by rintro a w h; exact h.mem (is := [1, 1, 1]) (js := [2, 3, 4, 5]) rfl rfl) ?_ ?_
                       · refine GA.all (rs := [4]) (by kernel_rfl) (by simp) ?_
                         refine GAs.cons (i := 4) rfl rfl (t_appendS (i := 0) (k := 1) rfl el_22 rfl rfl rfl rfl (by first | omega | (simp [seg]; omega)) (fun _ => rfl)) (by rintro a w ⟨_, h⟩; exact h.mem (is := [1, 1, 1]) (js := [2, 3, 4, 5]) rfl rfl) (GA.ex fun v61 => ?_) ?_
                         · refine GA.all (rs := [9]) (by kernel_rfl) (by simp) ?_
                           refine GAs.cons (i := 9) rfl rfl (t_appendS (i := 0) (k := 0) rfl el_22 rfl rfl rfl rfl (by first | omega | (simp [seg]; omega)) (fun _ => rfl)) (by rintro a w ⟨_, h⟩; exact h.mem (is := [1, 1, 1]) (js := [2, 3, 4, 5]) rfl rfl) (GA.ex fun v66 => ?_) ?_
                           · refine GA.take 10 rfl (by kernel_rfl) (by kernel_rfl) (by kernel_rfl) rfl (fun a w h => h.mem (is := [1, 1, 1]) (js := [2, 3, 4, 5]) rfl rfl) (i_pure (p_assign rfl)) ?_
                             refine GA.rowIs (i := 0) (m' := (rmAt al m).length) (cs' := (rmAt al m).map (Value.int .i64)) rfl (by first | rfl | (simp [rmAt, seg]; done) | (simp [rmAt, seg]; omega)) (by first | rfl | (simp [rmAt, seg]; done)) rfl ?_
                             refine GA.shape (i := 0) rfl (fun A_t57 c_t57 e_t57 l_t57 k_t57 => ?_)
                             subst e_t57
                             refine GA.freezeI (i := 0) rfl ?_
                             refine GA.done (by kernel_rfl) ?_
                             exact fun a w h => ⟨(rmAt al m), (_), (_), (o ++ [gt al (m : Int)]), (_), (_), by have := rmAt_len (al := al) (m := m) (by omega); omega, ⟨hI.new (by omega) (fun j hj => hmin j (by omega)) (by omega), l_t57, k_t57⟩, h.cut (is := [1, 1]) (js := [0, 6]) ⟨rfl, rfl, trivial⟩ rfl rfl⟩
                           exact GAs.nil
                         exact GAs.nil
                       exact GAs.nil
                     refine GAs.cons (i := 8) rfl rfl (t_cut_l (j := 2) rfl rfl rfl rfl Try.underlying22 sz_3 (by omega) (by omega) (by omega)) (by rintro a w h; exact h.mem (is := [1, 1, 1]) (js := [1, 2, 3, 4]) rfl rfl) ?_ ?_
                     · refine GA.all (rs := [3]) (by kernel_rfl) (by simp) ?_
                       refine GAs.cons (i := 3) rfl rfl (t_cut_h (j := 3) rfl rfl rfl rfl Try.underlying22 sz_3 (by omega) (by omega) (by omega)) (by rintro a w h; exact h.mem (is := [1, 1, 1]) (js := [2, 3, 4, 5]) rfl rfl) ?_ ?_
                       · refine GA.torow (i := 0) (m := 0) (sz := 1) rfl rfl (by decide) rfl ?_
                         refine GA.all (rs := [4]) (by kernel_rfl) (by simp) ?_
                         refine GAs.cons (i := 4) rfl rfl (t_appendS (i := 0) (k := 0) rfl el_22 rfl rfl rfl rfl (by first | omega | (simp [seg]; omega)) (fun _ => rfl)) (by rintro a w ⟨_, h⟩; exact h.mem (is := [1, 1, 1]) (js := [2, 3, 4, 5]) rfl rfl) (GA.ex fun v61 => ?_) ?_
                         · refine GA.all (rs := [9]) (by kernel_rfl) (by simp) ?_
                           refine GAs.cons (i := 9) rfl rfl (t_appendS (i := 0) (k := 1) rfl el_22 rfl rfl rfl rfl (by first | omega | (simp [seg]; omega)) (fun _ => rfl)) (by rintro a w ⟨_, h⟩; exact h.mem (is := [1, 1, 1]) (js := [2, 3, 4, 5]) rfl rfl) (GA.ex fun v66 => ?_) ?_
                           · refine GA.take 10 rfl (by kernel_rfl) (by kernel_rfl) (by kernel_rfl) rfl (fun a w h => h.mem (is := [1, 1, 1]) (js := [2, 3, 4, 5]) rfl rfl) (i_pure (p_assign rfl)) ?_
                             refine GA.rowIs (i := 0) (m' := (rmAt al m).length) (cs' := (rmAt al m).map (Value.int .i64)) rfl (by first | rfl | (simp [rmAt, seg]; done) | (simp [rmAt, seg]; omega)) (by first | rfl | (simp [rmAt, seg]; done)) rfl ?_
                             refine GA.shape (i := 0) rfl (fun A_t57 c_t57 e_t57 l_t57 k_t57 => ?_)
                             subst e_t57
                             refine GA.freezeI (i := 0) rfl ?_
                             refine GA.done (by kernel_rfl) ?_
                             exact fun a w h => ⟨(rmAt al m), (_), (_), (o ++ [gt al (m : Int)]), (_), (_), by have := rmAt_len (al := al) (m := m) (by omega); omega, ⟨hI.new (by omega) (fun j hj => hmin j (by omega)) (by omega), l_t57, k_t57⟩, h.cut (is := [1, 1]) (js := [0, 6]) ⟨rfl, rfl, trivial⟩ rfl rfl⟩
                           exact GAs.nil
                         exact GAs.nil
                       exact GAs.nil
                     exact GAs.nil
                   refine GAs.cons (i := 3) rfl rfl (t_cut_h (j := 2) rfl rfl rfl rfl Try.underlying22 sz_3 (by omega) (by omega) (by omega)) (by rintro a w h; exact h.mem (is := [0, 0, 0]) (js := [1, 2, 3, 4]) rfl rfl) ?_ ?_
                   · refine GA.all (rs := [0, 8]) (by kernel_rfl) (by simp) ?_
                     refine GAs.cons (i := 0) rfl rfl (t_buildSlice rfl Try.underlying22 sz_3 ze_3 rfl rfl rfl rfl rfl rfl) (by rintro a w ⟨_, h⟩; exact h.mem (is := [1, 1, 1]) (js := [1, 2, 3, 4]) rfl rfl) (GA.ex fun b_t57 => ?_) ?_
                     · refine GA.torow (i := 0) (m := 0) (sz := 1) rfl rfl (by decide) rfl ?_
                       refine GA.all (rs := [4, 8]) (by kernel_rfl) (by simp) ?_
                       refine GAs.cons (i := 4) rfl rfl (t_appendS (i := 0) (k := 0) rfl el_22 rfl rfl rfl rfl (by first | omega | (simp [seg]; omega)) (fun _ => rfl)) (by rintro a w ⟨_, h⟩; exact h.mem (is := [1, 1, 1]) (js := [1, 2, 3, 4]) rfl rfl) (GA.ex fun v61 => ?_) ?_
                       · refine GA.all (rs := [8]) (by kernel_rfl) (by simp) ?_
                         refine GAs.cons (i := 8) rfl rfl (t_cut_l (j := 3) rfl rfl rfl rfl Try.underlying22 sz_3 (by omega) (by omega) (by omega)) (by rintro a w h; exact h.mem (is := [1, 1, 1]) (js := [2, 3, 4, 5]) rfl rfl) ?_ ?_
                         · refine GA.all (rs := [9]) (by kernel_rfl) (by simp) ?_
                           refine GAs.cons (i := 9) rfl rfl (t_appendS (i := 0) (k := 0) rfl el_22 rfl rfl rfl rfl (by first | omega | (simp [seg]; omega)) (fun _ => rfl)) (by rintro a w ⟨_, h⟩; exact h.mem (is := [1, 1, 1]) (js := [2, 3, 4, 5]) rfl rfl) (GA.ex fun v66 => ?_) ?_
                           · refine GA.take 10 rfl (by kernel_rfl) (by kernel_rfl) (by kernel_rfl) rfl (fun a w h => h.mem (is := [1, 1, 1]) (js := [2, 3, 4, 5]) rfl rfl) (i_pure (p_assign rfl)) ?_
                             refine GA.rowIs (i := 0) (m' := (rmAt al m).length) (cs' := (rmAt al m).map (Value.int .i64)) rfl (by first | rfl | (simp [rmAt, seg]; done) | (simp [rmAt, seg]; omega)) (by first | rfl | (simp [rmAt, seg]; done)) rfl ?_
                             refine GA.shape (i := 0) rfl (fun A_t57 c_t57 e_t57 l_t57 k_t57 => ?_)
                             subst e_t57
                             refine GA.freezeI (i := 0) rfl ?_
                             refine GA.done (by kernel_rfl) ?_
                             exact fun a w h => ⟨(rmAt al m), (_), (_), (o ++ [gt al (m : Int)]), (_), (_), by have := rmAt_len (al := al) (m := m) (by omega); omega, ⟨hI.new (by omega) (fun j hj => hmin j (by omega)) (by omega), l_t57, k_t57⟩, h.cut (is := [1, 1]) (js := [0, 6]) ⟨rfl, rfl, trivial⟩ rfl rfl⟩
                           exact GAs.nil
                         exact GAs.nil
                       refine GAs.cons (i := 8) rfl rfl (t_cut_l (j := 3) rfl rfl rfl rfl Try.underlying22 sz_3 (by omega) (by omega) (by omega)) (by rintro a w h; exact h.mem (is := [1, 1, 1]) (js := [2, 3, 4, 5]) rfl rfl) ?_ ?_
                       · refine GA.all (rs := [4]) (by kernel_rfl) (by simp) ?_
                         refine GAs.cons (i := 4) rfl rfl (t_appendS (i := 0) (k := 1) rfl el_22 rfl rfl rfl rfl (by first | omega | (simp [seg]; omega)) (fun _ => rfl)) (by rintro a w ⟨_, h⟩; exact h.mem (is := [1, 1, 1]) (js := [2, 3, 4, 5]) rfl rfl) (GA.ex fun v61 => ?_) ?_
                         · refine GA.all (rs := [9]) (by kernel_rfl) (by simp) ?_
                           refine GAs.cons (i := 9) rfl rfl (t_appendS (i := 0) (k := 0) rfl el_22 rfl rfl rfl rfl (by first | omega | (simp [seg]; omega)) (fun _ => rfl)) (by rintro a w ⟨_, h⟩; exact h.mem (is := [1, 1, 1]) (js := [2, 3, 4, 5]) rfl rfl) (GA.ex fun v66 => ?_) ?_
                           · refine GA.take 10 rfl (by kernel_rfl) (by kernel_rfl) (by kernel_rfl) rfl (fun a w h => h.mem (is := [1, 1, 1]) (js := [2, 3, 4, 5]) rfl rfl) (i_pure (p_assign rfl)) ?_
                             refine GA.rowIs (i := 0) (m' := (rmAt al m).length) (cs' := (rmAt al m).map (Value.int .i64)) rfl (by first | rfl | (simp [rmAt, seg]; done) | (simp [rmAt, seg]; omega)) (by first | rfl | (simp [rmAt, seg]; done)) rfl ?_
                             refine GA.shape (i := 0) rfl (fun A_t57 c_t57 e_t57 l_t57 k_t57 => ?_)
                             subst e_t57
                             refine GA.freezeI (i := 0) rfl ?_
                             refine GA.done (by kernel_rfl) ?_
                             exact fun a w h => ⟨(rmAt al m), (_), (_), (o ++ [gt al (m : Int)]), (_), (_), by have := rmAt_len (al := al) (m := m) (by omega); omega, ⟨hI.new (by omega) (fun j hj => hmin j (by omega)) (by omega), l_t57, k_t57⟩, h.cut (is := [1, 1]) (js := [0, 6]) ⟨rfl, rfl, trivial⟩ rfl rfl⟩
                           exact GAs.nil
                         exact GAs.nil
                       exact GAs.nil
                     refine GAs.cons (i := 8) rfl rfl (t_cut_l (j := 3) rfl rfl rfl rfl Try.underlying22 sz_3 (by omega) (by omega) (by omega)) (by rintro a w h; exact h.mem (is := [0, 0, 0]) (js := [2, 3, 4, 5]) rfl rfl) ?_ ?_
                     · refine GA.all (rs := [0]) (by kernel_rfl) (by simp) ?_
                       refine GAs.cons (i := 0) rfl rfl (t_buildSlice rfl Try.underlying22 sz_3 ze_3 rfl rfl rfl rfl rfl rfl) (by rintro a w ⟨_, h⟩; exact h.mem (is := [1, 1, 1]) (js := [2, 3, 4, 5]) rfl rfl) (GA.ex fun b_t57 => ?_) ?_
                       · refine GA.torow (i := 0) (m := 0) (sz := 1) rfl rfl (by decide) rfl ?_
                         refine GA.all (rs := [4]) (by kernel_rfl) (by simp) ?_
                         refine GAs.cons (i := 4) rfl rfl (t_appendS (i := 0) (k := 1) rfl el_22 rfl rfl rfl rfl (by first | omega | (simp [seg]; omega)) (fun _ => rfl)) (by rintro a w ⟨_, h⟩; exact h.mem (is := [1, 1, 1]) (js := [2, 3, 4, 5]) rfl rfl) (GA.ex fun v61 => ?_) ?_
                         · refine GA.all (rs := [9]) (by kernel_rfl) (by simp) ?_
                           refine GAs.cons (i := 9) rfl rfl (t_appendS (i := 0) (k := 0) rfl el_22 rfl rfl rfl rfl (by first | omega | (simp [seg]; omega)) (fun _ => rfl)) (by rintro a w ⟨_, h⟩; exact h.mem (is := [1, 1, 1]) (js := [2, 3, 4, 5]) rfl rfl) (GA.ex fun v66 => ?_) ?_
                           · refine GA.take 10 rfl (by kernel_rfl) (by kernel_rfl) (by kernel_rfl) rfl (fun a w h => h.mem (is := [1, 1, 1]) (js := [2, 3, 4, 5]) rfl rfl) (i_pure (p_assign rfl)) ?_
                             refine GA.rowIs (i := 0) (m' := (rmAt al m).length) (cs' := (rmAt al m).map (Value.int .i64)) rfl (by first | rfl | (simp [rmAt, seg]; done) | (simp [rmAt, seg]; omega)) (by first | rfl | (simp [rmAt, seg]; done)) rfl ?_
                             refine GA.shape (i := 0) rfl (fun A_t57 c_t57 e_t57 l_t57 k_t57 => ?_)
                             subst e_t57
                             refine GA.freezeI (i := 0) rfl ?_
                             refine GA.done (by kernel_rfl) ?_
                             exact fun a w h => ⟨(rmAt al m), (_), (_), (o ++ [gt al (m : Int)]), (_), (_), by have := rmAt_len (al := al) (m := m) (by omega); omega, ⟨hI.new (by omega) (fun j hj => hmin j (by omega)) (by omega), l_t57, k_t57⟩, h.cut (is := [1, 1]) (js := [0, 6]) ⟨rfl, rfl, trivial⟩ rfl rfl⟩
                           exact GAs.nil
                         exact GAs.nil
                       exact GAs.nil
                     exact GAs.nil
                   refine GAs.cons (i := 8) rfl rfl (t_cut_l (j := 2) rfl rfl rfl rfl Try.underlying22 sz_3 (by omega) (by omega) (by omega)) (by rintro a w h; exact h.mem (is := [0, 0, 0]) (js := [1, 2, 3, 4]) rfl rfl) ?_ ?_
                   · refine GA.all (rs := [0, 3]) (by kernel_rfl) (by simp) ?_
                     refine GAs.cons (i := 0) rfl rfl (t_buildSlice rfl Try.underlying22 sz_3 ze_3 rfl rfl rfl rfl rfl rfl) (by rintro a w ⟨_, h⟩; exact h.mem (is := [1, 1, 1]) (js := [1, 2, 3, 4]) rfl rfl) (GA.ex fun b_t57 => ?_) ?_
                     · refine GA.all (rs := [3]) (by kernel_rfl) (by simp) ?_
                       refine GAs.cons (i := 3) rfl rfl (t_cut_h (j := 3) rfl rfl rfl rfl Try.underlying22 sz_3 (by omega) (by omega) (by omega)) (by rintro a w h; exact h.mem (is := [1, 1, 1]) (js := [2, 3, 4, 5]) rfl rfl) ?_ ?_
                       · refine GA.torow (i := 0) (m := 0) (sz := 1) rfl rfl (by decide) rfl ?_
                         refine GA.all (rs := [4]) (by kernel_rfl) (by simp) ?_
                         refine GAs.cons (i := 4) rfl rfl (t_appendS (i := 0) (k := 0) rfl el_22 rfl rfl rfl rfl (by first | omega | (simp [seg]; omega)) (fun _ => rfl)) (by rintro a w ⟨_, h⟩; exact h.mem (is := [1, 1, 1]) (js := [2, 3, 4, 5]) rfl rfl) (GA.ex fun v61 => ?_) ?_
                         · refine GA.all (rs := [9]) (by kernel_rfl) (by simp) ?_
                           refine GAs.cons (i := 9) rfl rfl (t_appendS (i := 0) (k := 1) rfl el_22 rfl rfl rfl rfl (by first | omega | (simp [seg]; omega)) (fun _ => rfl)) (by rintro a w ⟨_, h⟩; exact h.mem (is := [1, 1, 1]) (js := [2, 3, 4, 5]) rfl rfl) (GA.ex fun v66 => ?_) ?_
                           · refine GA.take 10 rfl (by kernel_rfl) (by kernel_rfl) (by kernel_rfl) rfl (fun a w h => h.mem (is := [1, 1, 1]) (js := [2, 3, 4, 5]) rfl rfl) (i_pure (p_assign rfl)) ?_
                             refine GA.rowIs (i := 0) (m' := (rmAt al m).length) (cs' := (rmAt al m).map (Value.int .i64)) rfl (by first | rfl | (simp [rmAt, seg]; done) | (simp [rmAt, seg]; omega)) (by first | rfl | (simp [rmAt, seg]; done)) rfl ?_
                             refine GA.shape (i := 0) rfl (fun A_t57 c_t57 e_t57 l_t57 k_t57 => ?_)
                             subst e_t57
                             refine GA.freezeI (i := 0) rfl ?_
                             refine GA.done (by kernel_rfl) ?_
                             exact fun a w h => ⟨(rmAt al m), (_), (_), (o ++ [gt al (m : Int)]), (_), (_), by have := rmAt_len (al := al) (m := m) (by omega); omega, ⟨hI.new (by omega) (fun j hj => hmin j (by omega)) (by omega), l_t57, k_t57⟩, h.cut (is := [1, 1]) (js := [0, 6]) ⟨rfl, rfl, trivial⟩ rfl rfl⟩
                           exact GAs.nil
                         exact GAs.nil
                       exact GAs.nil
                     refine GAs.cons (i := 3) rfl rfl (t_cut_h (j := 3) rfl rfl rfl rfl Try.underlying22 sz_3 (by omega) (by omega) (by omega)) (by rintro a w h; exact h.mem (is := [0, 0, 0]) (js := [2, 3, 4, 5]) rfl rfl) ?_ ?_
                     · refine GA.all (rs := [0]) (by kernel_rfl) (by simp) ?_
                       refine GAs.cons (i := 0) rfl rfl (t_buildSlice rfl Try.underlying22 sz_3 ze_3 rfl rfl rfl rfl rfl rfl) (by rintro a w ⟨_, h⟩; exact h.mem (is := [1, 1, 1]) (js := [2, 3, 4, 5]) rfl rfl) (GA.ex fun b_t57 => ?_) ?_
                       · refine GA.torow (i := 0) (m := 0) (sz := 1) rfl rfl (by decide) rfl ?_
                         refine GA.all (rs := [4]) (by kernel_rfl) (by simp) ?_
                         refine GAs.cons (i := 4) rfl rfl (t_appendS (i := 0) (k := 0) rfl el_22 rfl rfl rfl rfl (by first | omega | (simp [seg]; omega)) (fun _ => rfl)) (by rintro a w ⟨_, h⟩; exact h.mem (is := [1, 1, 1]) (js := [2, 3, 4, 5]) rfl rfl) (GA.ex fun v61 => ?_) ?_
                         · refine GA.all (rs := [9]) (by kernel_rfl) (by simp) ?_
                           refine GAs.cons (i := 9) rfl rfl (t_appendS (i := 0) (k := 1) rfl el_22 rfl rfl rfl rfl (by first | omega | (simp [seg]; omega)) (fun _ => rfl)) (by rintro a w ⟨_, h⟩; exact h.mem (is := [1, 1, 1]) (js := [2, 3, 4, 5]) rfl rfl) (GA.ex fun v66 => ?_) ?_
                           · refine GA.take 10 rfl (by kernel_rfl) (by kernel_rfl) (by kernel_rfl) rfl (fun a w h => h.mem (is := [1, 1, 1]) (js := [2, 3, 4, 5]) rfl rfl) (i_pure (p_assign rfl)) ?_
                             refine GA.rowIs (i := 0) (m' := (rmAt al m).length) (cs' := (rmAt al m).map (Value.int .i64)) rfl (by first | rfl | (simp [rmAt, seg]; done) | (simp [rmAt, seg]; omega)) (by first | rfl | (simp [rmAt, seg]; done)) rfl ?_
                             refine GA.shape (i := 0) rfl (fun A_t57 c_t57 e_t57 l_t57 k_t57 => ?_)
                             subst e_t57
                             refine GA.freezeI (i := 0) rfl ?_
                             refine GA.done (by kernel_rfl) ?_
                             exact fun a w h => ⟨(rmAt al m), (_), (_), (o ++ [gt al (m : Int)]), (_), (_), by have := rmAt_len (al := al) (m := m) (by omega); omega, ⟨hI.new (by omega) (fun j hj => hmin j (by omega)) (by omega), l_t57, k_t57⟩, h.cut (is := [1, 1]) (js := [0, 6]) ⟨rfl, rfl, trivial⟩ rfl rfl⟩
                           exact GAs.nil
                         exact GAs.nil
                       exact GAs.nil
                     exact GAs.nil
                   exact GAs.nil)
              · try simp only [decide_eq_true_eq, decide_eq_false_iff_not, Bool.not_eq_true', Bool.not_eq_false', Bool.not_true, Bool.not_false, Bool.not_not, ne_eq, Decidable.not_not, Int.not_lt, Int.not_le, gt_iff_lt, ge_iff_le, bool_true_eq_, bool_false_eq_] at h4
                first
                | (exfalso; omega)
                | (skip
                   refine GQ.stepG (s := 37) rfl rfl rfl (q_pure (p_move rfl)) ?_
                   refine GQ.stepG (s := 37) rfl rfl rfl (q_pure (p_move rfl)) ?_
                   refine GQ.stepG (s := 37) rfl rfl rfl (q_pure (p_len Try.underlying22 rfl)) ?_
                   refine GQ.stepG (s := 37) rfl rfl rfl (q_pure (p_sub rfl rfl (w64 (by omega) (by omega)))) ?_
                   exact (by omega : False).elim)
            · skip
              refine GC.unrow (i := 0) rfl (by omega) (fun _ _ => rfl) (fun b_o sp_o e_o n_o l_o k_o => ?_)
              subst e_o
              refine GC.layQ (y := .tmp 7) (j := 0) rfl rfl (by omega) (gt_ok (by omega) (by omega)) (fun p_x46 r_x46 hA_x46 ok_x46 => ?_)
              rcases r_x46 with _
              refine GC.regionQ wide_ (by kernel_rfl) ?_
              refine GQ.step rfl (q_pure (p_move rfl)) ?_
              refine GQ.step rfl (q_pure (p_len Try.underlying22 rfl)) ?_
              refine GQ.step rfl (q_pure (p_eql rfl rfl)) ?_
              refine GQ.step rfl (q_pure (p_move rfl)) ?_
              refine GQ.split (i := 37) rfl (fun h5 => ?_) (fun h5 => ?_)
              · try simp only [decide_eq_true_eq, decide_eq_false_iff_not, Bool.not_eq_true', Bool.not_eq_false', Bool.not_true, Bool.not_false, Bool.not_not, ne_eq, Decidable.not_not, Int.not_lt, Int.not_le, gt_iff_lt, ge_iff_le, bool_true_eq_, bool_false_eq_] at h5
                first
                | (exfalso; omega)
                | (skip
                   refine GQ.pass (s := 37) rfl rfl rfl ?_
                   refine GQ.pass (s := 37) rfl rfl rfl ?_
                   refine GQ.pass (s := 37) rfl rfl rfl ?_
                   refine GQ.pass (s := 37) rfl rfl rfl ?_
                   refine GQ.pass (s := 37) rfl rfl rfl ?_
                   refine GQ.pass (s := 37) rfl rfl rfl ?_
                   refine GQ.pass (s := 37) rfl rfl rfl ?_
                   refine GQ.pass (s := 37) rfl rfl rfl ?_
                   refine GQ.pass (s := 37) rfl rfl rfl ?_
                   refine GQ.pass (s := 37) rfl rfl rfl ?_
                   refine GQ.pass (s := 37) rfl rfl rfl ?_
                   refine GQ.step rfl (q_pure (p_pick_true rfl rfl)) ?_
                   refine GQ.nil (?_ : GC _ _ _ _)
                   refine GC.cond_true rfl ?_
                   refine GC.region ?_
                   refine GL.rerow (i := 0) (sz := 1) (m := (o).length) ((o).map (Value.int .i64)) sp_o rfl rfl (by simp) n_o l_o k_o rfl ?_
                   refine GL.pure rfl (p_move rfl) ?_
                   refine GL.pure rfl (p_move rfl) ?_
                   refine GL.pure rfl (p_move rfl) ?_
                   refine GL.step rfl (t_index (i := 1) rfl rfl rfl rfl Try.underlying22 sz_3 (by omega) (gt_ok (by omega) (by omega))) (GL.ex fun p_x53 => GL.ex fun r_x53 => GL.and fun ok_x53 => ?_)
                   rcases r_x53 with _
                   refine GL.step rfl (t_mem rfl (m_loadP (i := 0) rfl rfl ag_3 rfl)) ?_
                   refine GL.step rfl (t_buildSlice rfl Try.underlying22 sz_3 ze_3 rfl rfl rfl rfl rfl rfl) (GL.ex fun b_t55 => ?_)
                   refine GL.step rfl (t_append (i := 1) (k := 0) rfl el_22 rfl rfl rfl rfl rfl (allOne_mem rfl) (by first | omega | (simp [seg]; omega)) (fun _ => rfl)) (GL.ex fun v56 => ?_)
                   refine GL.rowIs (i := 1) (m' := (o ++ [gt al (m : Int)]).length) (cs' := (o ++ [gt al (m : Int)]).map (Value.int .i64)) rfl (by first | rfl | (simp [rmAt, seg]; done) | (simp [rmAt, seg]; omega)) (by first | rfl | (simp [rmAt, seg]; done)) rfl ?_
                   refine GL.shape (i := 1) rfl (fun A_D c_D e_D l_D k_D => ?_)
                   subst e_D
                   refine GL.pure rfl (p_assign rfl) ?_
                   refine GL.nil (?_ : GC _ _ _ _)
                   refine GC.regionC (m := 11) (is := [0, 0, 0]) (js := [0, 1, 2, 3]) wide_ rfl rfl rfl ?_
                   refine GA.take 1 rfl (by kernel_rfl) (by kernel_rfl) (by kernel_rfl) rfl (fun a w h => h.mem (is := [0, 0, 0]) (js := [0, 1, 2, 3]) rfl rfl) (i_pure (p_move rfl)) ?_
                   refine GA.take 2 rfl (by kernel_rfl) (by kernel_rfl) (by kernel_rfl) rfl (fun a w h => h.mem (is := [0, 0, 0]) (js := [0, 1, 2, 3]) rfl rfl) (i_pure (p_move rfl)) ?_
                   refine GA.take 5 rfl (by kernel_rfl) (by kernel_rfl) (by kernel_rfl) rfl (fun a w h => h.mem (is := [0, 0, 0]) (js := [0, 1, 2, 3]) rfl rfl) (i_pure (p_move rfl)) ?_
                   refine GA.take 6 rfl (by kernel_rfl) (by kernel_rfl) (by kernel_rfl) rfl (fun a w h => h.mem (is := [0, 0, 0]) (js := [0, 1, 2, 3]) rfl rfl) (i_pure (p_move rfl)) ?_
                   refine GA.take 7 rfl (by kernel_rfl) (by kernel_rfl) (by kernel_rfl) rfl (fun a w h => h.mem (is := [0, 0, 0]) (js := [0, 1, 2, 3]) rfl rfl) (i_pure (p_add rfl rfl (w64 (by omega) (by omega)))) ?_
                   refine GA.all (rs := [0, 3, 8]) (by kernel_rfl) (by simp) ?_
                   refine GAs.cons (i := 0) rfl rfl (t_buildSlice rfl Try.underlying22 sz_3 ze_3 rfl rfl rfl rfl rfl rfl) (by rintro a w ⟨_, h⟩; exact h.mem (is := [1, 1, 1]) (js := [0, 1, 2, 3]) rfl rfl) (GA.ex fun b_t57 => ?_) ?_
                   · refine GA.all (rs := [3, 8]) (by kernel_rfl) (by simp) ?_
                     refine GAs.cons (i := 3) rfl rfl (t_cut_h (j := 2) rfl rfl rfl rfl Try.underlying22 sz_3 (by omega) (by omega) (by omega)) (by rintro a w h; exact h.mem (is := [1, 1, 1]) (js := [1, 2, 3, 4]) rfl rfl) ?_ ?_
                     · refine GA.torow (i := 0) (m := 0) (sz := 1) rfl rfl (by decide) rfl ?_
                       refine GA.all (rs := [4, 8]) (by kernel_rfl) (by simp) ?_
                       refine GAs.cons (i := 4) rfl rfl (t_appendS (i := 0) (k := 0) rfl el_22 rfl rfl rfl rfl (by first | omega | (simp [seg]; omega)) (fun _ => rfl)) (by rintro a w ⟨_, h⟩; exact h.mem (is := [1, 1, 1]) (js := [1, 2, 3, 4]) rfl rfl) (GA.ex fun v61 => ?_) ?_
                       · refine GA.all (rs := [8]) (by kernel_rfl) (by simp) ?_
                         refine GAs.cons (i := 8) rfl rfl (t_cut_l (j := 3) rfl rfl rfl rfl Try.underlying22 sz_3 (by omega) (by omega) (by omega)) (by rintro a w h; exact h.mem (is := [1, 1, 1]) (js := [2, 3, 4, 5]) rfl rfl) ?_ ?_
                         · refine GA.all (rs := [9]) (by kernel_rfl) (by simp) ?_
                           refine GAs.cons (i := 9) rfl rfl (t_appendS (i := 0) (k := 0) rfl el_22 rfl rfl rfl rfl (by first | omega | (simp [seg]; omega)) (fun _ => rfl)) (by rintro a w ⟨_, h⟩; exact h.mem (is := [1, 1, 1]) (js := [2, 3, 4, 5]) rfl rfl) (GA.ex fun v66 => ?_) ?_
                           · refine GA.take 10 rfl (by kernel_rfl) (by kernel_rfl) (by kernel_rfl) rfl (fun a w h => h.mem (is := [1, 1, 1]) (js := [2, 3, 4, 5]) rfl rfl) (i_pure (p_assign rfl)) ?_
                             refine GA.rowIs (i := 0) (m' := (rmAt al m).length) (cs' := (rmAt al m).map (Value.int .i64)) rfl (by first | rfl | (simp [rmAt, seg]; done) | (simp [rmAt, seg]; omega)) (by first | rfl | (simp [rmAt, seg]; done)) rfl ?_
                             refine GA.shape (i := 0) rfl (fun A_t57 c_t57 e_t57 l_t57 k_t57 => ?_)
                             subst e_t57
                             refine GA.freezeI (i := 0) rfl ?_
                             refine GA.done (by kernel_rfl) ?_
                             exact fun a w h => ⟨(rmAt al m), (_), (_), (o ++ [gt al (m : Int)]), (_), (_), by have := rmAt_len (al := al) (m := m) (by omega); omega, ⟨hI.new (by omega) (fun j hj => hmin j (by omega)) (by omega), l_t57, k_t57⟩, h.cut (is := [1, 1]) (js := [0, 6]) ⟨rfl, rfl, trivial⟩ rfl rfl⟩
                           exact GAs.nil
                         exact GAs.nil
                       refine GAs.cons (i := 8) rfl rfl (t_cut_l (j := 3) rfl rfl rfl rfl Try.underlying22 sz_3 (by omega) (by omega) (by omega)) (by rintro a w h; exact h.mem (is := [1, 1, 1]) (js := [2, 3, 4, 5]) rfl rfl) ?_ ?_
                       · refine GA.all (rs := [4]) (by kernel_rfl) (by simp) ?_
                         refine GAs.cons (i := 4) rfl rfl (t_appendS (i := 0) (k := 1) rfl el_22 rfl rfl rfl rfl (by first | omega | (simp [seg]; omega)) (fun _ => rfl)) (by rintro a w ⟨_, h⟩; exact h.mem (is := [1, 1, 1]) (js := [2, 3, 4, 5]) rfl rfl) (GA.ex fun v61 => ?_) ?_
                         · refine GA.all (rs := [9]) (by kernel_rfl) (by simp) ?_
                           refine GAs.cons (i := 9) rfl rfl (t_appendS (i := 0) (k := 0) rfl el_22 rfl rfl rfl rfl (by first | omega | (simp [seg]; omega)) (fun _ => rfl)) (by rintro a w ⟨_, h⟩; exact h.mem (is := [1, 1, 1]) (js := [2, 3, 4, 5]) rfl rfl) (GA.ex fun v66 => ?_) ?_
                           · refine GA.take 10 rfl (by kernel_rfl) (by kernel_rfl) (by kernel_rfl) rfl (fun a w h => h.mem (is := [1, 1, 1]) (js := [2, 3, 4, 5]) rfl rfl) (i_pure (p_assign rfl)) ?_
                             refine GA.rowIs (i := 0) (m' := (rmAt al m).length) (cs' := (rmAt al m).map (Value.int .i64)) rfl (by first | rfl | (simp [rmAt, seg]; done) | (simp [rmAt, seg]; omega)) (by first | rfl | (simp [rmAt, seg]; done)) rfl ?_
                             refine GA.shape (i := 0) rfl (fun A_t57 c_t57 e_t57 l_t57 k_t57 => ?_)
                             subst e_t57
                             refine GA.freezeI (i := 0) rfl ?_
                             refine GA.done (by kernel_rfl) ?_
                             exact fun a w h => ⟨(rmAt al m), (_), (_), (o ++ [gt al (m : Int)]), (_), (_), by have := rmAt_len (al := al) (m := m) (by omega); omega, ⟨hI.new (by omega) (fun j hj => hmin j (by omega)) (by omega), l_t57, k_t57⟩, h.cut (is := [1, 1]) (js := [0, 6]) ⟨rfl, rfl, trivial⟩ rfl rfl⟩
                           exact GAs.nil
                         exact GAs.nil
                       exact GAs.nil
                     refine GAs.cons (i := 8) rfl rfl (t_cut_l (j := 2) rfl rfl rfl rfl Try.underlying22 sz_3 (by omega) (by omega) (by omega)) (by rintro a w h; exact h.mem (is := [1, 1, 1]) (js := [1, 2, 3, 4]) rfl rfl) ?_ ?_
                     · refine GA.all (rs := [3]) (by kernel_rfl) (by simp) ?_
                       refine GAs.cons (i := 3) rfl rfl (t_cut_h (j := 3) rfl rfl rfl rfl Try.underlying22 sz_3 (by omega) (by omega) (by omega)) (by rintro a w h; exact h.mem (is := [1, 1, 1]) (js := [2, 3, 4, 5]) rfl rfl) ?_ ?_
                       · refine GA.torow (i := 0) (m := 0) (sz := 1) rfl rfl (by decide) rfl ?_
                         refine GA.all (rs := [4]) (by kernel_rfl) (by simp) ?_
                         refine GAs.cons (i := 4) rfl rfl (t_appendS (i := 0) (k := 0) rfl el_22 rfl rfl rfl rfl (by first | omega | (simp [seg]; omega)) (fun _ => rfl)) (by rintro a w ⟨_, h⟩; exact h.mem (is := [1, 1, 1]) (js := [2, 3, 4, 5]) rfl rfl) (GA.ex fun v61 => ?_) ?_
                         · refine GA.all (rs := [9]) (by kernel_rfl) (by simp) ?_
                           refine GAs.cons (i := 9) rfl rfl (t_appendS (i := 0) (k := 1) rfl el_22 rfl rfl rfl rfl (by first | omega | (simp [seg]; omega)) (fun _ => rfl)) (by rintro a w ⟨_, h⟩; exact h.mem (is := [1, 1, 1]) (js := [2, 3, 4, 5]) rfl rfl) (GA.ex fun v66 => ?_) ?_
                           · refine GA.take 10 rfl (by kernel_rfl) (by kernel_rfl) (by kernel_rfl) rfl (fun a w h => h.mem (is := [1, 1, 1]) (js := [2, 3, 4, 5]) rfl rfl) (i_pure (p_assign rfl)) ?_
                             refine GA.rowIs (i := 0) (m' := (rmAt al m).length) (cs' := (rmAt al m).map (Value.int .i64)) rfl (by first | rfl | (simp [rmAt, seg]; done) | (simp [rmAt, seg]; omega)) (by first | rfl | (simp [rmAt, seg]; done)) rfl ?_
                             refine GA.shape (i := 0) rfl (fun A_t57 c_t57 e_t57 l_t57 k_t57 => ?_)
                             subst e_t57
                             refine GA.freezeI (i := 0) rfl ?_
                             refine GA.done (by kernel_rfl) ?_
                             exact fun a w h => ⟨(rmAt al m), (_), (_), (o ++ [gt al (m : Int)]), (_), (_), by have := rmAt_len (al := al) (m := m) (by omega); omega, ⟨hI.new (by omega) (fun j hj => hmin j (by omega)) (by omega), l_t57, k_t57⟩, h.cut (is := [1, 1]) (js := [0, 6]) ⟨rfl, rfl, trivial⟩ rfl rfl⟩
                           exact GAs.nil
                         exact GAs.nil
                       exact GAs.nil
                     exact GAs.nil
                   refine GAs.cons (i := 3) rfl rfl (t_cut_h (j := 2) rfl rfl rfl rfl Try.underlying22 sz_3 (by omega) (by omega) (by omega)) (by rintro a w h; exact h.mem (is := [0, 0, 0]) (js := [1, 2, 3, 4]) rfl rfl) ?_ ?_
                   · refine GA.all (rs := [0, 8]) (by kernel_rfl) (by simp) ?_
                     refine GAs.cons (i := 0) rfl rfl (t_buildSlice rfl Try.underlying22 sz_3 ze_3 rfl rfl rfl rfl rfl rfl) (by rintro a w ⟨_, h⟩; exact h.mem (is := [1, 1, 1]) (js := [1, 2, 3, 4]) rfl rfl) (GA.ex fun b_t57 => ?_) ?_
                     · refine GA.torow (i := 0) (m := 0) (sz := 1) rfl rfl (by decide) rfl ?_
                       refine GA.all (rs := [4, 8]) (by kernel_rfl) (by simp) ?_
                       refine GAs.cons (i := 4) rfl rfl (t_appendS (i := 0) (k := 0) rfl el_22 rfl rfl rfl rfl (by first | omega | (simp [seg]; omega)) (fun _ => rfl)) (by rintro a w ⟨_, h⟩; exact h.mem (is := [1, 1, 1]) (js := [1, 2, 3, 4]) rfl rfl) (GA.ex fun v61 => ?_) ?_
                       · refine GA.all (rs := [8]) (by kernel_rfl) (by simp) ?_
                         refine GAs.cons (i := 8) rfl rfl (t_cut_l (j := 3) rfl rfl rfl rfl Try.underlying22 sz_3 (by omega) (by omega) (by omega)) (by rintro a w h; exact h.mem (is := [1, 1, 1]) (js := [2, 3, 4, 5]) rfl rfl) ?_ ?_
                         · refine GA.all (rs := [9]) (by kernel_rfl) (by simp) ?_
                           refine GAs.cons (i := 9) rfl rfl (t_appendS (i := 0) (k := 0) rfl el_22 rfl rfl rfl rfl (by first | omega | (simp [seg]; omega)) (fun _ => rfl)) (by rintro a w ⟨_, h⟩; exact h.mem (is := [1, 1, 1]) (js := [2, 3, 4, 5]) rfl rfl) (GA.ex fun v66 => ?_) ?_
                           · refine GA.take 10 rfl (by kernel_rfl) (by kernel_rfl) (by kernel_rfl) rfl (fun a w h => h.mem (is := [1, 1, 1]) (js := [2, 3, 4, 5]) rfl rfl) (i_pure (p_assign rfl)) ?_
                             refine GA.rowIs (i := 0) (m' := (rmAt al m).length) (cs' := (rmAt al m).map (Value.int .i64)) rfl (by first | rfl | (simp [rmAt, seg]; done) | (simp [rmAt, seg]; omega)) (by first | rfl | (simp [rmAt, seg]; done)) rfl ?_
                             refine GA.shape (i := 0) rfl (fun A_t57 c_t57 e_t57 l_t57 k_t57 => ?_)
                             subst e_t57
                             refine GA.freezeI (i := 0) rfl ?_
                             refine GA.done (by kernel_rfl) ?_
                             exact fun a w h => ⟨(rmAt al m), (_), (_), (o ++ [gt al (m : Int)]), (_), (_), by have := rmAt_len (al := al) (m := m) (by omega); omega, ⟨hI.new (by omega) (fun j hj => hmin j (by omega)) (by omega), l_t57, k_t57⟩, h.cut (is := [1, 1]) (js := [0, 6]) ⟨rfl, rfl, trivial⟩ rfl rfl⟩
                           exact GAs.nil
                         exact GAs.nil
                       refine GAs.cons (i := 8) rfl rfl (t_cut_l (j := 3) rfl rfl rfl rfl Try.underlying22 sz_3 (by omega) (by omega) (by omega)) (by rintro a w h; exact h.mem (is := [1, 1, 1]) (js := [2, 3, 4, 5]) rfl rfl) ?_ ?_
                       · refine GA.all (rs := [4]) (by kernel_rfl) (by simp) ?_
                         refine GAs.cons (i := 4) rfl rfl (t_appendS (i := 0) (k := 1) rfl el_22 rfl rfl rfl rfl (by first | omega | (simp [seg]; omega)) (fun _ => rfl)) (by rintro a w ⟨_, h⟩; exact h.mem (is := [1, 1, 1]) (js := [2, 3, 4, 5]) rfl rfl) (GA.ex fun v61 => ?_) ?_
                         · refine GA.all (rs := [9]) (by kernel_rfl) (by simp) ?_
                           refine GAs.cons (i := 9) rfl rfl (t_appendS (i := 0) (k := 0) rfl el_22 rfl rfl rfl rfl (by first | omega | (simp [seg]; omega)) (fun _ => rfl)) (by rintro a w ⟨_, h⟩; exact h.mem (is := [1, 1, 1]) (js := [2, 3, 4, 5]) rfl rfl) (GA.ex fun v66 => ?_) ?_
                           · refine GA.take 10 rfl (by kernel_rfl) (by kernel_rfl) (by kernel_rfl) rfl (fun a w h => h.mem (is := [1, 1, 1]) (js := [2, 3, 4, 5]) rfl rfl) (i_pure (p_assign rfl)) ?_
                             refine GA.rowIs (i := 0) (m' := (rmAt al m).length) (cs' := (rmAt al m).map (Value.int .i64)) rfl (by first | rfl | (simp [rmAt, seg]; done) | (simp [rmAt, seg]; omega)) (by first | rfl | (simp [rmAt, seg]; done)) rfl ?_
                             refine GA.shape (i := 0) rfl (fun A_t57 c_t57 e_t57 l_t57 k_t57 => ?_)
                             subst e_t57
                             refine GA.freezeI (i := 0) rfl ?_
                             refine GA.done (by kernel_rfl) ?_
                             exact fun a w h => ⟨(rmAt al m), (_), (_), (o ++ [gt al (m : Int)]), (_), (_), by have := rmAt_len (al := al) (m := m) (by omega); omega, ⟨hI.new (by omega) (fun j hj => hmin j (by omega)) (by omega), l_t57, k_t57⟩, h.cut (is := [1, 1]) (js := [0, 6]) ⟨rfl, rfl, trivial⟩ rfl rfl⟩
                           exact GAs.nil
                         exact GAs.nil
                       exact GAs.nil
                     refine GAs.cons (i := 8) rfl rfl (t_cut_l (j := 3) rfl rfl rfl rfl Try.underlying22 sz_3 (by omega) (by omega) (by omega)) (by rintro a w h; exact h.mem (is := [0, 0, 0]) (js := [2, 3, 4, 5]) rfl rfl) ?_ ?_
                     · refine GA.all (rs := [0]) (by kernel_rfl) (by simp) ?_
                       refine GAs.cons (i := 0) rfl rfl (t_buildSlice rfl Try.underlying22 sz_3 ze_3 rfl rfl rfl rfl rfl rfl) (by rintro a w ⟨_, h⟩; exact h.mem (is := [1, 1, 1]) (js := [2, 3, 4, 5]) rfl rfl) (GA.ex fun b_t57 => ?_) ?_
                       · refine GA.torow (i := 0) (m := 0) (sz := 1) rfl rfl (by decide) rfl ?_
                         refine GA.all (rs := [4]) (by kernel_rfl) (by simp) ?_
                         refine GAs.cons (i := 4) rfl rfl (t_appendS (i := 0) (k := 1) rfl el_22 rfl rfl rfl rfl (by first | omega | (simp [seg]; omega)) (fun _ => rfl)) (by rintro a w ⟨_, h⟩; exact h.mem (is := [1, 1, 1]) (js := [2, 3, 4, 5]) rfl rfl) (GA.ex fun v61 => ?_) ?_
                         · refine GA.all (rs := [9]) (by kernel_rfl) (by simp) ?_
                           refine GAs.cons (i := 9) rfl rfl (t_appendS (i := 0) (k := 0) rfl el_22 rfl rfl rfl rfl (by first | omega | (simp [seg]; omega)) (fun _ => rfl)) (by rintro a w ⟨_, h⟩; exact h.mem (is := [1, 1, 1]) (js := [2, 3, 4, 5]) rfl rfl) (GA.ex fun v66 => ?_) ?_
                           · refine GA.take 10 rfl (by kernel_rfl) (by kernel_rfl) (by kernel_rfl) rfl (fun a w h => h.mem (is := [1, 1, 1]) (js := [2, 3, 4, 5]) rfl rfl) (i_pure (p_assign rfl)) ?_
                             refine GA.rowIs (i := 0) (m' := (rmAt al m).length) (cs' := (rmAt al m).map (Value.int .i64)) rfl (by first | rfl | (simp [rmAt, seg]; done) | (simp [rmAt, seg]; omega)) (by first | rfl | (simp [rmAt, seg]; done)) rfl ?_
                             refine GA.shape (i := 0) rfl (fun A_t57 c_t57 e_t57 l_t57 k_t57 => ?_)
                             subst e_t57
                             refine GA.freezeI (i := 0) rfl ?_
                             refine GA.done (by kernel_rfl) ?_
                             exact fun a w h => ⟨(rmAt al m), (_), (_), (o ++ [gt al (m : Int)]), (_), (_), by have := rmAt_len (al := al) (m := m) (by omega); omega, ⟨hI.new (by omega) (fun j hj => hmin j (by omega)) (by omega), l_t57, k_t57⟩, h.cut (is := [1, 1]) (js := [0, 6]) ⟨rfl, rfl, trivial⟩ rfl rfl⟩
                           exact GAs.nil
                         exact GAs.nil
                       exact GAs.nil
                     exact GAs.nil
                   refine GAs.cons (i := 8) rfl rfl (t_cut_l (j := 2) rfl rfl rfl rfl Try.underlying22 sz_3 (by omega) (by omega) (by omega)) (by rintro a w h; exact h.mem (is := [0, 0, 0]) (js := [1, 2, 3, 4]) rfl rfl) ?_ ?_
                   · refine GA.all (rs := [0, 3]) (by kernel_rfl) (by simp) ?_
                     refine GAs.cons (i := 0) rfl rfl (t_buildSlice rfl Try.underlying22 sz_3 ze_3 rfl rfl rfl rfl rfl rfl) (by rintro a w ⟨_, h⟩; exact h.mem (is := [1, 1, 1]) (js := [1, 2, 3, 4]) rfl rfl) (GA.ex fun b_t57 => ?_) ?_
                     · refine GA.all (rs := [3]) (by kernel_rfl) (by simp) ?_
                       refine GAs.cons (i := 3) rfl rfl (t_cut_h (j := 3) rfl rfl rfl rfl Try.underlying22 sz_3 (by omega) (by omega) (by omega)) (by rintro a w h; exact h.mem (is := [1, 1, 1]) (js := [2, 3, 4, 5]) rfl rfl) ?_ ?_
                       · refine GA.torow (i := 0) (m := 0) (sz := 1) rfl rfl (by decide) rfl ?_
                         refine GA.all (rs := [4]) (by kernel_rfl) (by simp) ?_
                         refine GAs.cons (i := 4) rfl rfl (t_appendS (i := 0) (k := 0) rfl el_22 rfl rfl rfl rfl (by first | omega | (simp [seg]; omega)) (fun _ => rfl)) (by rintro a w ⟨_, h⟩; exact h.mem (is := [1, 1, 1]) (js := [2, 3, 4, 5]) rfl rfl) (GA.ex fun v61 => ?_) ?_
                         · refine GA.all (rs := [9]) (by kernel_rfl) (by simp) ?_
                           refine GAs.cons (i := 9) rfl rfl (t_appendS (i := 0) (k := 1) rfl el_22 rfl rfl rfl rfl (by first | omega | (simp [seg]; omega)) (fun _ => rfl)) (by rintro a w ⟨_, h⟩; exact h.mem (is := [1, 1, 1]) (js := [2, 3, 4, 5]) rfl rfl) (GA.ex fun v66 => ?_) ?_
                           · refine GA.take 10 rfl (by kernel_rfl) (by kernel_rfl) (by kernel_rfl) rfl (fun a w h => h.mem (is := [1, 1, 1]) (js := [2, 3, 4, 5]) rfl rfl) (i_pure (p_assign rfl)) ?_
                             refine GA.rowIs (i := 0) (m' := (rmAt al m).length) (cs' := (rmAt al m).map (Value.int .i64)) rfl (by first | rfl | (simp [rmAt, seg]; done) | (simp [rmAt, seg]; omega)) (by first | rfl | (simp [rmAt, seg]; done)) rfl ?_
                             refine GA.shape (i := 0) rfl (fun A_t57 c_t57 e_t57 l_t57 k_t57 => ?_)
                             subst e_t57
                             refine GA.freezeI (i := 0) rfl ?_
                             refine GA.done (by kernel_rfl) ?_
                             exact fun a w h => ⟨(rmAt al m), (_), (_), (o ++ [gt al (m : Int)]), (_), (_), by have := rmAt_len (al := al) (m := m) (by omega); omega, ⟨hI.new (by omega) (fun j hj => hmin j (by omega)) (by omega), l_t57, k_t57⟩, h.cut (is := [1, 1]) (js := [0, 6]) ⟨rfl, rfl, trivial⟩ rfl rfl⟩
                           exact GAs.nil
                         exact GAs.nil
                       exact GAs.nil
                     refine GAs.cons (i := 3) rfl rfl (t_cut_h (j := 3) rfl rfl rfl rfl Try.underlying22 sz_3 (by omega) (by omega) (by omega)) (by rintro a w h; exact h.mem (is := [0, 0, 0]) (js := [2, 3, 4, 5]) rfl rfl) ?_ ?_
                     · refine GA.all (rs := [0]) (by kernel_rfl) (by simp) ?_
                       refine GAs.cons (i := 0) rfl rfl (t_buildSlice rfl Try.underlying22 sz_3 ze_3 rfl rfl rfl rfl rfl rfl) (by rintro a w ⟨_, h⟩; exact h.mem (is := [1, 1, 1]) (js := [2, 3, 4, 5]) rfl rfl) (GA.ex fun b_t57 => ?_) ?_
                       · refine GA.torow (i := 0) (m := 0) (sz := 1) rfl rfl (by decide) rfl ?_
                         refine GA.all (rs := [4]) (by kernel_rfl) (by simp) ?_
                         refine GAs.cons (i := 4) rfl rfl (t_appendS (i := 0) (k := 0) rfl el_22 rfl rfl rfl rfl (by first | omega | (simp [seg]; omega)) (fun _ => rfl)) (by rintro a w ⟨_, h⟩; exact h.mem (is := [1, 1, 1]) (js := [2, 3, 4, 5]) rfl rfl) (GA.ex fun v61 => ?_) ?_
                         · refine GA.all (rs := [9]) (by kernel_rfl) (by simp) ?_
                           refine GAs.cons (i := 9) rfl rfl (t_appendS (i := 0) (k := 1) rfl el_22 rfl rfl rfl rfl (by first | omega | (simp [seg]; omega)) (fun _ => rfl)) (by rintro a w ⟨_, h⟩; exact h.mem (is := [1, 1, 1]) (js := [2, 3, 4, 5]) rfl rfl) (GA.ex fun v66 => ?_) ?_
                           · refine GA.take 10 rfl (by kernel_rfl) (by kernel_rfl) (by kernel_rfl) rfl (fun a w h => h.mem (is := [1, 1, 1]) (js := [2, 3, 4, 5]) rfl rfl) (i_pure (p_assign rfl)) ?_
                             refine GA.rowIs (i := 0) (m' := (rmAt al m).length) (cs' := (rmAt al m).map (Value.int .i64)) rfl (by first | rfl | (simp [rmAt, seg]; done) | (simp [rmAt, seg]; omega)) (by first | rfl | (simp [rmAt, seg]; done)) rfl ?_
                             refine GA.shape (i := 0) rfl (fun A_t57 c_t57 e_t57 l_t57 k_t57 => ?_)
                             subst e_t57
                             refine GA.freezeI (i := 0) rfl ?_
                             refine GA.done (by kernel_rfl) ?_
                             exact fun a w h => ⟨(rmAt al m), (_), (_), (o ++ [gt al (m : Int)]), (_), (_), by have := rmAt_len (al := al) (m := m) (by omega); omega, ⟨hI.new (by omega) (fun j hj => hmin j (by omega)) (by omega), l_t57, k_t57⟩, h.cut (is := [1, 1]) (js := [0, 6]) ⟨rfl, rfl, trivial⟩ rfl rfl⟩
                           exact GAs.nil
                         exact GAs.nil
                       exact GAs.nil
                     exact GAs.nil
                   exact GAs.nil)
              · try simp only [decide_eq_true_eq, decide_eq_false_iff_not, Bool.not_eq_true', Bool.not_eq_false', Bool.not_true, Bool.not_false, Bool.not_not, ne_eq, Decidable.not_not, Int.not_lt, Int.not_le, gt_iff_lt, ge_iff_le, bool_true_eq_, bool_false_eq_] at h5
                first
                | (exfalso; omega)
                | (skip
                   refine GQ.stepG (s := 37) rfl rfl rfl (q_pure (p_move rfl)) ?_
                   refine GQ.stepG (s := 37) rfl rfl rfl (q_pure (p_move rfl)) ?_
                   refine GQ.stepG (s := 37) rfl rfl rfl (q_pure (p_len Try.underlying22 rfl)) ?_
                   refine GQ.stepG (s := 37) rfl rfl rfl (q_pure (p_sub rfl rfl (w64 (by omega) (by omega)))) ?_
                   refine GQ.stepG (s := 37) rfl rfl rfl (q_pure (p_indexB rfl rfl Try.underlying22 sz_3 (by omega) (by omega))) ?_
                   refine GQ.stepG (s := 37) rfl rfl rfl (q_mem (m_load (i := 0) rfl rfl ag_3 (nth_mapS _ (by omega) (by omega)))) ?_
                   refine GQ.stepG (s := 37) rfl rfl rfl (q_pure (p_move rfl)) ?_
                   refine GQ.stepG (s := 37) rfl rfl rfl (q_pure (p_move rfl)) ?_
                   refine GQ.stepG (s := 37) rfl rfl rfl (q_pure (p_indexL hA_x46 rfl rfl Try.underlying22 sz_3 (by omega) (by omega))) ?_
                   refine GQ.stepG (s := 37) rfl rfl rfl (q_mem (m_loadP (i := 0) rfl rfl ag_3 rfl)) ?_
                   refine GQ.stepG (s := 37) rfl rfl rfl (q_pure (p_neq rfl rfl)) ?_
                   refine GQ.step rfl (q_pure (p_pick_false rfl rfl)) ?_
                   refine GQ.nil (?_ : GC _ _ _ _)
                   refine GC.cond rfl (fun h6 => ?_) (fun h6 => ?_)
                   · try simp only [decide_eq_true_eq, decide_eq_false_iff_not, Bool.not_eq_true', Bool.not_eq_false', Bool.not_true, Bool.not_false, Bool.not_not, ne_eq, Decidable.not_not, Int.not_lt, Int.not_le, gt_iff_lt, ge_iff_le, bool_true_eq_, bool_false_eq_] at h6
                     first
                     | (exfalso; omega)
                     | (skip
                        refine GC.region ?_
                        refine GL.rerow (i := 0) (sz := 1) (m := (o).length) ((o).map (Value.int .i64)) sp_o rfl rfl (by simp) n_o l_o k_o rfl ?_
                        refine GL.pure rfl (p_move rfl) ?_
                        refine GL.pure rfl (p_move rfl) ?_
                        refine GL.pure rfl (p_move rfl) ?_
                        refine GL.step rfl (t_index (i := 1) rfl rfl rfl rfl Try.underlying22 sz_3 (by omega) (gt_ok (by omega) (by omega))) (GL.ex fun p_x53 => GL.ex fun r_x53 => GL.and fun ok_x53 => ?_)
                        rcases r_x53 with _
                        refine GL.step rfl (t_mem rfl (m_loadP (i := 0) rfl rfl ag_3 rfl)) ?_
                        refine GL.step rfl (t_buildSlice rfl Try.underlying22 sz_3 ze_3 rfl rfl rfl rfl rfl rfl) (GL.ex fun b_t55 => ?_)
                        refine GL.step rfl (t_append (i := 1) (k := 0) rfl el_22 rfl rfl rfl rfl rfl (allOne_mem rfl) (by first | omega | (simp [seg]; omega)) (fun _ => rfl)) (GL.ex fun v56 => ?_)
                        refine GL.rowIs (i := 1) (m' := (o ++ [gt al (m : Int)]).length) (cs' := (o ++ [gt al (m : Int)]).map (Value.int .i64)) rfl (by first | rfl | (simp [rmAt, seg]; done) | (simp [rmAt, seg]; omega)) (by first | rfl | (simp [rmAt, seg]; done)) rfl ?_
                        refine GL.shape (i := 1) rfl (fun A_D c_D e_D l_D k_D => ?_)
                        subst e_D
                        refine GL.pure rfl (p_assign rfl) ?_
                        refine GL.nil (?_ : GC _ _ _ _)
                        refine GC.regionC (m := 11) (is := [0, 0, 0]) (js := [0, 1, 2, 3]) wide_ rfl rfl rfl ?_
                        refine GA.take 1 rfl (by kernel_rfl) (by kernel_rfl) (by kernel_rfl) rfl (fun a w h => h.mem (is := [0, 0, 0]) (js := [0, 1, 2, 3]) rfl rfl) (i_pure (p_move rfl)) ?_
                        refine GA.take 2 rfl (by kernel_rfl) (by kernel_rfl) (by kernel_rfl) rfl (fun a w h => h.mem (is := [0, 0, 0]) (js := [0, 1, 2, 3]) rfl rfl) (i_pure (p_move rfl)) ?_
                        refine GA.take 5 rfl (by kernel_rfl) (by kernel_rfl) (by kernel_rfl) rfl (fun a w h => h.mem (is := [0, 0, 0]) (js := [0, 1, 2, 3]) rfl rfl) (i_pure (p_move rfl)) ?_
                        refine GA.take 6 rfl (by kernel_rfl) (by kernel_rfl) (by kernel_rfl) rfl (fun a w h => h.mem (is := [0, 0, 0]) (js := [0, 1, 2, 3]) rfl rfl) (i_pure (p_move rfl)) ?_
                        refine GA.take 7 rfl (by kernel_rfl) (by kernel_rfl) (by kernel_rfl) rfl (fun a w h => h.mem (is := [0, 0, 0]) (js := [0, 1, 2, 3]) rfl rfl) (i_pure (p_add rfl rfl (w64 (by omega) (by omega)))) ?_
                        refine GA.all (rs := [0, 3, 8]) (by kernel_rfl) (by simp) ?_
                        refine GAs.cons (i := 0) rfl rfl (t_buildSlice rfl Try.underlying22 sz_3 ze_3 rfl rfl rfl rfl rfl rfl) (by rintro a w ⟨_, h⟩; exact h.mem (is := [1, 1, 1]) (js := [0, 1, 2, 3]) rfl rfl) (GA.ex fun b_t57 => ?_) ?_
                        · refine GA.all (rs := [3, 8]) (by kernel_rfl) (by simp) ?_
                          refine GAs.cons (i := 3) rfl rfl (t_cut_h (j := 2) rfl rfl rfl rfl Try.underlying22 sz_3 (by omega) (by omega) (by omega)) (by rintro a w h; exact h.mem (is := [1, 1, 1]) (js := [1, 2, 3, 4]) rfl rfl) ?_ ?_
                          · refine GA.torow (i := 0) (m := 0) (sz := 1) rfl rfl (by decide) rfl ?_
                            refine GA.all (rs := [4, 8]) (by kernel_rfl) (by simp) ?_
                            refine GAs.cons (i := 4) rfl rfl (t_appendS (i := 0) (k := 0) rfl el_22 rfl rfl rfl rfl (by first | omega | (simp [seg]; omega)) (fun _ => rfl)) (by rintro a w ⟨_, h⟩; exact h.mem (is := [1, 1, 1]) (js := [1, 2, 3, 4]) rfl rfl) (GA.ex fun v61 => ?_) ?_
                            · refine GA.all (rs := [8]) (by kernel_rfl) (by simp) ?_
                              refine GAs.cons (i := 8) rfl rfl (t_cut_l (j := 3) rfl rfl rfl rfl Try.underlying22 sz_3 (by omega) (by omega) (by omega)) (by rintro a w h; exact h.mem (is := [1, 1, 1]) (js := [2, 3, 4, 5]) rfl rfl) ?_ ?_
                              · refine GA.all (rs := [9]) (by kernel_rfl) (by simp) ?_
                                refine GAs.cons (i := 9) rfl rfl (t_appendS (i := 0) (k := 0) rfl el_22 rfl rfl rfl rfl (by first | omega | (simp [seg]; omega)) (fun _ => rfl)) (by rintro a w ⟨_, h⟩; exact h.mem (is := [1, 1, 1]) (js := [2, 3, 4, 5]) rfl rfl) (GA.ex fun v66 => ?_) ?_
                                · refine GA.take 10 rfl (by kernel_rfl) (by kernel_rfl) (by kernel_rfl) rfl (fun a w h => h.mem (is := [1, 1, 1]) (js := [2, 3, 4, 5]) rfl rfl) (i_pure (p_assign rfl)) ?_
                                  refine GA.rowIs (i := 0) (m' := (rmAt al m).length) (cs' := (rmAt al m).map (Value.int .i64)) rfl (by first | rfl | (simp [rmAt, seg]; done) | (simp [rmAt, seg]; omega)) (by first | rfl | (simp [rmAt, seg]; done)) rfl ?_
                                  refine GA.shape (i := 0) rfl (fun A_t57 c_t57 e_t57 l_t57 k_t57 => ?_)
                                  subst e_t57
                                  refine GA.freezeI (i := 0) rfl ?_
                                  refine GA.done (by kernel_rfl) ?_
                                  exact fun a w h => ⟨(rmAt al m), (_), (_), (o ++ [gt al (m : Int)]), (_), (_), by have := rmAt_len (al := al) (m := m) (by omega); omega, ⟨hI.new (by omega) (fun j hj => hmin j (by omega)) (by omega), l_t57, k_t57⟩, h.cut (is := [1, 1]) (js := [0, 6]) ⟨rfl, rfl, trivial⟩ rfl rfl⟩
                                exact GAs.nil
                              exact GAs.nil
                            refine GAs.cons (i := 8) rfl rfl (t_cut_l (j := 3) rfl rfl rfl rfl Try.underlying22 sz_3 (by omega) (by omega) (by omega)) (by rintro a w h; exact h.mem (is := [1, 1, 1]) (js := [2, 3, 4, 5]) rfl rfl) ?_ ?_
                            · refine GA.all (rs := [4]) (by kernel_rfl) (by simp) ?_
                              refine GAs.cons (i := 4) rfl rfl (t_appendS (i := 0) (k := 1) rfl el_22 rfl rfl rfl rfl (by first | omega | (simp [seg]; omega)) (fun _ => rfl)) (by rintro a w ⟨_, h⟩; exact h.mem (is := [1, 1, 1]) (js := [2, 3, 4, 5]) rfl rfl) (GA.ex fun v61 => ?_) ?_
                              · refine GA.all (rs := [9]) (by kernel_rfl) (by simp) ?_
                                refine GAs.cons (i := 9) rfl rfl (t_appendS (i := 0) (k := 0) rfl el_22 rfl rfl rfl rfl (by first | omega | (simp [seg]; omega)) (fun _ => rfl)) (by rintro a w ⟨_, h⟩; exact h.mem (is := [1, 1, 1]) (js := [2, 3, 4, 5]) rfl rfl) (GA.ex fun v66 => ?_) ?_
                                · refine GA.take 10 rfl (by kernel_rfl) (by kernel_rfl) (by kernel_rfl) rfl (fun a w h => h.mem (is := [1, 1, 1]) (js := [2, 3, 4, 5]) rfl rfl) (i_pure (p_assign rfl)) ?_
                                  refine GA.rowIs (i := 0) (m' := (rmAt al m).length) (cs' := (rmAt al m).map (Value.int .i64)) rfl (by first | rfl | (simp [rmAt, seg]; done) | (simp [rmAt, seg]; omega)) (by first | rfl | (simp [rmAt, seg]; done)) rfl ?_
                                  refine GA.shape (i := 0) rfl (fun A_t57 c_t57 e_t57 l_t57 k_t57 => ?_)
                                  subst e_t57
                                  refine GA.freezeI (i := 0) rfl ?_
                                  refine GA.done (by kernel_rfl) ?_
                                  exact fun a w h => ⟨(rmAt al m), (_), (_), (o ++ [gt al (m : Int)]), (_), (_), by have := rmAt_len (al := al) (m := m) (by omega); omega, ⟨hI.new (by omega) (fun j hj => hmin j (by omega)) (by omega), l_t57, k_t57⟩, h.cut (is := [1, 1]) (js := [0, 6]) ⟨rfl, rfl, trivial⟩ rfl rfl⟩
                                exact GAs.nil
                              exact GAs.nil
                            exact GAs.nil
                          refine GAs.cons (i := 8) rfl rfl (t_cut_l (j := 2) rfl rfl rfl rfl Try.underlying22 sz_3 (by omega) (by omega) (by omega)) (by rintro a w h; exact h.mem (is := [1, 1, 1]) (js := [1, 2, 3, 4]) rfl rfl) ?_ ?_
                          · refine GA.all (rs := [3]) (by kernel_rfl) (by simp) ?_
                            refine GAs.cons (i := 3) rfl rfl (t_cut_h (j := 3) rfl rfl rfl rfl Try.underlying22 sz_3 (by omega) (by omega) (by omega)) (by rintro a w h; exact h.mem (is := [1, 1, 1]) (js := [2, 3, 4, 5]) rfl rfl) ?_ ?_
                            · refine GA.torow (i := 0) (m := 0) (sz := 1) rfl rfl (by decide) rfl ?_
                              refine GA.all (rs := [4]) (by kernel_rfl) (by simp) ?_
                              refine GAs.cons (i := 4) rfl rfl (t_appendS (i := 0) (k := 0) rfl el_22 rfl rfl rfl rfl (by first | omega | (simp [seg]; omega)) (fun _ => rfl)) (by rintro a w ⟨_, h⟩; exact h.mem (is := [1, 1, 1]) (js := [2, 3, 4, 5]) rfl rfl) (GA.ex fun v61 => ?_) ?_
                              · refine GA.all (rs := [9]) (by kernel_rfl) (by simp) ?_
                                refine GAs.cons (i := 9) rfl rfl (t_appendS (i := 0) (k := 1) rfl el_22 rfl rfl rfl rfl (by first | omega | (simp [seg]; omega)) (fun _ => rfl)) (by rintro a w ⟨_, h⟩; exact h.mem (is := [1, 1, 1]) (js := [2, 3, 4, 5]) rfl rfl) (GA.ex fun v66 => ?_) ?_
                                · refine GA.take 10 rfl (by kernel_rfl) (by kernel_rfl) (by kernel_rfl) rfl (fun a w h => h.mem (is := [1, 1, 1]) (js := [2, 3, 4, 5]) rfl rfl) (i_pure (p_assign rfl)) ?_
                                  refine GA.rowIs (i := 0) (m' := (rmAt al m).length) (cs' := (rmAt al m).map (Value.int .i64)) rfl (by first | rfl | (simp [rmAt, seg]; done) | (simp [rmAt, seg]; omega)) (by first | rfl | (simp [rmAt, seg]; done)) rfl ?_
                                  refine GA.shape (i := 0) rfl (fun A_t57 c_t57 e_t57 l_t57 k_t57 => ?_)
                                  subst e_t57
                                  refine GA.freezeI (i := 0) rfl ?_
                                  refine GA.done (by kernel_rfl) ?_
                                  exact fun a w h => ⟨(rmAt al m), (_), (_), (o ++ [gt al (m : Int)]), (_), (_), by have := rmAt_len (al := al) (m := m) (by omega); omega, ⟨hI.new (by omega) (fun j hj => hmin j (by omega)) (by omega), l_t57, k_t57⟩, h.cut (is := [1, 1]) (js := [0, 6]) ⟨rfl, rfl, trivial⟩ rfl rfl⟩
                                exact GAs.nil
                              exact GAs.nil
                            exact GAs.nil
                          exact GAs.nil
                        refine GAs.cons (i := 3) rfl rfl (t_cut_h (j := 2) rfl rfl rfl rfl Try.underlying22 sz_3 (by omega) (by omega) (by omega)) (by rintro a w h; exact h.mem (is := [0, 0, 0]) (js := [1, 2, 3, 4]) rfl rfl) ?_ ?_
                        · refine GA.all (rs := [0, 8]) (by kernel_rfl) (by simp) ?_
                          refine GAs.cons (i := 0) rfl rfl (t_buildSlice rfl Try.underlying22 sz_3 ze_3 rfl rfl rfl rfl rfl rfl) (by rintro a w ⟨_, h⟩; exact h.mem (is := [1, 1, 1]) (js := [1, 2, 3, 4]) rfl rfl) (GA.ex fun b_t57 => ?_) ?_
                          · refine GA.torow (i := 0) (m := 0) (sz := 1) rfl rfl (by decide) rfl ?_
                            refine GA.all (rs := [4, 8]) (by kernel_rfl) (by simp) ?_
                            refine GAs.cons (i := 4) rfl rfl (t_appendS (i := 0) (k := 0) rfl el_22 rfl rfl rfl rfl (by first | omega | (simp [seg]; omega)) (fun _ => rfl)) (by rintro a w ⟨_, h⟩; exact h.mem (is := [1, 1, 1]) (js := [1, 2, 3, 4]) rfl rfl) (GA.ex fun v61 => ?_) ?_
                            · refine GA.all (rs := [8]) (by kernel_rfl) (by simp) ?_
                              refine GAs.cons (i := 8) rfl rfl (t_cut_l (j := 3) rfl rfl rfl rfl Try.underlying22 sz_3 (by omega) (by omega) (by omega)) (by rintro a w h; exact h.mem (is := [1, 1, 1]) (js := [2, 3, 4, 5]) rfl rfl) ?_ ?_
                              · refine GA.all (rs := [9]) (by kernel_rfl) (by simp) ?_
                                refine GAs.cons (i := 9) rfl rfl (t_appendS (i := 0) (k := 0) rfl el_22 rfl rfl rfl rfl (by first | omega | (simp [seg]; omega)) (fun _ => rfl)) (by rintro a w ⟨_, h⟩; exact h.mem (is := [1, 1, 1]) (js := [2, 3, 4, 5]) rfl rfl) (GA.ex fun v66 => ?_) ?_
                                · refine GA.take 10 rfl (by kernel_rfl) (by kernel_rfl) (by kernel_rfl) rfl (fun a w h => h.mem (is := [1, 1, 1]) (js := [2, 3, 4, 5]) rfl rfl) (i_pure (p_assign rfl)) ?_
                                  refine GA.rowIs (i := 0) (m' := (rmAt al m).length) (cs' := (rmAt al m).map (Value.int .i64)) rfl (by first | rfl | (simp [rmAt, seg]; done) | (simp [rmAt, seg]; omega)) (by first | rfl | (simp [rmAt, seg]; done)) rfl ?_
                                  refine GA.shape (i := 0) rfl (fun A_t57 c_t57 e_t57 l_t57 k_t57 => ?_)
                                  subst e_t57
                                  refine GA.freezeI (i := 0) rfl ?_
                                  refine GA.done (by kernel_rfl) ?_
                                  exact fun a w h => ⟨(rmAt al m), (_), (_), (o ++ [gt al (m : Int)]), (_), (_), by have := rmAt_len (al := al) (m := m) (by omega); omega, ⟨hI.new (by omega) (fun j hj => hmin j (by omega)) (by omega), l_t57, k_t57⟩, h.cut (is := [1, 1]) (js := [0, 6]) ⟨rfl, rfl, trivial⟩ rfl rfl⟩
                                exact GAs.nil
                              exact GAs.nil
                            refine GAs.cons (i := 8) rfl rfl (t_cut_l (j := 3) rfl rfl rfl rfl Try.underlying22 sz_3 (by omega) (by omega) (by omega)) (by rintro a w h; exact h.mem (is := [1, 1, 1]) (js := [2, 3, 4, 5]) rfl rfl) ?_ ?_
                            · refine GA.all (rs := [4]) (by kernel_rfl) (by simp) ?_
                              refine GAs.cons (i := 4) rfl rfl (t_appendS (i := 0) (k := 1) rfl el_22 rfl rfl rfl rfl (by first | omega | (simp [seg]; omega)) (fun _ => rfl)) (by rintro a w ⟨_, h⟩; exact h.mem (is := [1, 1, 1]) (js := [2, 3, 4, 5]) rfl rfl) (GA.ex fun v61 => ?_) ?_
                              · refine GA.all (rs := [9]) (by kernel_rfl) (by simp) ?_
                                refine GAs.cons (i := 9) rfl rfl (t_appendS (i := 0) (k := 0) rfl el_22 rfl rfl rfl rfl (by first | omega | (simp [seg]; omega)) (fun _ => rfl)) (by rintro a w ⟨_, h⟩; exact h.mem (is := [1, 1, 1]) (js := [2, 3, 4, 5]) rfl rfl) (GA.ex fun v66 => ?_) ?_
                                · refine GA.take 10 rfl (by kernel_rfl) (by kernel_rfl) (by kernel_rfl) rfl (fun a w h => h.mem (is := [1, 1, 1]) (js := [2, 3, 4, 5]) rfl rfl) (i_pure (p_assign rfl)) ?_
                                  refine GA.rowIs (i := 0) (m' := (rmAt al m).length) (cs' := (rmAt al m).map (Value.int .i64)) rfl (by first | rfl | (simp [rmAt, seg]; done) | (simp [rmAt, seg]; omega)) (by first | rfl | (simp [rmAt, seg]; done)) rfl ?_
                                  refine GA.shape (i := 0) rfl (fun A_t57 c_t57 e_t57 l_t57 k_t57 => ?_)
                                  subst e_t57
                                  refine GA.freezeI (i := 0) rfl ?_
                                  refine GA.done (by kernel_rfl) ?_
                                  exact fun a w h => ⟨(rmAt al m), (_), (_), (o ++ [gt al (m : Int)]), (_), (_), by have := rmAt_len (al := al) (m := m) (by omega); omega, ⟨hI.new (by omega) (fun j hj => hmin j (by omega)) (by omega), l_t57, k_t57⟩, h.cut (is := [1, 1]) (js := [0, 6]) ⟨rfl, rfl, trivial⟩ rfl rfl⟩
                                exact GAs.nil
                              exact GAs.nil
                            exact GAs.nil
                          refine GAs.cons (i := 8) rfl rfl (t_cut_l (j := 3) rfl rfl rfl rfl Try.underlying22 sz_3 (by omega) (by omega) (by omega)) (by rintro a w h; exact h.mem (is := [0, 0, 0]) (js := [2, 3, 4, 5]) rfl rfl) ?_ ?_
                          · refine GA.all (rs := [0]) (by kernel_rfl) (by simp) ?_
                            refine GAs.cons (i := 0) rfl rfl (t_buildSlice rfl Try.underlying22 sz_3 ze_3 rfl rfl rfl rfl rfl rfl) (by rintro a w ⟨_, h⟩; exact h.mem (is := [1, 1, 1]) (js := [2, 3, 4, 5]) rfl rfl) (GA.ex fun b_t57 => ?_) ?_
                            · refine GA.torow (i := 0) (m := 0) (sz := 1) rfl rfl (by decide) rfl ?_
                              refine GA.all (rs := [4]) (by kernel_rfl) (by simp) ?_
                              refine GAs.cons (i := 4) rfl rfl (t_appendS (i := 0) (k := 1) rfl el_22 rfl rfl rfl rfl (by first | omega | (simp [seg]; omega)) (fun _ => rfl)) (by rintro a w ⟨_, h⟩; exact h.mem (is := [1, 1, 1]) (js := [2, 3, 4, 5]) rfl rfl) (GA.ex fun v61 => ?_) ?_
                              · refine GA.all (rs := [9]) (by kernel_rfl) (by simp) ?_
                                refine GAs.cons (i := 9) rfl rfl (t_appendS (i := 0) (k := 0) rfl el_22 rfl rfl rfl rfl (by first | omega | (simp [seg]; omega)) (fun _ => rfl)) (by rintro a w ⟨_, h⟩; exact h.mem (is := [1, 1, 1]) (js := [2, 3, 4, 5]) rfl rfl) (GA.ex fun v66 => ?_) ?_
                                · refine GA.take 10 rfl (by kernel_rfl) (by kernel_rfl) (by kernel_rfl) rfl (fun a w h => h.mem (is := [1, 1, 1]) (js := [2, 3, 4, 5]) rfl rfl) (i_pure (p_assign rfl)) ?_
                                  refine GA.rowIs (i := 0) (m' := (rmAt al m).length) (cs' := (rmAt al m).map (Value.int .i64)) rfl (by first | rfl | (simp [rmAt, seg]; done) | (simp [rmAt, seg]; omega)) (by first | rfl | (simp [rmAt, seg]; done)) rfl ?_
                                  refine GA.shape (i := 0) rfl (fun A_t57 c_t57 e_t57 l_t57 k_t57 => ?_)
                                  subst e_t57
                                  refine GA.freezeI (i := 0) rfl ?_
                                  refine GA.done (by kernel_rfl) ?_
                                  exact fun a w h => ⟨(rmAt al m), (_), (_), (o ++ [gt al (m : Int)]), (_), (_), by have := rmAt_len (al := al) (m := m) (by omega); omega, ⟨hI.new (by omega) (fun j hj => hmin j (by omega)) (by omega), l_t57, k_t57⟩, h.cut (is := [1, 1]) (js := [0, 6]) ⟨rfl, rfl, trivial⟩ rfl rfl⟩
                                exact GAs.nil
                              exact GAs.nil
                            exact GAs.nil
                          exact GAs.nil
                        refine GAs.cons (i := 8) rfl rfl (t_cut_l (j := 2) rfl rfl rfl rfl Try.underlying22 sz_3 (by omega) (by omega) (by omega)) (by rintro a w h; exact h.mem (is := [0, 0, 0]) (js := [1, 2, 3, 4]) rfl rfl) ?_ ?_
                        · refine GA.all (rs := [0, 3]) (by kernel_rfl) (by simp) ?_
                          refine GAs.cons (i := 0) rfl rfl (t_buildSlice rfl Try.underlying22 sz_3 ze_3 rfl rfl rfl rfl rfl rfl) (by rintro a w ⟨_, h⟩; exact h.mem (is := [1, 1, 1]) (js := [1, 2, 3, 4]) rfl rfl) (GA.ex fun b_t57 => ?_) ?_
                          · refine GA.all (rs := [3]) (by kernel_rfl) (by simp) ?_
                            refine GAs.cons (i := 3) rfl rfl (t_cut_h (j := 3) rfl rfl rfl rfl Try.underlying22 sz_3 (by omega) (by omega) (by omega)) (by rintro a w h; exact h.mem (is := [1, 1, 1]) (js := [2, 3, 4, 5]) rfl rfl) ?_ ?_
                            · refine GA.torow (i := 0) (m := 0) (sz := 1) rfl rfl (by decide) rfl ?_
                              refine GA.all (rs := [4]) (by kernel_rfl) (by simp) ?_
                              refine GAs.cons (i := 4) rfl rfl (t_appendS (i := 0) (k := 0) rfl el_22 rfl rfl rfl rfl (by first | omega | (simp [seg]; omega)) (fun _ => rfl)) (by rintro a w ⟨_, h⟩; exact h.mem (is := [1, 1, 1]) (js := [2, 3, 4, 5]) rfl rfl) (GA.ex fun v61 => ?_) ?_
                              · refine GA.all (rs := [9]) (by kernel_rfl) (by simp) ?_
                                refine GAs.cons (i := 9) rfl rfl (t_appendS (i := 0) (k := 1) rfl el_22 rfl rfl rfl rfl (by first | omega | (simp [seg]; omega)) (fun _ => rfl)) (by rintro a w ⟨_, h⟩; exact h.mem (is := [1, 1, 1]) (js := [2, 3, 4, 5]) rfl rfl) (GA.ex fun v66 => ?_) ?_
                                · refine GA.take 10 rfl (by kernel_rfl) (by kernel_rfl) (by kernel_rfl) rfl (fun a w h => h.mem (is := [1, 1, 1]) (js := [2, 3, 4, 5]) rfl rfl) (i_pure (p_assign rfl)) ?_
                                  refine GA.rowIs (i := 0) (m' := (rmAt al m).length) (cs' := (rmAt al m).map (Value.int .i64)) rfl (by first | rfl | (simp [rmAt, seg]; done) | (simp [rmAt, seg]; omega)) (by first | rfl | (simp [rmAt, seg]; done)) rfl ?_
                                  refine GA.shape (i := 0) rfl (fun A_t57 c_t57 e_t57 l_t57 k_t57 => ?_)
                                  subst e_t57
                                  refine GA.freezeI (i := 0) rfl ?_
                                  refine GA.done (by kernel_rfl) ?_
                                  exact fun a w h => ⟨(rmAt al m), (_), (_), (o ++ [gt al (m : Int)]), (_), (_), by have := rmAt_len (al := al) (m := m) (by omega); omega, ⟨hI.new (by omega) (fun j hj => hmin j (by omega)) (by omega), l_t57, k_t57⟩, h.cut (is := [1, 1]) (js := [0, 6]) ⟨rfl, rfl, trivial⟩ rfl rfl⟩
                                exact GAs.nil
                              exact GAs.nil
                            exact GAs.nil
                          refine GAs.cons (i := 3) rfl rfl (t_cut_h (j := 3) rfl rfl rfl rfl Try.underlying22 sz_3 (by omega) (by omega) (by omega)) (by rintro a w h; exact h.mem (is := [0, 0, 0]) (js := [2, 3, 4, 5]) rfl rfl) ?_ ?_
                          · refine GA.all (rs := [0]) (by kernel_rfl) (by simp) ?_
                            refine GAs.cons (i := 0) rfl rfl (t_buildSlice rfl Try.underlying22 sz_3 ze_3 rfl rfl rfl rfl rfl rfl) (by rintro a w ⟨_, h⟩; exact h.mem (is := [1, 1, 1]) (js := [2, 3, 4, 5]) rfl rfl) (GA.ex fun b_t57 => ?_) ?_
                            · refine GA.torow (i := 0) (m := 0) (sz := 1) rfl rfl (by decide) rfl ?_
                              refine GA.all (rs := [4]) (by kernel_rfl) (by simp) ?_
                              refine GAs.cons (i := 4) rfl rfl (t_appendS (i := 0) (k := 0) rfl el_22 rfl rfl rfl rfl (by first | omega | (simp [seg]; omega)) (fun _ => rfl)) (by rintro a w ⟨_, h⟩; exact h.mem (is := [1, 1, 1]) (js := [2, 3, 4, 5]) rfl rfl) (GA.ex fun v61 => ?_) ?_
                              · refine GA.all (rs := [9]) (by kernel_rfl) (by simp) ?_
                                refine GAs.cons (i := 9) rfl rfl (t_appendS (i := 0) (k := 1) rfl el_22 rfl rfl rfl rfl (by first | omega | (simp [seg]; omega)) (fun _ => rfl)) (by rintro a w ⟨_, h⟩; exact h.mem (is := [1, 1, 1]) (js := [2, 3, 4, 5]) rfl rfl) (GA.ex fun v66 => ?_) ?_
                                · refine GA.take 10 rfl (by kernel_rfl) (by kernel_rfl) (by kernel_rfl) rfl (fun a w h => h.mem (is := [1, 1, 1]) (js := [2, 3, 4, 5]) rfl rfl) (i_pure (p_assign rfl)) ?_
                                  refine GA.rowIs (i := 0) (m' := (rmAt al m).length) (cs' := (rmAt al m).map (Value.int .i64)) rfl (by first | rfl | (simp [rmAt, seg]; done) | (simp [rmAt, seg]; omega)) (by first | rfl | (simp [rmAt, seg]; done)) rfl ?_
                                  refine GA.shape (i := 0) rfl (fun A_t57 c_t57 e_t57 l_t57 k_t57 => ?_)
                                  subst e_t57
                                  refine GA.freezeI (i := 0) rfl ?_
                                  refine GA.done (by kernel_rfl) ?_
                                  exact fun a w h => ⟨(rmAt al m), (_), (_), (o ++ [gt al (m : Int)]), (_), (_), by have := rmAt_len (al := al) (m := m) (by omega); omega, ⟨hI.new (by omega) (fun j hj => hmin j (by omega)) (by omega), l_t57, k_t57⟩, h.cut (is := [1, 1]) (js := [0, 6]) ⟨rfl, rfl, trivial⟩ rfl rfl⟩
                                exact GAs.nil
                              exact GAs.nil
                            exact GAs.nil
                          exact GAs.nil
                        exact GAs.nil)
                   · try simp only [decide_eq_true_eq, decide_eq_false_iff_not, Bool.not_eq_true', Bool.not_eq_false', Bool.not_true, Bool.not_false, Bool.not_not, ne_eq, Decidable.not_not, Int.not_lt, Int.not_le, gt_iff_lt, ge_iff_le, bool_true_eq_, bool_false_eq_] at h6
                     first
                     | (exfalso; omega)
                     | (skip
                        refine GC.skip (?_ : GC _ _ _ _)
                        refine GC.rerow (i := 0) (sz := 1) (m := (o).length) ((o).map (Value.int .i64)) sp_o rfl rfl (by simp) n_o l_o k_o rfl ?_
                        refine GC.regionC (m := 11) (is := [0, 0]) (js := [0, 1, 2]) wide_ rfl rfl rfl ?_
                        refine GA.take 1 rfl (by kernel_rfl) (by kernel_rfl) (by kernel_rfl) rfl (fun a w h => h.mem (is := [0, 0]) (js := [0, 1, 2]) rfl rfl) (i_pure (p_move rfl)) ?_
                        refine GA.take 2 rfl (by kernel_rfl) (by kernel_rfl) (by kernel_rfl) rfl (fun a w h => h.mem (is := [0, 0]) (js := [0, 1, 2]) rfl rfl) (i_pure (p_move rfl)) ?_
                        refine GA.take 5 rfl (by kernel_rfl) (by kernel_rfl) (by kernel_rfl) rfl (fun a w h => h.mem (is := [0, 0]) (js := [0, 1, 2]) rfl rfl) (i_pure (p_move rfl)) ?_
                        refine GA.take 6 rfl (by kernel_rfl) (by kernel_rfl) (by kernel_rfl) rfl (fun a w h => h.mem (is := [0, 0]) (js := [0, 1, 2]) rfl rfl) (i_pure (p_move rfl)) ?_
                        refine GA.take 7 rfl (by kernel_rfl) (by kernel_rfl) (by kernel_rfl) rfl (fun a w h => h.mem (is := [0, 0]) (js := [0, 1, 2]) rfl rfl) (i_pure (p_add rfl rfl (w64 (by omega) (by omega)))) ?_
                        refine GA.all (rs := [0, 3, 8]) (by kernel_rfl) (by simp) ?_
                        refine GAs.cons (i := 0) rfl rfl (t_buildSlice rfl Try.underlying22 sz_3 ze_3 rfl rfl rfl rfl rfl rfl) (by rintro a w ⟨_, h⟩; exact h.mem (is := [1, 1]) (js := [0, 1, 2]) rfl rfl) (GA.ex fun b_t57 => ?_) ?_
                        · refine GA.all (rs := [3, 8]) (by kernel_rfl) (by simp) ?_
                          refine GAs.cons (i := 3) rfl rfl (t_cut_h (j := 1) rfl rfl rfl rfl Try.underlying22 sz_3 (by omega) (by omega) (by omega)) (by rintro a w h; exact h.mem (is := [1, 1]) (js := [1, 2, 3]) rfl rfl) ?_ ?_
                          · refine GA.torow (i := 0) (m := 0) (sz := 1) rfl rfl (by decide) rfl ?_
                            refine GA.all (rs := [4, 8]) (by kernel_rfl) (by simp) ?_
                            refine GAs.cons (i := 4) rfl rfl (t_appendS (i := 0) (k := 0) rfl el_22 rfl rfl rfl rfl (by first | omega | (simp [seg]; omega)) (fun _ => rfl)) (by rintro a w ⟨_, h⟩; exact h.mem (is := [1, 1]) (js := [1, 2, 3]) rfl rfl) (GA.ex fun v61 => ?_) ?_
                            · refine GA.all (rs := [8]) (by kernel_rfl) (by simp) ?_
                              refine GAs.cons (i := 8) rfl rfl (t_cut_l (j := 2) rfl rfl rfl rfl Try.underlying22 sz_3 (by omega) (by omega) (by omega)) (by rintro a w h; exact h.mem (is := [1, 1]) (js := [2, 3, 4]) rfl rfl) ?_ ?_
                              · refine GA.all (rs := [9]) (by kernel_rfl) (by simp) ?_
                                refine GAs.cons (i := 9) rfl rfl (t_appendS (i := 0) (k := 0) rfl el_22 rfl rfl rfl rfl (by first | omega | (simp [seg]; omega)) (fun _ => rfl)) (by rintro a w ⟨_, h⟩; exact h.mem (is := [1, 1]) (js := [2, 3, 4]) rfl rfl) (GA.ex fun v66 => ?_) ?_
                                · refine GA.take 10 rfl (by kernel_rfl) (by kernel_rfl) (by kernel_rfl) rfl (fun a w h => h.mem (is := [1, 1]) (js := [2, 3, 4]) rfl rfl) (i_pure (p_assign rfl)) ?_
                                  refine GA.rowIs (i := 0) (m' := (rmAt al m).length) (cs' := (rmAt al m).map (Value.int .i64)) rfl (by first | rfl | (simp [rmAt, seg]; done) | (simp [rmAt, seg]; omega)) (by first | rfl | (simp [rmAt, seg]; done)) rfl ?_
                                  refine GA.shape (i := 0) rfl (fun A_t57 c_t57 e_t57 l_t57 k_t57 => ?_)
                                  subst e_t57
                                  refine GA.freezeI (i := 0) rfl ?_
                                  refine GA.done (by kernel_rfl) ?_
                                  exact fun a w h => ⟨(rmAt al m), (_), (_), (o), (_), (_), by have := rmAt_len (al := al) (m := m) (by omega); omega, ⟨hI.old (by omega) (by omega) (by omega), l_t57, k_t57⟩, h.cut (is := [0, 0]) (js := [0, 5]) ⟨rfl, rfl, trivial⟩ rfl rfl⟩
                                exact GAs.nil
                              exact GAs.nil
                            refine GAs.cons (i := 8) rfl rfl (t_cut_l (j := 2) rfl rfl rfl rfl Try.underlying22 sz_3 (by omega) (by omega) (by omega)) (by rintro a w h; exact h.mem (is := [1, 1]) (js := [2, 3, 4]) rfl rfl) ?_ ?_
                            · refine GA.all (rs := [4]) (by kernel_rfl) (by simp) ?_
                              refine GAs.cons (i := 4) rfl rfl (t_appendS (i := 0) (k := 1) rfl el_22 rfl rfl rfl rfl (by first | omega | (simp [seg]; omega)) (fun _ => rfl)) (by rintro a w ⟨_, h⟩; exact h.mem (is := [1, 1]) (js := [2, 3, 4]) rfl rfl) (GA.ex fun v61 => ?_) ?_
                              · refine GA.all (rs := [9]) (by kernel_rfl) (by simp) ?_
                                refine GAs.cons (i := 9) rfl rfl (t_appendS (i := 0) (k := 0) rfl el_22 rfl rfl rfl rfl (by first | omega | (simp [seg]; omega)) (fun _ => rfl)) (by rintro a w ⟨_, h⟩; exact h.mem (is := [1, 1]) (js := [2, 3, 4]) rfl rfl) (GA.ex fun v66 => ?_) ?_
                                · refine GA.take 10 rfl (by kernel_rfl) (by kernel_rfl) (by kernel_rfl) rfl (fun a w h => h.mem (is := [1, 1]) (js := [2, 3, 4]) rfl rfl) (i_pure (p_assign rfl)) ?_
                                  refine GA.rowIs (i := 0) (m' := (rmAt al m).length) (cs' := (rmAt al m).map (Value.int .i64)) rfl (by first | rfl | (simp [rmAt, seg]; done) | (simp [rmAt, seg]; omega)) (by first | rfl | (simp [rmAt, seg]; done)) rfl ?_
                                  refine GA.shape (i := 0) rfl (fun A_t57 c_t57 e_t57 l_t57 k_t57 => ?_)
                                  subst e_t57
                                  refine GA.freezeI (i := 0) rfl ?_
                                  refine GA.done (by kernel_rfl) ?_
                                  exact fun a w h => ⟨(rmAt al m), (_), (_), (o), (_), (_), by have := rmAt_len (al := al) (m := m) (by omega); omega, ⟨hI.old (by omega) (by omega) (by omega), l_t57, k_t57⟩, h.cut (is := [0, 0]) (js := [0, 5]) ⟨rfl, rfl, trivial⟩ rfl rfl⟩
                                exact GAs.nil
                              exact GAs.nil
                            exact GAs.nil
                          refine GAs.cons (i := 8) rfl rfl (t_cut_l (j := 1) rfl rfl rfl rfl Try.underlying22 sz_3 (by omega) (by omega) (by omega)) (by rintro a w h; exact h.mem (is := [1, 1]) (js := [1, 2, 3]) rfl rfl) ?_ ?_
                          · refine GA.all (rs := [3]) (by kernel_rfl) (by simp) ?_
                            refine GAs.cons (i := 3) rfl rfl (t_cut_h (j := 2) rfl rfl rfl rfl Try.underlying22 sz_3 (by omega) (by omega) (by omega)) (by rintro a w h; exact h.mem (is := [1, 1]) (js := [2, 3, 4]) rfl rfl) ?_ ?_
                            · refine GA.torow (i := 0) (m := 0) (sz := 1) rfl rfl (by decide) rfl ?_
                              refine GA.all (rs := [4]) (by kernel_rfl) (by simp) ?_
                              refine GAs.cons (i := 4) rfl rfl (t_appendS (i := 0) (k := 0) rfl el_22 rfl rfl rfl rfl (by first | omega | (simp [seg]; omega)) (fun _ => rfl)) (by rintro a w ⟨_, h⟩; exact h.mem (is := [1, 1]) (js := [2, 3, 4]) rfl rfl) (GA.ex fun v61 => ?_) ?_
                              · refine GA.all (rs := [9]) (by kernel_rfl) (by simp) ?_
                                refine GAs.cons (i := 9) rfl rfl (t_appendS (i := 0) (k := 1) rfl el_22 rfl rfl rfl rfl (by first | omega | (simp [seg]; omega)) (fun _ => rfl)) (by rintro a w ⟨_, h⟩; exact h.mem (is := [1, 1]) (js := [2, 3, 4]) rfl rfl) (GA.ex fun v66 => ?_) ?_
                                · refine GA.take 10 rfl (by kernel_rfl) (by kernel_rfl) (by kernel_rfl) rfl (fun a w h => h.mem (is := [1, 1]) (js := [2, 3, 4]) rfl rfl) (i_pure (p_assign rfl)) ?_
                                  refine GA.rowIs (i := 0) (m' := (rmAt al m).length) (cs' := (rmAt al m).map (Value.int .i64)) rfl (by first | rfl | (simp [rmAt, seg]; done) | (simp [rmAt, seg]; omega)) (by first | rfl | (simp [rmAt, seg]; done)) rfl ?_
                                  refine GA.shape (i := 0) rfl (fun A_t57 c_t57 e_t57 l_t57 k_t57 => ?_)
                                  subst e_t57
                                  refine GA.freezeI (i := 0) rfl ?_
                                  refine GA.done (by kernel_rfl) ?_
                                  exact fun a w h => ⟨(rmAt al m), (_), (_), (o), (_), (_), by have := rmAt_len (al := al) (m := m) (by omega); omega, ⟨hI.old (by omega) (by omega) (by omega), l_t57, k_t57⟩, h.cut (is := [0, 0]) (js := [0, 5]) ⟨rfl, rfl, trivial⟩ rfl rfl⟩
                                exact GAs.nil
                              exact GAs.nil
                            exact GAs.nil
                          exact GAs.nil
                        refine GAs.cons (i := 3) rfl rfl (t_cut_h (j := 1) rfl rfl rfl rfl Try.underlying22 sz_3 (by omega) (by omega) (by omega)) (by rintro a w h; exact h.mem (is := [0, 0]) (js := [1, 2, 3]) rfl rfl) ?_ ?_
                        · refine GA.all (rs := [0, 8]) (by kernel_rfl) (by simp) ?_
                          refine GAs.cons (i := 0) rfl rfl (t_buildSlice rfl Try.underlying22 sz_3 ze_3 rfl rfl rfl rfl rfl rfl) (by rintro a w ⟨_, h⟩; exact h.mem (is := [1, 1]) (js := [1, 2, 3]) rfl rfl) (GA.ex fun b_t57 => ?_) ?_
                          · refine GA.torow (i := 0) (m := 0) (sz := 1) rfl rfl (by decide) rfl ?_
                            refine GA.all (rs := [4, 8]) (by kernel_rfl) (by simp) ?_
                            refine GAs.cons (i := 4) rfl rfl (t_appendS (i := 0) (k := 0) rfl el_22 rfl rfl rfl rfl (by first | omega | (simp [seg]; omega)) (fun _ => rfl)) (by rintro a w ⟨_, h⟩; exact h.mem (is := [1, 1]) (js := [1, 2, 3]) rfl rfl) (GA.ex fun v61 => ?_) ?_
                            · refine GA.all (rs := [8]) (by kernel_rfl) (by simp) ?_
                              refine GAs.cons (i := 8) rfl rfl (t_cut_l (j := 2) rfl rfl rfl rfl Try.underlying22 sz_3 (by omega) (by omega) (by omega)) (by rintro a w h; exact h.mem (is := [1, 1]) (js := [2, 3, 4]) rfl rfl) ?_ ?_
                              · refine GA.all (rs := [9]) (by kernel_rfl) (by simp) ?_
                                refine GAs.cons (i := 9) rfl rfl (t_appendS (i := 0) (k := 0) rfl el_22 rfl rfl rfl rfl (by first | omega | (simp [seg]; omega)) (fun _ => rfl)) (by rintro a w ⟨_, h⟩; exact h.mem (is := [1, 1]) (js := [2, 3, 4]) rfl rfl) (GA.ex fun v66 => ?_) ?_
                                · refine GA.take 10 rfl (by kernel_rfl) (by kernel_rfl) (by kernel_rfl) rfl (fun a w h => h.mem (is := [1, 1]) (js := [2, 3, 4]) rfl rfl) (i_pure (p_assign rfl)) ?_
                                  refine GA.rowIs (i := 0) (m' := (rmAt al m).length) (cs' := (rmAt al m).map (Value.int .i64)) rfl (by first | rfl | (simp [rmAt, seg]; done) | (simp [rmAt, seg]; omega)) (by first | rfl | (simp [rmAt, seg]; done)) rfl ?_
                                  refine GA.shape (i := 0) rfl (fun A_t57 c_t57 e_t57 l_t57 k_t57 => ?_)
                                  subst e_t57
                                  refine GA.freezeI (i := 0) rfl ?_
                                  refine GA.done (by kernel_rfl) ?_
                                  exact fun a w h => ⟨(rmAt al m), (_), (_), (o), (_), (_), by have := rmAt_len (al := al) (m := m) (by omega); omega, ⟨hI.old (by omega) (by omega) (by omega), l_t57, k_t57⟩, h.cut (is := [0, 0]) (js := [0, 5]) ⟨rfl, rfl, trivial⟩ rfl rfl⟩
                                exact GAs.nil
                              exact GAs.nil
                            refine GAs.cons (i := 8) rfl rfl (t_cut_l (j := 2) rfl rfl rfl rfl Try.underlying22 sz_3 (by omega) (by omega) (by omega)) (by rintro a w h; exact h.mem (is := [1, 1]) (js := [2, 3, 4]) rfl rfl) ?_ ?_
                            · refine GA.all (rs := [4]) (by kernel_rfl) (by simp) ?_
                              refine GAs.cons (i := 4) rfl rfl (t_appendS (i := 0) (k := 1) rfl el_22 rfl rfl rfl rfl (by first | omega | (simp [seg]; omega)) (fun _ => rfl)) (by rintro a w ⟨_, h⟩; exact h.mem (is := [1, 1]) (js := [2, 3, 4]) rfl rfl) (GA.ex fun v61 => ?_) ?_
                              · refine GA.all (rs := [9]) (by kernel_rfl) (by simp) ?_
                                refine GAs.cons (i := 9) rfl rfl (t_appendS (i := 0) (k := 0) rfl el_22 rfl rfl rfl rfl (by first | omega | (simp [seg]; omega)) (fun _ => rfl)) (by rintro a w ⟨_, h⟩; exact h.mem (is := [1, 1]) (js := [2, 3, 4]) rfl rfl) (GA.ex fun v66 => ?_) ?_
                                · refine GA.take 10 rfl (by kernel_rfl) (by kernel_rfl) (by kernel_rfl) rfl (fun a w h => h.mem (is := [1, 1]) (js := [2, 3, 4]) rfl rfl) (i_pure (p_assign rfl)) ?_
                                  refine GA.rowIs (i := 0) (m' := (rmAt al m).length) (cs' := (rmAt al m).map (Value.int .i64)) rfl (by first | rfl | (simp [rmAt, seg]; done) | (simp [rmAt, seg]; omega)) (by first | rfl | (simp [rmAt, seg]; done)) rfl ?_
                                  refine GA.shape (i := 0) rfl (fun A_t57 c_t57 e_t57 l_t57 k_t57 => ?_)
                                  subst e_t57
                                  refine GA.freezeI (i := 0) rfl ?_
                                  refine GA.done (by kernel_rfl) ?_
                                  exact fun a w h => ⟨(rmAt al m), (_), (_), (o), (_), (_), by have := rmAt_len (al := al) (m := m) (by omega); omega, ⟨hI.old (by omega) (by omega) (by omega), l_t57, k_t57⟩, h.cut (is := [0, 0]) (js := [0, 5]) ⟨rfl, rfl, trivial⟩ rfl rfl⟩
                                exact GAs.nil
                              exact GAs.nil
                            exact GAs.nil
                          refine GAs.cons (i := 8) rfl rfl (t_cut_l (j := 2) rfl rfl rfl rfl Try.underlying22 sz_3 (by omega) (by omega) (by omega)) (by rintro a w h; exact h.mem (is := [0, 0]) (js := [2, 3, 4]) rfl rfl) ?_ ?_
                          · refine GA.all (rs := [0]) (by kernel_rfl) (by simp) ?_
                            refine GAs.cons (i := 0) rfl rfl (t_buildSlice rfl Try.underlying22 sz_3 ze_3 rfl rfl rfl rfl rfl rfl) (by rintro a w ⟨_, h⟩; exact h.mem (is := [1, 1]) (js := [2, 3, 4]) rfl rfl) (GA.ex fun b_t57 => ?_) ?_
                            · refine GA.torow (i := 0) (m := 0) (sz := 1) rfl rfl (by decide) rfl ?_
                              refine GA.all (rs := [4]) (by kernel_rfl) (by simp) ?_
                              refine GAs.cons (i := 4) rfl rfl (t_appendS (i := 0) (k := 1) rfl el_22 rfl rfl rfl rfl (by first | omega | (simp [seg]; omega)) (fun _ => rfl)) (by rintro a w ⟨_, h⟩; exact h.mem (is := [1, 1]) (js := [2, 3, 4]) rfl rfl) (GA.ex fun v61 => ?_) ?_
                              · refine GA.all (rs := [9]) (by kernel_rfl) (by simp) ?_
                                refine GAs.cons (i := 9) rfl rfl (t_appendS (i := 0) (k := 0) rfl el_22 rfl rfl rfl rfl (by first | omega | (simp [seg]; omega)) (fun _ => rfl)) (by rintro a w ⟨_, h⟩; exact h.mem (is := [1, 1]) (js := [2, 3, 4]) rfl rfl) (GA.ex fun v66 => ?_) ?_
                                · refine GA.take 10 rfl (by kernel_rfl) (by kernel_rfl) (by kernel_rfl) rfl (fun a w h => h.mem (is := [1, 1]) (js := [2, 3, 4]) rfl rfl) (i_pure (p_assign rfl)) ?_
                                  refine GA.rowIs (i := 0) (m' := (rmAt al m).length) (cs' := (rmAt al m).map (Value.int .i64)) rfl (by first | rfl | (simp [rmAt, seg]; done) | (simp [rmAt, seg]; omega)) (by first | rfl | (simp [rmAt, seg]; done)) rfl ?_
                                  refine GA.shape (i := 0) rfl (fun A_t57 c_t57 e_t57 l_t57 k_t57 => ?_)
                                  subst e_t57
                                  refine GA.freezeI (i := 0) rfl ?_
                                  refine GA.done (by kernel_rfl) ?_
                                  exact fun a w h => ⟨(rmAt al m), (_), (_), (o), (_), (_), by have := rmAt_len (al := al) (m := m) (by omega); omega, ⟨hI.old (by omega) (by omega) (by omega), l_t57, k_t57⟩, h.cut (is := [0, 0]) (js := [0, 5]) ⟨rfl, rfl, trivial⟩ rfl rfl⟩
                                exact GAs.nil
                              exact GAs.nil
                            exact GAs.nil
                          exact GAs.nil
                        refine GAs.cons (i := 8) rfl rfl (t_cut_l (j := 1) rfl rfl rfl rfl Try.underlying22 sz_3 (by omega) (by omega) (by omega)) (by rintro a w h; exact h.mem (is := [0, 0]) (js := [1, 2, 3]) rfl rfl) ?_ ?_
                        · refine GA.all (rs := [0, 3]) (by kernel_rfl) (by simp) ?_
                          refine GAs.cons (i := 0) rfl rfl (t_buildSlice rfl Try.underlying22 sz_3 ze_3 rfl rfl rfl rfl rfl rfl) (by rintro a w ⟨_, h⟩; exact h.mem (is := [1, 1]) (js := [1, 2, 3]) rfl rfl) (GA.ex fun b_t57 => ?_) ?_
                          · refine GA.all (rs := [3]) (by kernel_rfl) (by simp) ?_
                            refine GAs.cons (i := 3) rfl rfl (t_cut_h (j := 2) rfl rfl rfl rfl Try.underlying22 sz_3 (by omega) (by omega) (by omega)) (by rintro a w h; exact h.mem (is := [1, 1]) (js := [2, 3, 4]) rfl rfl) ?_ ?_
                            · refine GA.torow (i := 0) (m := 0) (sz := 1) rfl rfl (by decide) rfl ?_
                              refine GA.all (rs := [4]) (by kernel_rfl) (by simp) ?_
                              refine GAs.cons (i := 4) rfl rfl (t_appendS (i := 0) (k := 0) rfl el_22 rfl rfl rfl rfl (by first | omega | (simp [seg]; omega)) (fun _ => rfl)) (by rintro a w ⟨_, h⟩; exact h.mem (is := [1, 1]) (js := [2, 3, 4]) rfl rfl) (GA.ex fun v61 => ?_) ?_
                              · refine GA.all (rs := [9]) (by kernel_rfl) (by simp) ?_
                                refine GAs.cons (i := 9) rfl rfl (t_appendS (i := 0) (k := 1) rfl el_22 rfl rfl rfl rfl (by first | omega | (simp [seg]; omega)) (fun _ => rfl)) (by rintro a w ⟨_, h⟩; exact h.mem (is := [1, 1]) (js := [2, 3, 4]) rfl rfl) (GA.ex fun v66 => ?_) ?_
                                · refine GA.take 10 rfl (by kernel_rfl) (by kernel_rfl) (by kernel_rfl) rfl (fun a w h => h.mem (is := [1, 1]) (js := [2, 3, 4]) rfl rfl) (i_pure (p_assign rfl)) ?_
                                  refine GA.rowIs (i := 0) (m' := (rmAt al m).length) (cs' := (rmAt al m).map (Value.int .i64)) rfl (by first | rfl | (simp [rmAt, seg]; done) | (simp [rmAt, seg]; omega)) (by first | rfl | (simp [rmAt, seg]; done)) rfl ?_
                                  refine GA.shape (i := 0) rfl (fun A_t57 c_t57 e_t57 l_t57 k_t57 => ?_)
                                  subst e_t57
                                  refine GA.freezeI (i := 0) rfl ?_
                                  refine GA.done (by kernel_rfl) ?_
                                  exact fun a w h => ⟨(rmAt al m), (_), (_), (o), (_), (_), by have := rmAt_len (al := al) (m := m) (by omega); omega, ⟨hI.old (by omega) (by omega) (by omega), l_t57, k_t57⟩, h.cut (is := [0, 0]) (js := [0, 5]) ⟨rfl, rfl, trivial⟩ rfl rfl⟩
                                exact GAs.nil
                              exact GAs.nil
                            exact GAs.nil
                          refine GAs.cons (i := 3) rfl rfl (t_cut_h (j := 2) rfl rfl rfl rfl Try.underlying22 sz_3 (by omega) (by omega) (by omega)) (by rintro a w h; exact h.mem (is := [0, 0]) (js := [2, 3, 4]) rfl rfl) ?_ ?_
                          · refine GA.all (rs := [0]) (by kernel_rfl) (by simp) ?_
                            refine GAs.cons (i := 0) rfl rfl (t_buildSlice rfl Try.underlying22 sz_3 ze_3 rfl rfl rfl rfl rfl rfl) (by rintro a w ⟨_, h⟩; exact h.mem (is := [1, 1]) (js := [2, 3, 4]) rfl rfl) (GA.ex fun b_t57 => ?_) ?_
                            · refine GA.torow (i := 0) (m := 0) (sz := 1) rfl rfl (by decide) rfl ?_
                              refine GA.all (rs := [4]) (by kernel_rfl) (by simp) ?_
                              refine GAs.cons (i := 4) rfl rfl (t_appendS (i := 0) (k := 0) rfl el_22 rfl rfl rfl rfl (by first | omega | (simp [seg]; omega)) (fun _ => rfl)) (by rintro a w ⟨_, h⟩; exact h.mem (is := [1, 1]) (js := [2, 3, 4]) rfl rfl) (GA.ex fun v61 => ?_) ?_
                              · refine GA.all (rs := [9]) (by kernel_rfl) (by simp) ?_
                                refine GAs.cons (i := 9) rfl rfl (t_appendS (i := 0) (k := 1) rfl el_22 rfl rfl rfl rfl (by first | omega | (simp [seg]; omega)) (fun _ => rfl)) (by rintro a w ⟨_, h⟩; exact h.mem (is := [1, 1]) (js := [2, 3, 4]) rfl rfl) (GA.ex fun v66 => ?_) ?_
                                · refine GA.take 10 rfl (by kernel_rfl) (by kernel_rfl) (by kernel_rfl) rfl (fun a w h => h.mem (is := [1, 1]) (js := [2, 3, 4]) rfl rfl) (i_pure (p_assign rfl)) ?_
                                  refine GA.rowIs (i := 0) (m' := (rmAt al m).length) (cs' := (rmAt al m).map (Value.int .i64)) rfl (by first | rfl | (simp [rmAt, seg]; done) | (simp [rmAt, seg]; omega)) (by first | rfl | (simp [rmAt, seg]; done)) rfl ?_
                                  refine GA.shape (i := 0) rfl (fun A_t57 c_t57 e_t57 l_t57 k_t57 => ?_)
                                  subst e_t57
                                  refine GA.freezeI (i := 0) rfl ?_
                                  refine GA.done (by kernel_rfl) ?_
                                  exact fun a w h => ⟨(rmAt al m), (_), (_), (o), (_), (_), by have := rmAt_len (al := al) (m := m) (by omega); omega, ⟨hI.old (by omega) (by omega) (by omega), l_t57, k_t57⟩, h.cut (is := [0, 0]) (js := [0, 5]) ⟨rfl, rfl, trivial⟩ rfl rfl⟩
                                exact GAs.nil
                              exact GAs.nil
                            exact GAs.nil
                          exact GAs.nil
                        exact GAs.nil))))
  · try simp only [decide_eq_true_eq, decide_eq_false_iff_not, Bool.not_eq_true', Bool.not_eq_false', Bool.not_true, Bool.not_false, Bool.not_not, ne_eq, Decidable.not_not, Int.not_lt, Int.not_le, gt_iff_lt, ge_iff_le, bool_true_eq_, bool_false_eq_] at h1
    first
    | (exfalso; omega)
    | (skip
       refine GC.exit (?_ : GC _ _ _ _)
       refine GC.seq' ?_
       refine GC.region ?_
       refine GL.pure rfl (p_move rfl) ?_
       refine GL.pure rfl (p_assign rfl) ?_
       refine GL.nil (?_ : GC _ _ _ _)
       have e := hI.done (by omega)
       subst e
       refine GC.freezeI (i := 0) rfl ?_
       refine GC.ret ?_
       refine fun a w h => Fin.back (rs := [.tmp 4]) (vs := [_]) (is := []) (js := [0]) rfl ⟨rfl, trivial⟩ rfl rfl ?_ h
       clear h
       exact ⟨_, _, rfl, rfl, rfl⟩)
end Go.Proofs.Ytmjfkjajedhciaa
