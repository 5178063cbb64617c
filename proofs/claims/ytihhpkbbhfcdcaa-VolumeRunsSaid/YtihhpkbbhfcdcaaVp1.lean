/- THE VOLUME: pages: which may be laid. -/
import Derived.Test.YtihhpkbbhfcdcaaVr4
set_option linter.unusedVariables false
set_option linter.unusedSimpArgs false
set_option maxRecDepth 100000
namespace Go.Proofs.Ytihhpkbbhfcdcaa
open Go Go.Sx Go.Proofs

def badP (bl sz last : Int) (p : Page) : Prop := p.at_ ≤ last ∨ bl ≤ p.at_ ∨ p.ver < 1 ∨ 4611686018427387904 < p.ver ∨ (p.data.length : Int) ≠ sz
instance (bl sz last : Int) (p : Page) : Decidable (badP bl sz last p) := by unfold badP; infer_instance
def laidF (bl sz : Int) : Int → List Page → Bool
  | _, [] => true
  | last, p :: r => if badP bl sz last p then false else laidF bl sz p.at_ r
theorem drop_gt {α : Type} [Inhabited α] {l : List α} {k : Nat} (h : k < l.length) : l.drop k = gt l (k : Int) :: l.drop (k + 1) := by
  have := gt_ok (xs := l) (i := (k : Int)) (by omega) (by omega)
  rw [List.drop_eq_getElem_cons h]
  congr 1
  have h2 : l[k]? = some l[k] := List.getElem?_eq_getElem h
  simp only [Int.toNat_natCast] at this
  rw [h2] at this
  exact Option.some.inj this
theorem laidF_bad {bl sz last : Int} {l : List Page} {k : Nat} (h : k < l.length) (hb : badP bl sz last (gt l (k : Int))) : laidF bl sz last (l.drop k) = false := by rw [drop_gt h, laidF, if_pos hb]
theorem laidF_ok {bl sz last : Int} {l : List Page} {k : Nat} (h : k < l.length) (hb : ¬ badP bl sz last (gt l (k : Int))) : laidF bl sz last (l.drop k) = laidF bl sz (gt l (k : Int)).at_ (l.drop (k + 1)) := by rw [drop_gt h, laidF, if_neg hb]
theorem laidF_end {bl sz last : Int} {l : List Page} {k : Nat} (h : l.length ≤ k) : laidF bl sz last (l.drop k) = true := by rw [List.drop_of_length_le h]; rfl

abbrev pageV (pg : Page) (A : Option Addr) (cp : Nat) : Value := .agg #[.int .i64 pg.at_, .int .i64 pg.ver, .slice A pg.data.length cp]
abbrev capG (q wb p : Nat) (last : Int) : List Own := [.cells q [.int .i64 last] 3, .cells wb [.pointer (some ⟨p, 0, none⟩)] 24]
theorem laidc_ct (q wb p pb pv : Nat) (v : Vol) (last : Int) (pg : Page) (A : Option Addr) (cp : Nat) : Ct Try.prog 50 [pageV pg A cp, .pointer (some ⟨q, 0, none⟩), .pointer (some ⟨wb, 0, none⟩)] (capG q wb p last ++ volG p pb pv v) []
    (fun u G Q => u = .bool (decide (badP v.bl v.sz last pg)) ∧ G = capG q wb p pg.at_ ++ volG p pb pv v ∧ Q = []) := by
  refine Ct.intro Try.func50 rfl rfl rfl (fun c hc => ?_)
  refine GC.seq' ?_
  refine GC.region ?_
  refine GL.step rfl (t_box rfl rfl rfl) (GL.ex fun b_t3 => ?_)
  refine GL.pure rfl (p_assign rfl) ?_
  refine GL.nil (?_ : GC _ _ _ _)
  refine GC.seq' ?_
  refine GC.regionQ wide_ (by kernel_rfl) ?_
  refine GQ.step rfl (q_pure (p_fieldAddr fo_71_0 rfl)) ?_
  refine GQ.step rfl (q_mem (m_load (i := 0) rfl rfl ag_3 rfl)) ?_
  refine GQ.step rfl (q_mem (m_load (i := 1) rfl rfl ag_3 rfl)) ?_
  refine GQ.step rfl (q_pure (p_leq rfl rfl)) ?_
  refine GQ.step rfl (q_pure (p_move rfl)) ?_
  refine GQ.split (i := 10) rfl (fun h1 => ?_) (fun h1 => ?_)
  · try simp only [decide_eq_true_eq, decide_eq_false_iff_not, Bool.not_eq_true', Bool.not_eq_false', Bool.not_true, Bool.not_false, Bool.not_not, ne_eq, Decidable.not_not, Int.not_lt, Int.not_le, gt_iff_lt, ge_iff_le, bool_true_eq_, bool_false_eq_] at h1
    refine GQ.pass (s := 10) rfl rfl rfl ?_
    refine GQ.pass (s := 10) rfl rfl rfl ?_
    refine GQ.pass (s := 10) rfl rfl rfl ?_
    refine GQ.pass (s := 10) rfl rfl rfl ?_
    refine GQ.pass (s := 10) rfl rfl rfl ?_
    refine GQ.pass (s := 10) rfl rfl rfl ?_
    refine GQ.pass (s := 10) rfl rfl rfl ?_
    refine GQ.pass (s := 10) rfl rfl rfl ?_
    refine GQ.step rfl (q_pure (p_pick_true rfl rfl)) ?_
    refine GQ.step rfl (q_pure (p_move rfl)) ?_
    refine GQ.pass (s := 20) rfl rfl rfl ?_
    refine GQ.pass (s := 20) rfl rfl rfl ?_
    refine GQ.pass (s := 20) rfl rfl rfl ?_
    refine GQ.step rfl (q_pure (p_pick_true rfl rfl)) ?_
    refine GQ.step rfl (q_pure (p_move rfl)) ?_
    refine GQ.pass (s := 25) rfl rfl rfl ?_
    refine GQ.pass (s := 25) rfl rfl rfl ?_
    refine GQ.pass (s := 25) rfl rfl rfl ?_
    refine GQ.step rfl (q_pure (p_pick_true rfl rfl)) ?_
    refine GQ.step rfl (q_pure (p_move rfl)) ?_
    refine GQ.pass (s := 30) rfl rfl rfl ?_
    refine GQ.pass (s := 30) rfl rfl rfl ?_
    refine GQ.pass (s := 30) rfl rfl rfl ?_
    refine GQ.pass (s := 30) rfl rfl rfl ?_
    refine GQ.pass (s := 30) rfl rfl rfl ?_
    refine GQ.pass (s := 30) rfl rfl rfl ?_
    refine GQ.pass (s := 30) rfl rfl rfl ?_
    refine GQ.pass (s := 30) rfl rfl rfl ?_
    refine GQ.pass (s := 30) rfl rfl rfl ?_
    refine GQ.step rfl (q_pure (p_pick_true rfl rfl)) ?_
    refine GQ.step rfl (q_pure (p_assign rfl)) ?_
    refine GQ.nil (?_ : GC _ _ _ _)
    refine GC.seq' ?_
    refine GC.region ?_
    refine GL.pure rfl (p_fieldAddr fo_71_0 rfl) ?_
    refine GL.step rfl (t_mem rfl (m_load (i := 0) rfl rfl ag_3 rfl)) ?_
    refine GL.step rfl (t_store (i := 1) rfl rfl rfl rfl sz_3 rfl rfl rfl) ?_
    refine GL.nil (?_ : GC _ _ _ _)
    refine GC.seq' ?_
    refine GC.region ?_
    refine GL.pure rfl (p_move rfl) ?_
    refine GL.pure rfl (p_assign rfl) ?_
    refine GL.nil (?_ : GC _ _ _ _)
    refine GC.ret ?_
    refine fun a w h => Fin.back (rs := [.tmp 4]) (vs := [_]) (is := [1, 1, 1, 1, 1]) (js := []) rfl ⟨rfl, trivial⟩ rfl rfl ?_ h
    clear h
    refine ⟨congrArg Value.bool ?_, rfl, rfl⟩; first | exact decide_eq_decide.2 (by unfold badP; omega) | exact (decide_eq_true (by unfold badP; omega)).symm | exact (decide_eq_false (by unfold badP; omega)).symm
  · try simp only [decide_eq_true_eq, decide_eq_false_iff_not, Bool.not_eq_true', Bool.not_eq_false', Bool.not_true, Bool.not_false, Bool.not_not, ne_eq, Decidable.not_not, Int.not_lt, Int.not_le, gt_iff_lt, ge_iff_le, bool_true_eq_, bool_false_eq_] at h1
    refine GQ.stepG (s := 10) rfl rfl rfl (q_pure (p_fieldAddr fo_71_0 rfl)) ?_
    refine GQ.stepG (s := 10) rfl rfl rfl (q_mem (m_load (i := 0) rfl rfl ag_3 rfl)) ?_
    refine GQ.stepG (s := 10) rfl rfl rfl (q_mem (m_load (i := 2) rfl rfl ag_24 rfl)) ?_
    refine GQ.stepG (s := 10) rfl rfl rfl (q_pure (p_nilCheck rfl)) ?_
    refine GQ.stepG (s := 10) rfl rfl rfl (q_pure (p_fieldAddr fo_58_0 rfl)) ?_
    refine GQ.stepG (s := 10) rfl rfl rfl (q_pure (p_fieldAddr fo_23_0 rfl)) ?_
    refine GQ.stepG (s := 10) rfl rfl rfl (q_mem (m_load (i := 3) rfl rfl ag_3 rfl)) ?_
    refine GQ.stepG (s := 10) rfl rfl rfl (q_pure (p_geq rfl rfl)) ?_
    refine GQ.step rfl (q_pure (p_pick_false rfl rfl)) ?_
    refine GQ.step rfl (q_pure (p_move rfl)) ?_
    refine GQ.split (i := 20) rfl (fun h2 => ?_) (fun h2 => ?_)
    · try simp only [decide_eq_true_eq, decide_eq_false_iff_not, Bool.not_eq_true', Bool.not_eq_false', Bool.not_true, Bool.not_false, Bool.not_not, ne_eq, Decidable.not_not, Int.not_lt, Int.not_le, gt_iff_lt, ge_iff_le, bool_true_eq_, bool_false_eq_] at h2
      refine GQ.pass (s := 20) rfl rfl rfl ?_
      refine GQ.pass (s := 20) rfl rfl rfl ?_
      refine GQ.pass (s := 20) rfl rfl rfl ?_
      refine GQ.step rfl (q_pure (p_pick_true rfl rfl)) ?_
      refine GQ.step rfl (q_pure (p_move rfl)) ?_
      refine GQ.pass (s := 25) rfl rfl rfl ?_
      refine GQ.pass (s := 25) rfl rfl rfl ?_
      refine GQ.pass (s := 25) rfl rfl rfl ?_
      refine GQ.step rfl (q_pure (p_pick_true rfl rfl)) ?_
      refine GQ.step rfl (q_pure (p_move rfl)) ?_
      refine GQ.pass (s := 30) rfl rfl rfl ?_
      refine GQ.pass (s := 30) rfl rfl rfl ?_
      refine GQ.pass (s := 30) rfl rfl rfl ?_
      refine GQ.pass (s := 30) rfl rfl rfl ?_
      refine GQ.pass (s := 30) rfl rfl rfl ?_
      refine GQ.pass (s := 30) rfl rfl rfl ?_
      refine GQ.pass (s := 30) rfl rfl rfl ?_
      refine GQ.pass (s := 30) rfl rfl rfl ?_
      refine GQ.pass (s := 30) rfl rfl rfl ?_
      refine GQ.step rfl (q_pure (p_pick_true rfl rfl)) ?_
      refine GQ.step rfl (q_pure (p_assign rfl)) ?_
      refine GQ.nil (?_ : GC _ _ _ _)
      refine GC.seq' ?_
      refine GC.region ?_
      refine GL.pure rfl (p_fieldAddr fo_71_0 rfl) ?_
      refine GL.step rfl (t_mem rfl (m_load (i := 0) rfl rfl ag_3 rfl)) ?_
      refine GL.step rfl (t_store (i := 1) rfl rfl rfl rfl sz_3 rfl rfl rfl) ?_
      refine GL.nil (?_ : GC _ _ _ _)
      refine GC.seq' ?_
      refine GC.region ?_
      refine GL.pure rfl (p_move rfl) ?_
      refine GL.pure rfl (p_assign rfl) ?_
      refine GL.nil (?_ : GC _ _ _ _)
      refine GC.ret ?_
      refine fun a w h => Fin.back (rs := [.tmp 4]) (vs := [_]) (is := [1, 1, 1, 1, 1]) (js := []) rfl ⟨rfl, trivial⟩ rfl rfl ?_ h
      clear h
      refine ⟨congrArg Value.bool ?_, rfl, rfl⟩; first | exact decide_eq_decide.2 (by unfold badP; omega) | exact (decide_eq_true (by unfold badP; omega)).symm | exact (decide_eq_false (by unfold badP; omega)).symm
    · try simp only [decide_eq_true_eq, decide_eq_false_iff_not, Bool.not_eq_true', Bool.not_eq_false', Bool.not_true, Bool.not_false, Bool.not_not, ne_eq, Decidable.not_not, Int.not_lt, Int.not_le, gt_iff_lt, ge_iff_le, bool_true_eq_, bool_false_eq_] at h2
      refine GQ.stepG (s := 20) rfl rfl rfl (q_pure (p_fieldAddr fo_71_1 rfl)) ?_
      refine GQ.stepG (s := 20) rfl rfl rfl (q_mem (m_load (i := 0) rfl rfl ag_3 rfl)) ?_
      refine GQ.stepG (s := 20) rfl rfl rfl (q_pure (p_lss rfl rfl)) ?_
      refine GQ.step rfl (q_pure (p_pick_false rfl rfl)) ?_
      refine GQ.step rfl (q_pure (p_move rfl)) ?_
      refine GQ.split (i := 25) rfl (fun h3 => ?_) (fun h3 => ?_)
      · try simp only [decide_eq_true_eq, decide_eq_false_iff_not, Bool.not_eq_true', Bool.not_eq_false', Bool.not_true, Bool.not_false, Bool.not_not, ne_eq, Decidable.not_not, Int.not_lt, Int.not_le, gt_iff_lt, ge_iff_le, bool_true_eq_, bool_false_eq_] at h3
        refine GQ.pass (s := 25) rfl rfl rfl ?_
        refine GQ.pass (s := 25) rfl rfl rfl ?_
        refine GQ.pass (s := 25) rfl rfl rfl ?_
        refine GQ.step rfl (q_pure (p_pick_true rfl rfl)) ?_
        refine GQ.step rfl (q_pure (p_move rfl)) ?_
        refine GQ.pass (s := 30) rfl rfl rfl ?_
        refine GQ.pass (s := 30) rfl rfl rfl ?_
        refine GQ.pass (s := 30) rfl rfl rfl ?_
        refine GQ.pass (s := 30) rfl rfl rfl ?_
        refine GQ.pass (s := 30) rfl rfl rfl ?_
        refine GQ.pass (s := 30) rfl rfl rfl ?_
        refine GQ.pass (s := 30) rfl rfl rfl ?_
        refine GQ.pass (s := 30) rfl rfl rfl ?_
        refine GQ.pass (s := 30) rfl rfl rfl ?_
        refine GQ.step rfl (q_pure (p_pick_true rfl rfl)) ?_
        refine GQ.step rfl (q_pure (p_assign rfl)) ?_
        refine GQ.nil (?_ : GC _ _ _ _)
        refine GC.seq' ?_
        refine GC.region ?_
        refine GL.pure rfl (p_fieldAddr fo_71_0 rfl) ?_
        refine GL.step rfl (t_mem rfl (m_load (i := 0) rfl rfl ag_3 rfl)) ?_
        refine GL.step rfl (t_store (i := 1) rfl rfl rfl rfl sz_3 rfl rfl rfl) ?_
        refine GL.nil (?_ : GC _ _ _ _)
        refine GC.seq' ?_
        refine GC.region ?_
        refine GL.pure rfl (p_move rfl) ?_
        refine GL.pure rfl (p_assign rfl) ?_
        refine GL.nil (?_ : GC _ _ _ _)
        refine GC.ret ?_
        refine fun a w h => Fin.back (rs := [.tmp 4]) (vs := [_]) (is := [1, 1, 1, 1, 1]) (js := []) rfl ⟨rfl, trivial⟩ rfl rfl ?_ h
        clear h
        refine ⟨congrArg Value.bool ?_, rfl, rfl⟩; first | exact decide_eq_decide.2 (by unfold badP; omega) | exact (decide_eq_true (by unfold badP; omega)).symm | exact (decide_eq_false (by unfold badP; omega)).symm
      · try simp only [decide_eq_true_eq, decide_eq_false_iff_not, Bool.not_eq_true', Bool.not_eq_false', Bool.not_true, Bool.not_false, Bool.not_not, ne_eq, Decidable.not_not, Int.not_lt, Int.not_le, gt_iff_lt, ge_iff_le, bool_true_eq_, bool_false_eq_] at h3
        refine GQ.stepG (s := 25) rfl rfl rfl (q_pure (p_fieldAddr fo_71_1 rfl)) ?_
        refine GQ.stepG (s := 25) rfl rfl rfl (q_mem (m_load (i := 0) rfl rfl ag_3 rfl)) ?_
        refine GQ.stepG (s := 25) rfl rfl rfl (q_pure (p_gtr rfl rfl)) ?_
        refine GQ.step rfl (q_pure (p_pick_false rfl rfl)) ?_
        refine GQ.step rfl (q_pure (p_move rfl)) ?_
        refine GQ.split (i := 30) rfl (fun h4 => ?_) (fun h4 => ?_)
        · try simp only [decide_eq_true_eq, decide_eq_false_iff_not, Bool.not_eq_true', Bool.not_eq_false', Bool.not_true, Bool.not_false, Bool.not_not, ne_eq, Decidable.not_not, Int.not_lt, Int.not_le, gt_iff_lt, ge_iff_le, bool_true_eq_, bool_false_eq_] at h4
          refine GQ.pass (s := 30) rfl rfl rfl ?_
          refine GQ.pass (s := 30) rfl rfl rfl ?_
          refine GQ.pass (s := 30) rfl rfl rfl ?_
          refine GQ.pass (s := 30) rfl rfl rfl ?_
          refine GQ.pass (s := 30) rfl rfl rfl ?_
          refine GQ.pass (s := 30) rfl rfl rfl ?_
          refine GQ.pass (s := 30) rfl rfl rfl ?_
          refine GQ.pass (s := 30) rfl rfl rfl ?_
          refine GQ.pass (s := 30) rfl rfl rfl ?_
          refine GQ.step rfl (q_pure (p_pick_true rfl rfl)) ?_
          refine GQ.step rfl (q_pure (p_assign rfl)) ?_
          refine GQ.nil (?_ : GC _ _ _ _)
          refine GC.seq' ?_
          refine GC.region ?_
          refine GL.pure rfl (p_fieldAddr fo_71_0 rfl) ?_
          refine GL.step rfl (t_mem rfl (m_load (i := 0) rfl rfl ag_3 rfl)) ?_
          refine GL.step rfl (t_store (i := 1) rfl rfl rfl rfl sz_3 rfl rfl rfl) ?_
          refine GL.nil (?_ : GC _ _ _ _)
          refine GC.seq' ?_
          refine GC.region ?_
          refine GL.pure rfl (p_move rfl) ?_
          refine GL.pure rfl (p_assign rfl) ?_
          refine GL.nil (?_ : GC _ _ _ _)
          refine GC.ret ?_
          refine fun a w h => Fin.back (rs := [.tmp 4]) (vs := [_]) (is := [1, 1, 1, 1, 1]) (js := []) rfl ⟨rfl, trivial⟩ rfl rfl ?_ h
          clear h
          refine ⟨congrArg Value.bool ?_, rfl, rfl⟩; first | exact decide_eq_decide.2 (by unfold badP; omega) | exact (decide_eq_true (by unfold badP; omega)).symm | exact (decide_eq_false (by unfold badP; omega)).symm
        · try simp only [decide_eq_true_eq, decide_eq_false_iff_not, Bool.not_eq_true', Bool.not_eq_false', Bool.not_true, Bool.not_false, Bool.not_not, ne_eq, Decidable.not_not, Int.not_lt, Int.not_le, gt_iff_lt, ge_iff_le, bool_true_eq_, bool_false_eq_] at h4
          refine GQ.stepG (s := 30) rfl rfl rfl (q_pure (p_fieldAddr fo_71_2 rfl)) ?_
          refine GQ.stepG (s := 30) rfl rfl rfl (q_mem (m_load (i := 0) rfl rfl ag_31 rfl)) ?_
          refine GQ.stepG (s := 30) rfl rfl rfl (q_pure (p_len Try.underlying31 rfl)) ?_
          refine GQ.stepG (s := 30) rfl rfl rfl (q_mem (m_load (i := 2) rfl rfl ag_24 rfl)) ?_
          refine GQ.stepG (s := 30) rfl rfl rfl (q_pure (p_nilCheck rfl)) ?_
          refine GQ.stepG (s := 30) rfl rfl rfl (q_pure (p_fieldAddr fo_58_0 rfl)) ?_
          refine GQ.stepG (s := 30) rfl rfl rfl (q_pure (p_fieldAddr fo_23_1 rfl)) ?_
          refine GQ.stepG (s := 30) rfl rfl rfl (q_mem (m_load (i := 3) rfl rfl ag_3 rfl)) ?_
          refine GQ.stepG (s := 30) rfl rfl rfl (q_pure (p_neq rfl rfl)) ?_
          refine GQ.step rfl (q_pure (p_pick_false rfl rfl)) ?_
          refine GQ.step rfl (q_pure (p_assign rfl)) ?_
          refine GQ.nil (?_ : GC _ _ _ _)
          refine GC.seq' ?_
          refine GC.region ?_
          refine GL.pure rfl (p_fieldAddr fo_71_0 rfl) ?_
          refine GL.step rfl (t_mem rfl (m_load (i := 0) rfl rfl ag_3 rfl)) ?_
          refine GL.step rfl (t_store (i := 1) rfl rfl rfl rfl sz_3 rfl rfl rfl) ?_
          refine GL.nil (?_ : GC _ _ _ _)
          refine GC.seq' ?_
          refine GC.region ?_
          refine GL.pure rfl (p_move rfl) ?_
          refine GL.pure rfl (p_assign rfl) ?_
          refine GL.nil (?_ : GC _ _ _ _)
          refine GC.ret ?_
          refine fun a w h => Fin.back (rs := [.tmp 4]) (vs := [_]) (is := [1, 1, 1, 1, 1]) (js := []) rfl ⟨rfl, trivial⟩ rfl rfl ?_ h
          clear h
          refine ⟨congrArg Value.bool ?_, rfl, rfl⟩; first | exact decide_eq_decide.2 (by unfold badP; omega) | exact (decide_eq_true (by unfold badP; omega)).symm | exact (decide_eq_false (by unfold badP; omega)).symm
theorem index_ct (q wb p pb pv : Nat) (v : Vol) (A : Option Addr) (l : List Page) (cp : Nat) (hl : l.length ≤ 140737488355328) : Ct Try.prog 55 [.slice A l.length cp, .func (.func 50) #[] #[.pointer (some ⟨q, 0, none⟩), .pointer (some ⟨wb, 0, none⟩)]] (capG q wb p (-1) ++ volG p pb pv v) [Pers.row kPage A l]
    (fun u G Q => ∃ r la, (0 ≤ r ↔ laidF v.bl v.sz (-1) l = false) ∧ u = .int .i64 r ∧ G = capG q wb p la ++ volG p pb pv v ∧ Q = []) := by
  refine Ct.intro Try.func55 rfl rfl rfl (fun c hc => ?_)
  refine GC.seq' ?_
  refine GC.region ?_
  refine GL.pure rfl (p_assign rfl) ?_
  refine GL.nil (?_ : GC _ _ _ _)
  refine GC.seq' ?_
  refine GC.seq' ?_
  refine GC.region ?_
  refine GL.pure rfl (p_move rfl) ?_
  refine GL.pure rfl (p_len Try.underlying33 rfl) ?_
  refine GL.pure rfl (p_move rfl) ?_
  refine GL.nil (?_ : GC _ _ _ _)
  refine GC.block ?_
  refine GC.imp (fun a w h => (⟨⟨by simp, rfl⟩, h.cut (is := [0, 0, 0, 0, 0]) (js := [0]) ⟨rfl, rfl, rfl, rfl, trivial⟩ rfl rfl⟩ : (fun (y : Nat × Int) (a : Act) (w : World) => (y.1 ≤ l.length ∧ laidF v.bl v.sz (-1) l = laidF v.bl v.sz y.2 (l.drop y.1)) ∧ St c 19 [(0, .slice A l.length cp), (1, .func (.func 50) #[] #[.pointer (some ⟨q, 0, none⟩), .pointer (some ⟨wb, 0, none⟩)]), (7, .int .i64 (l.length : Int)), (8, .int .i64 (y.1 : Int))] [.cells q [.int .i64 y.2] 3, .cells wb [.pointer (some ⟨p, 0, none⟩)] 24, .cells p [.int .i64 v.bl, .int .i64 v.sz, .slice (some ⟨pb, 0, none⟩) (v.bl * v.sz).toNat (v.bl * v.sz).toNat, .slice (some ⟨pv, 0, none⟩) v.bl.toNat v.bl.toNat, .int .i64 v.last] 58, .cells pb (v.b.map u8v) 5, .cells pv (v.vs.map (Value.int .i64)) 3] [Pers.row kPage A l] a w) (0, -1) a w)) (GC.loop (fun (y : Nat × Int) (a : Act) (w : World) => (y.1 ≤ l.length ∧ laidF v.bl v.sz (-1) l = laidF v.bl v.sz y.2 (l.drop y.1)) ∧ St c 19 [(0, .slice A l.length cp), (1, .func (.func 50) #[] #[.pointer (some ⟨q, 0, none⟩), .pointer (some ⟨wb, 0, none⟩)]), (7, .int .i64 (l.length : Int)), (8, .int .i64 (y.1 : Int))] [.cells q [.int .i64 y.2] 3, .cells wb [.pointer (some ⟨p, 0, none⟩)] 24, .cells p [.int .i64 v.bl, .int .i64 v.sz, .slice (some ⟨pb, 0, none⟩) (v.bl * v.sz).toNat (v.bl * v.sz).toNat, .slice (some ⟨pv, 0, none⟩) v.bl.toNat v.bl.toNat, .int .i64 v.last] 58, .cells pb (v.b.map u8v) 5, .cells pv (v.vs.map (Value.int .i64)) 3] [Pers.row kPage A l] a w) (fun y => l.length - y.1) (0, -1) ?_)
  intro y
  refine GC.and fun hk => ?_
  obtain ⟨k, last⟩ := y
  dsimp only at hk ⊢
  obtain ⟨hk, he⟩ := hk
  refine GC.seq' ?_
  refine GC.region ?_
  refine GL.pure rfl (p_lss rfl rfl) ?_
  refine GL.nil (?_ : GC _ _ _ _)
  refine GC.seq' ?_
  refine GC.cond rfl (fun h1 => ?_) (fun h1 => ?_)
  · try simp only [decide_eq_true_eq, decide_eq_false_iff_not, Bool.not_eq_true', Bool.not_eq_false', Bool.not_true, Bool.not_false, Bool.not_not, ne_eq, Decidable.not_not, Int.not_lt, Int.not_le, gt_iff_lt, ge_iff_le, bool_true_eq_, bool_false_eq_] at h1
    refine GC.skip (?_ : GC _ _ _ _)
    refine GC.seq' ?_
    refine GC.block ?_
    refine GC.seq' ?_
    refine GC.region ?_
    refine GL.pure rfl (p_move rfl) ?_
    refine GL.pure rfl (p_assign rfl) ?_
    refine GL.nil (?_ : GC _ _ _ _)
    refine GC.seq' ?_
    refine GC.region ?_
    refine GL.pure rfl (p_move rfl) ?_
    refine GL.pure rfl (p_move rfl) ?_
    refine GL.pure rfl (p_move rfl) ?_
    refine GL.step rfl (t_index (i := 0) rfl rfl rfl rfl Try.underlying33 sz_71 (by omega) (gt_ok (by omega) (by omega))) (GL.ex fun p_x14 => GL.ex fun r_x14 => GL.and fun ok_x14 => ?_)
    rcases r_x14 with ⟨_, ⟨_, ⟨Ax14_0, cpx14_0⟩⟩⟩
    refine GL.step rfl (t_mem rfl (m_loadPN (i := 0) rfl rfl ag_71 (vs := [_, _, _]) sz_71 ⟨rfl, rfl, rfl, trivial⟩)) ?_
    refine GL.step rfl (t_callv rfl fn_50 rfl rfl (is := [0, 0, 0, 0, 0]) (js := []) rfl rfl (by exact laidc_ct _ _ _ _ _ _ _ (gt l (k : Int)) _ _)) (GL.ret ?_)
    rintro _ _ _ ⟨rfl, rfl, rfl⟩
    refine GL.nil (?_ : GC _ _ _ _)
    refine GC.cond rfl (fun h2 => ?_) (fun h2 => ?_)
    · try simp only [decide_eq_true_eq, decide_eq_false_iff_not, Bool.not_eq_true', Bool.not_eq_false', Bool.not_true, Bool.not_false, Bool.not_not, ne_eq, Decidable.not_not, Int.not_lt, Int.not_le, gt_iff_lt, ge_iff_le, bool_true_eq_, bool_false_eq_] at h2
      refine GC.seq' ?_
      refine GC.region ?_
      refine GL.pure rfl (p_move rfl) ?_
      refine GL.pure rfl (p_assign rfl) ?_
      refine GL.nil (?_ : GC _ _ _ _)
      refine GC.ret ?_
      refine fun a w h => Fin.back (rs := [.tmp 4]) (vs := [_]) (is := [0, 0, 0, 0, 0]) (js := []) rfl ⟨rfl, trivial⟩ rfl rfl ?_ h
      clear h
      exact ⟨_, _, ⟨fun _ => by rw [he]; exact laidF_bad (by omega) (by simpa using h2), fun _ => by omega⟩, rfl, rfl, rfl⟩
    · try simp only [decide_eq_true_eq, decide_eq_false_iff_not, Bool.not_eq_true', Bool.not_eq_false', Bool.not_true, Bool.not_false, Bool.not_not, ne_eq, Decidable.not_not, Int.not_lt, Int.not_le, gt_iff_lt, ge_iff_le, bool_true_eq_, bool_false_eq_] at h2
      refine GC.skip (?_ : GC _ _ _ _)
      refine GC.region ?_
      refine GL.pure rfl (p_add rfl rfl (w64 (by omega) (by omega))) ?_
      refine GL.pure rfl (p_move rfl) ?_
      refine GL.nil ?_
      exact fun a w h => ⟨(k + 1, (gt l (k : Int)).at_), (by simp only; omega), ⟨by simp only; omega, by simp only; rw [he]; exact laidF_ok (by omega) (by simpa using h2)⟩, h.cut (is := [0, 0, 0, 0, 0]) (js := [2]) ⟨rfl, rfl, rfl, rfl, trivial⟩ rfl rfl⟩
  · try simp only [decide_eq_true_eq, decide_eq_false_iff_not, Bool.not_eq_true', Bool.not_eq_false', Bool.not_true, Bool.not_false, Bool.not_not, ne_eq, Decidable.not_not, Int.not_lt, Int.not_le, gt_iff_lt, ge_iff_le, bool_true_eq_, bool_false_eq_] at h1
    refine GC.exit (?_ : GC _ _ _ _)
    refine GC.seq' ?_
    refine GC.region ?_
    refine GL.pure rfl (p_assign rfl) ?_
    refine GL.nil (?_ : GC _ _ _ _)
    refine GC.ret ?_
    refine fun a w h => Fin.back (rs := [.tmp 4]) (vs := [_]) (is := [0, 0, 0, 0, 0]) (js := []) rfl ⟨rfl, trivial⟩ rfl rfl ?_ h
    clear h
    exact ⟨_, _, ⟨fun g => by omega, fun g => by rw [he, laidF_end (by omega)] at g; cases g⟩, rfl, rfl, rfl⟩
theorem contains_ct (q wb p pb pv : Nat) (v : Vol) (A : Option Addr) (l : List Page) (cp : Nat) (hl : l.length ≤ 140737488355328) : Ct Try.prog 49 [.slice A l.length cp, .func (.func 50) #[] #[.pointer (some ⟨q, 0, none⟩), .pointer (some ⟨wb, 0, none⟩)]] (capG q wb p (-1) ++ volG p pb pv v) [Pers.row kPage A l]
    (fun u G Q => ∃ la, u = .bool (!laidF v.bl v.sz (-1) l) ∧ G = capG q wb p la ++ volG p pb pv v ∧ Q = []) := by
  refine Ct.intro Try.func49 rfl rfl rfl (fun c hc => ?_)
  refine GC.seq' ?_
  refine GC.region ?_
  refine GL.pure rfl (p_assign rfl) ?_
  refine GL.nil (?_ : GC _ _ _ _)
  refine GC.seq' ?_
  refine GC.region ?_
  refine GL.pure rfl (p_move rfl) ?_
  refine GL.pure rfl (p_move rfl) ?_
  refine GL.step rfl (t_call rfl fn_55 rfl (is := [0, 0, 0, 0, 0]) (js := [0]) rfl rfl (by exact index_ct _ _ _ _ _ v _ _ _ hl)) (GL.ret ?_)
  rintro _ _ _ ⟨r7, la7, hr7, rfl, rfl, rfl⟩
  refine GL.pure rfl (p_geq rfl rfl) ?_
  refine GL.pure rfl (p_assign rfl) ?_
  refine GL.nil (?_ : GC _ _ _ _)
  refine GC.ret ?_
  refine fun a w h => Fin.back (rs := [.tmp 4]) (vs := [_]) (is := [0, 0, 0, 0, 0]) (js := []) rfl ⟨rfl, trivial⟩ rfl rfl ?_ h
  clear h
  refine ⟨_, congrArg Value.bool ?_, rfl, rfl⟩
  cases hb : laidF v.bl v.sz (-1) l
  · exact decide_eq_true (hr7.2 hb)
  · exact decide_eq_false (fun g => by have := hr7.1 g; rw [hb] at this; cases this)
theorem laid_ct (p pb pv : Nat) (v : Vol) (A : Option Addr) (l : List Page) (cp : Nat) (hl : l.length ≤ 140737488355328) : Ct Try.prog 38 [.pointer (some ⟨p, 0, none⟩), .slice A l.length cp] (volG p pb pv v) [Pers.row kPage A l]
    (fun u G Q => u = .bool (laidF v.bl v.sz (-1) l) ∧ G = volG p pb pv v ∧ Q = []) := by
  refine Ct.intro Try.func38 rfl rfl rfl (fun c hc => ?_)
  refine GC.seq' ?_
  refine GC.region ?_
  refine GL.step rfl (t_box rfl rfl rfl) (GL.ex fun b_t2 => ?_)
  refine GL.pure rfl (p_assign rfl) ?_
  refine GL.nil (?_ : GC _ _ _ _)
  refine GC.seq' ?_
  refine GC.region ?_
  refine GL.step rfl (t_alloc rfl ze_3) (GL.ex fun b_t5 => ?_)
  refine GL.step rfl (t_store (i := 0) rfl rfl rfl rfl sz_3 rfl rfl rfl) ?_
  refine GL.nil (?_ : GC _ _ _ _)
  refine GC.seq' ?_
  refine GC.region ?_
  refine GL.pure rfl (p_move rfl) ?_
  refine GL.pure rfl (p_makeFunc rfl rfl) ?_
  refine GL.step rfl (t_call rfl fn_49 rfl (is := [0, 0, 0, 0, 0]) (js := [0]) rfl rfl (by exact contains_ct _ _ _ _ _ v _ _ _ hl)) (GL.ret ?_)
  rintro _ _ _ ⟨la8, rfl, rfl, rfl⟩
  refine GL.pure rfl (p_not rfl) ?_
  refine GL.pure rfl (p_assign rfl) ?_
  refine GL.nil (?_ : GC _ _ _ _)
  refine GC.ret ?_
  refine fun a w h => Fin.back (rs := [.tmp 4]) (vs := [_]) (is := [2, 2, 2]) (js := []) rfl ⟨rfl, trivial⟩ rfl rfl ?_ h
  clear h
  exact ⟨by rw [Bool.not_not]; rfl, rfl, rfl⟩
end Go.Proofs.Ytihhpkbbhfcdcaa
