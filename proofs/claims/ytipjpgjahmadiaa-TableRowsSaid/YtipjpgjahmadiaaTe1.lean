/- THE TABLE OF THE REFERENCE: rows that may be, a client's place, a request's verdict. -/
import Derived.Test.YtipjpgjahmadiaaTb1
import Derived.Test.YtipjpgjahmadiaaSx16
set_option linter.unusedVariables false
set_option linter.unusedSimpArgs false
set_option maxRecDepth 100000
namespace Go.Proofs.Ytipjpgjahmadiaa
open Go Go.Sx Go.Proofs
theorem rnum_ct (n : Int) : Ct Try.prog 37 [.int .i64 n] [] [] (fun v G Q => v = .bool (isNum n) ∧ G = [] ∧ Q = []) := by
  refine Ct.intro Try.func37 rfl rfl rfl (fun c hc => ?_)
  refine GC.seq' ?_
  refine GC.region ?_
  refine GL.pure rfl (p_assign rfl) ?_
  refine GL.nil (?_ : GC _ _ _ _)
  refine GC.seq' ?_
  refine GC.region ?_
  refine GL.pure rfl (p_move rfl) ?_
  refine GL.pure rfl (p_geq rfl rfl) ?_
  refine GL.pure rfl (p_move rfl) ?_
  refine GL.split (i := 5) rfl (fun h1 => ?_) (fun h1 => ?_)
  · try simp only [decide_eq_true_eq, decide_eq_false_iff_not, Bool.not_eq_true', Bool.not_eq_false', Bool.not_true, Bool.not_false, Bool.not_not, ne_eq, Decidable.not_not, Int.not_lt, Int.not_le, gt_iff_lt, ge_iff_le, bool_true_eq_, bool_false_eq_] at h1
    refine GL.pureG (s := 5) rfl rfl rfl (p_move rfl) ?_
    refine GL.pureG (s := 5) rfl rfl rfl (p_leq rfl rfl) ?_
    refine GL.pure rfl (p_pick_true rfl rfl) ?_
    refine GL.pure rfl (p_assign rfl) ?_
    refine GL.nil (?_ : GC _ _ _ _)
    refine GC.ret ?_
    refine fun a w h => Fin.back (rs := [.tmp 2]) (vs := [_]) (is := []) (js := []) rfl ⟨rfl, trivial⟩ rfl rfl ?_ h
    clear h
    refine ⟨congrArg Value.bool ?_, rfl, rfl⟩; simp [isNum]; omega
  · try simp only [decide_eq_true_eq, decide_eq_false_iff_not, Bool.not_eq_true', Bool.not_eq_false', Bool.not_true, Bool.not_false, Bool.not_not, ne_eq, Decidable.not_not, Int.not_lt, Int.not_le, gt_iff_lt, ge_iff_le, bool_true_eq_, bool_false_eq_] at h1
    refine GL.pass (s := 5) rfl rfl rfl ?_
    refine GL.pass (s := 5) rfl rfl rfl ?_
    refine GL.pure rfl (p_pick_false rfl rfl) ?_
    refine GL.pure rfl (p_assign rfl) ?_
    refine GL.nil (?_ : GC _ _ _ _)
    refine GC.ret ?_
    refine fun a w h => Fin.back (rs := [.tmp 2]) (vs := [_]) (is := []) (js := []) rfl ⟨rfl, trivial⟩ rfl rfl ?_ h
    clear h
    refine ⟨congrArg Value.bool ?_, rfl, rfl⟩; simp [isNum]; omega
theorem rres_ct (code : Int) (A : Option Addr) (n cp : Nat) : Ct Try.prog 38 [.agg #[.int .u8 code, .slice A n cp]] [] [] (fun v G Q => v = .int .i64 (if resOk code n then 0 else 42) ∧ G = [] ∧ Q = []) := by
  refine Ct.intro Try.func38 rfl rfl rfl (fun c hc => ?_)
  refine GC.seq' ?_
  refine GC.region ?_
  refine GL.step rfl (t_box rfl rfl rfl) (GL.ex fun b_t1 => ?_)
  refine GL.pure rfl (p_assign rfl) ?_
  refine GL.nil (?_ : GC _ _ _ _)
  refine GC.seq' ?_
  refine GC.seq' ?_
  refine GC.region ?_
  refine GL.pure rfl (p_fieldAddr fo_29_0 rfl) ?_
  refine GL.step rfl (t_mem rfl (m_load (i := 0) rfl rfl ag_26 rfl)) ?_
  refine GL.pure rfl (p_lss rfl rfl) ?_
  refine GL.pure rfl (p_move rfl) ?_
  refine GL.split (i := 6) rfl (fun h1 => ?_) (fun h1 => ?_)
  · try simp only [decide_eq_true_eq, decide_eq_false_iff_not, Bool.not_eq_true', Bool.not_eq_false', Bool.not_true, Bool.not_false, Bool.not_not, ne_eq, Decidable.not_not, Int.not_lt, Int.not_le, gt_iff_lt, ge_iff_le, bool_true_eq_, bool_false_eq_] at h1
    refine GL.pass (s := 6) rfl rfl rfl ?_
    refine GL.pass (s := 6) rfl rfl rfl ?_
    refine GL.pass (s := 6) rfl rfl rfl ?_
    refine GL.pure rfl (p_pick_true rfl rfl) ?_
    refine GL.pure rfl (p_move rfl) ?_
    refine GL.pass (s := 11) rfl rfl rfl ?_
    refine GL.pass (s := 11) rfl rfl rfl ?_
    refine GL.pass (s := 11) rfl rfl rfl ?_
    refine GL.pass (s := 11) rfl rfl rfl ?_
    refine GL.pure rfl (p_pick_true rfl rfl) ?_
    refine GL.nil (?_ : GC _ _ _ _)
    refine GC.cond_true rfl ?_
    refine GC.seq' ?_
    refine GC.region ?_
    refine GL.pure rfl (p_assign rfl) ?_
    refine GL.nil (?_ : GC _ _ _ _)
    refine GC.ret ?_
    refine fun a w h => Fin.back (rs := [.tmp 2]) (vs := [_]) (is := []) (js := []) rfl ⟨rfl, trivial⟩ rfl rfl ?_ h
    clear h
    refine ⟨congrArg (Value.int .i64) ?_, rfl, rfl⟩; first | (exfalso; omega) | (rw [if_pos (by simp [resOk]; omega)]) | (rw [if_neg (by simp [resOk]; omega)])
  · try simp only [decide_eq_true_eq, decide_eq_false_iff_not, Bool.not_eq_true', Bool.not_eq_false', Bool.not_true, Bool.not_false, Bool.not_not, ne_eq, Decidable.not_not, Int.not_lt, Int.not_le, gt_iff_lt, ge_iff_le, bool_true_eq_, bool_false_eq_] at h1
    refine GL.pureG (s := 6) rfl rfl rfl (p_fieldAddr fo_29_0 rfl) ?_
    refine GL.stepG rfl (s := 6) rfl rfl (t_mem rfl (m_load (i := 0) rfl rfl ag_26 rfl)) ?_
    refine GL.pureG (s := 6) rfl rfl rfl (p_gtr rfl rfl) ?_
    refine GL.pure rfl (p_pick_false rfl rfl) ?_
    refine GL.pure rfl (p_move rfl) ?_
    refine GL.split (i := 11) rfl (fun h2 => ?_) (fun h2 => ?_)
    · try simp only [decide_eq_true_eq, decide_eq_false_iff_not, Bool.not_eq_true', Bool.not_eq_false', Bool.not_true, Bool.not_false, Bool.not_not, ne_eq, Decidable.not_not, Int.not_lt, Int.not_le, gt_iff_lt, ge_iff_le, bool_true_eq_, bool_false_eq_] at h2
      refine GL.pass (s := 11) rfl rfl rfl ?_
      refine GL.pass (s := 11) rfl rfl rfl ?_
      refine GL.pass (s := 11) rfl rfl rfl ?_
      refine GL.pass (s := 11) rfl rfl rfl ?_
      refine GL.pure rfl (p_pick_true rfl rfl) ?_
      refine GL.nil (?_ : GC _ _ _ _)
      refine GC.cond_true rfl ?_
      refine GC.seq' ?_
      refine GC.region ?_
      refine GL.pure rfl (p_assign rfl) ?_
      refine GL.nil (?_ : GC _ _ _ _)
      refine GC.ret ?_
      refine fun a w h => Fin.back (rs := [.tmp 2]) (vs := [_]) (is := []) (js := []) rfl ⟨rfl, trivial⟩ rfl rfl ?_ h
      clear h
      refine ⟨congrArg (Value.int .i64) ?_, rfl, rfl⟩; first | (exfalso; omega) | (rw [if_pos (by simp [resOk]; omega)]) | (rw [if_neg (by simp [resOk]; omega)])
    · try simp only [decide_eq_true_eq, decide_eq_false_iff_not, Bool.not_eq_true', Bool.not_eq_false', Bool.not_true, Bool.not_false, Bool.not_not, ne_eq, Decidable.not_not, Int.not_lt, Int.not_le, gt_iff_lt, ge_iff_le, bool_true_eq_, bool_false_eq_] at h2
      refine GL.pureG (s := 11) rfl rfl rfl (p_fieldAddr fo_29_1 rfl) ?_
      refine GL.stepG rfl (s := 11) rfl rfl (t_mem rfl (m_load (i := 0) rfl rfl ag_27 rfl)) ?_
      refine GL.pureG (s := 11) rfl rfl rfl (p_len Try.underlying27 rfl) ?_
      refine GL.pureG (s := 11) rfl rfl rfl (p_gtr rfl rfl) ?_
      refine GL.pure rfl (p_pick_false rfl rfl) ?_
      refine GL.nil (?_ : GC _ _ _ _)
      refine GC.cond rfl (fun h3 => ?_) (fun h3 => ?_)
      · try simp only [decide_eq_true_eq, decide_eq_false_iff_not, Bool.not_eq_true', Bool.not_eq_false', Bool.not_true, Bool.not_false, Bool.not_not, ne_eq, Decidable.not_not, Int.not_lt, Int.not_le, gt_iff_lt, ge_iff_le, bool_true_eq_, bool_false_eq_] at h3
        refine GC.seq' ?_
        refine GC.region ?_
        refine GL.pure rfl (p_assign rfl) ?_
        refine GL.nil (?_ : GC _ _ _ _)
        refine GC.ret ?_
        refine fun a w h => Fin.back (rs := [.tmp 2]) (vs := [_]) (is := []) (js := []) rfl ⟨rfl, trivial⟩ rfl rfl ?_ h
        clear h
        refine ⟨congrArg (Value.int .i64) ?_, rfl, rfl⟩; first | (exfalso; omega) | (rw [if_pos (by simp [resOk]; omega)]) | (rw [if_neg (by simp [resOk]; omega)])
      · try simp only [decide_eq_true_eq, decide_eq_false_iff_not, Bool.not_eq_true', Bool.not_eq_false', Bool.not_true, Bool.not_false, Bool.not_not, ne_eq, Decidable.not_not, Int.not_lt, Int.not_le, gt_iff_lt, ge_iff_le, bool_true_eq_, bool_false_eq_] at h3
        refine GC.skip (?_ : GC _ _ _ _)
        refine GC.seq' ?_
        refine GC.seq' ?_
        refine GC.region ?_
        refine GL.pure rfl (p_fieldAddr fo_29_1 rfl) ?_
        refine GL.step rfl (t_mem rfl (m_load (i := 0) rfl rfl ag_27 rfl)) ?_
        refine GL.pure rfl (p_len Try.underlying27 rfl) ?_
        refine GL.pure rfl (p_gtr rfl rfl) ?_
        refine GL.pure rfl (p_move rfl) ?_
        refine GL.split (i := 21) rfl (fun h4 => ?_) (fun h4 => ?_)
        · try simp only [decide_eq_true_eq, decide_eq_false_iff_not, Bool.not_eq_true', Bool.not_eq_false', Bool.not_true, Bool.not_false, Bool.not_not, ne_eq, Decidable.not_not, Int.not_lt, Int.not_le, gt_iff_lt, ge_iff_le, bool_true_eq_, bool_false_eq_] at h4
          refine GL.pureG (s := 21) rfl rfl rfl (p_fieldAddr fo_29_0 rfl) ?_
          refine GL.stepG rfl (s := 21) rfl rfl (t_mem rfl (m_load (i := 0) rfl rfl ag_26 rfl)) ?_
          refine GL.pureG (s := 21) rfl rfl rfl (p_neq rfl rfl) ?_
          refine GL.pure rfl (p_pick_true rfl rfl) ?_
          refine GL.pure rfl (p_move rfl) ?_
          refine GL.split (i := 26) rfl (fun h5 => ?_) (fun h5 => ?_)
          · try simp only [decide_eq_true_eq, decide_eq_false_iff_not, Bool.not_eq_true', Bool.not_eq_false', Bool.not_true, Bool.not_false, Bool.not_not, ne_eq, Decidable.not_not, Int.not_lt, Int.not_le, gt_iff_lt, ge_iff_le, bool_true_eq_, bool_false_eq_] at h5
            refine GL.pureG (s := 26) rfl rfl rfl (p_fieldAddr fo_29_0 rfl) ?_
            refine GL.stepG rfl (s := 26) rfl rfl (t_mem rfl (m_load (i := 0) rfl rfl ag_26 rfl)) ?_
            refine GL.pureG (s := 26) rfl rfl rfl (p_neq rfl rfl) ?_
            refine GL.pure rfl (p_pick_true rfl rfl) ?_
            refine GL.nil (?_ : GC _ _ _ _)
            refine GC.cond rfl (fun h6 => ?_) (fun h6 => ?_)
            · try simp only [decide_eq_true_eq, decide_eq_false_iff_not, Bool.not_eq_true', Bool.not_eq_false', Bool.not_true, Bool.not_false, Bool.not_not, ne_eq, Decidable.not_not, Int.not_lt, Int.not_le, gt_iff_lt, ge_iff_le, bool_true_eq_, bool_false_eq_] at h6
              refine GC.seq' ?_
              refine GC.region ?_
              refine GL.pure rfl (p_assign rfl) ?_
              refine GL.nil (?_ : GC _ _ _ _)
              refine GC.ret ?_
              refine fun a w h => Fin.back (rs := [.tmp 2]) (vs := [_]) (is := []) (js := []) rfl ⟨rfl, trivial⟩ rfl rfl ?_ h
              clear h
              refine ⟨congrArg (Value.int .i64) ?_, rfl, rfl⟩; first | (exfalso; omega) | (rw [if_pos (by simp [resOk]; omega)]) | (rw [if_neg (by simp [resOk]; omega)])
            · try simp only [decide_eq_true_eq, decide_eq_false_iff_not, Bool.not_eq_true', Bool.not_eq_false', Bool.not_true, Bool.not_false, Bool.not_not, ne_eq, Decidable.not_not, Int.not_lt, Int.not_le, gt_iff_lt, ge_iff_le, bool_true_eq_, bool_false_eq_] at h6
              refine GC.skip (?_ : GC _ _ _ _)
              refine GC.seq' ?_
              refine GC.region ?_
              refine GL.pure rfl (p_assign rfl) ?_
              refine GL.nil (?_ : GC _ _ _ _)
              refine GC.ret ?_
              refine fun a w h => Fin.back (rs := [.tmp 2]) (vs := [_]) (is := []) (js := []) rfl ⟨rfl, trivial⟩ rfl rfl ?_ h
              clear h
              refine ⟨congrArg (Value.int .i64) ?_, rfl, rfl⟩; first | (exfalso; omega) | (rw [if_pos (by simp [resOk]; omega)]) | (rw [if_neg (by simp [resOk]; omega)])
          · try simp only [decide_eq_true_eq, decide_eq_false_iff_not, Bool.not_eq_true', Bool.not_eq_false', Bool.not_true, Bool.not_false, Bool.not_not, ne_eq, Decidable.not_not, Int.not_lt, Int.not_le, gt_iff_lt, ge_iff_le, bool_true_eq_, bool_false_eq_] at h5
            refine GL.pass (s := 26) rfl rfl rfl ?_
            refine GL.pass (s := 26) rfl rfl rfl ?_
            refine GL.pass (s := 26) rfl rfl rfl ?_
            refine GL.pure rfl (p_pick_false rfl rfl) ?_
            refine GL.nil (?_ : GC _ _ _ _)
            refine GC.cond_false rfl ?_
            refine GC.skip (?_ : GC _ _ _ _)
            refine GC.seq' ?_
            refine GC.region ?_
            refine GL.pure rfl (p_assign rfl) ?_
            refine GL.nil (?_ : GC _ _ _ _)
            refine GC.ret ?_
            refine fun a w h => Fin.back (rs := [.tmp 2]) (vs := [_]) (is := []) (js := []) rfl ⟨rfl, trivial⟩ rfl rfl ?_ h
            clear h
            refine ⟨congrArg (Value.int .i64) ?_, rfl, rfl⟩; first | (exfalso; omega) | (rw [if_pos (by simp [resOk]; omega)]) | (rw [if_neg (by simp [resOk]; omega)])
        · try simp only [decide_eq_true_eq, decide_eq_false_iff_not, Bool.not_eq_true', Bool.not_eq_false', Bool.not_true, Bool.not_false, Bool.not_not, ne_eq, Decidable.not_not, Int.not_lt, Int.not_le, gt_iff_lt, ge_iff_le, bool_true_eq_, bool_false_eq_] at h4
          refine GL.pass (s := 21) rfl rfl rfl ?_
          refine GL.pass (s := 21) rfl rfl rfl ?_
          refine GL.pass (s := 21) rfl rfl rfl ?_
          refine GL.pure rfl (p_pick_false rfl rfl) ?_
          refine GL.pure rfl (p_move rfl) ?_
          refine GL.pass (s := 26) rfl rfl rfl ?_
          refine GL.pass (s := 26) rfl rfl rfl ?_
          refine GL.pass (s := 26) rfl rfl rfl ?_
          refine GL.pure rfl (p_pick_false rfl rfl) ?_
          refine GL.nil (?_ : GC _ _ _ _)
          refine GC.cond_false rfl ?_
          refine GC.skip (?_ : GC _ _ _ _)
          refine GC.seq' ?_
          refine GC.region ?_
          refine GL.pure rfl (p_assign rfl) ?_
          refine GL.nil (?_ : GC _ _ _ _)
          refine GC.ret ?_
          refine fun a w h => Fin.back (rs := [.tmp 2]) (vs := [_]) (is := []) (js := []) rfl ⟨rfl, trivial⟩ rfl rfl ?_ h
          clear h
          refine ⟨congrArg (Value.int .i64) ?_, rfl, rfl⟩; first | (exfalso; omega) | (rw [if_pos (by simp [resOk]; omega)]) | (rw [if_neg (by simp [resOk]; omega)])
/-! ### plain words -/
def rowOk (r : Row) : Bool := isNum r.client && isNum r.serial && resOk r.result.code r.result.data.length
def incB : Int → List Row → Bool
  | _, [] => true
  | b, r :: l => rowOk r && decide (b < r.client) && incB r.client l
def rightF (l : List Row) : Bool := decide (l.length ≤ 64) && incB 0 l
def lastC (l : List Row) : Nat → Int
  | 0 => 0
  | k + 1 => (gt l (k : Int)).client
theorem drop_gt {α : Type} [Inhabited α] {l : List α} {k : Nat} (h : k < l.length) : l.drop k = gt l (k : Int) :: l.drop (k + 1) := by
  have := gt_ok (xs := l) (i := (k : Int)) (by omega) (by omega)
  simp only [Int.toNat_natCast] at this
  rw [List.drop_eq_getElem_cons h]
  rw [List.getElem?_eq_getElem h] at this
  simp only [Option.some.injEq] at this
  rw [this]
theorem incB_step {l : List Row} {k : Nat} {b : Int} (h : k < l.length) : incB b (l.drop k) = (rowOk (gt l (k : Int)) && decide (b < (gt l (k : Int)).client) && incB (gt l (k : Int)).client (l.drop (k + 1))) := by
  rw [drop_gt h]; rfl
theorem incB_ok {l : List Row} {k : Nat} {b : Int} (h : k < l.length) (h1 : isNum (gt l (k : Int)).client = true) (h2 : isNum (gt l (k : Int)).serial = true) (h3 : resOk (gt l (k : Int)).result.code (gt l (k : Int)).result.data.length = true) (h4 : b < (gt l (k : Int)).client) : incB b (l.drop k) = incB (gt l (k : Int)).client (l.drop (k + 1)) := by
  rw [incB_step h, rowOk, h1, h2, h3, decide_eq_true h4]; rfl
theorem incB_bad {l : List Row} {k : Nat} {b : Int} (h : k < l.length) (h1 : isNum (gt l (k : Int)).client = false ∨ isNum (gt l (k : Int)).serial = false ∨ ¬ resOk (gt l (k : Int)).result.code (gt l (k : Int)).result.data.length = true ∨ (gt l (k : Int)).client ≤ b) : incB b (l.drop k) = false := by
  rw [incB_step h, rowOk]
  rcases h1 with h1 | h1 | h1 | h1
  · simp [h1]
  · simp [h1]
  · simp [h1]
  · simp [show ¬ b < (gt l (k : Int)).client by omega]
theorem isNum_pos {n : Int} (h : isNum n = true) : 1 ≤ n ∧ n ≤ 4611686018427387904 := by simpa [isNum] using h
theorem right_ct (A : Option Addr) (l : List Row) (cp : Nat) (hl : l.length ≤ 140737488355328) : Ct Try.prog 22 [.slice A l.length cp] [] [Pers.row kRow A l] (fun u G Q => u = .bool (rightF l) ∧ G = [] ∧ Q = []) := by
  refine Ct.intro Try.func22 rfl rfl rfl (fun c hc => ?_)
  refine GC.seq' ?_
  refine GC.region ?_
  refine GL.pure rfl (p_assign rfl) ?_
  refine GL.nil (?_ : GC _ _ _ _)
  refine GC.seq' ?_
  refine GC.seq' ?_
  refine GC.region ?_
  refine GL.pure rfl (p_move rfl) ?_
  refine GL.pure rfl (p_len Try.underlying47 rfl) ?_
  refine GL.pure rfl (p_gtr rfl rfl) ?_
  refine GL.nil (?_ : GC _ _ _ _)
  refine GC.cond rfl (fun h1 => ?_) (fun h1 => ?_)
  · try simp only [decide_eq_true_eq, decide_eq_false_iff_not, Bool.not_eq_true', Bool.not_eq_false', Bool.not_true, Bool.not_false, Bool.not_not, ne_eq, Decidable.not_not, Int.not_lt, Int.not_le, gt_iff_lt, ge_iff_le, bool_true_eq_, bool_false_eq_, resE_iff] at h1
    first
    | (exfalso; omega)
    | (skip
       refine GC.seq' ?_
       refine GC.region ?_
       refine GL.pure rfl (p_assign rfl) ?_
       refine GL.nil (?_ : GC _ _ _ _)
       refine GC.ret ?_
       refine fun a w h => Fin.back (rs := [.tmp 2]) (vs := [_]) (is := []) (js := []) rfl ⟨rfl, trivial⟩ rfl rfl ?_ h
       clear h
       exact ⟨by rw [rightF, decide_eq_false (by omega)]; rfl, rfl, rfl⟩)
  · try simp only [decide_eq_true_eq, decide_eq_false_iff_not, Bool.not_eq_true', Bool.not_eq_false', Bool.not_true, Bool.not_false, Bool.not_not, ne_eq, Decidable.not_not, Int.not_lt, Int.not_le, gt_iff_lt, ge_iff_le, bool_true_eq_, bool_false_eq_, resE_iff] at h1
    first
    | (exfalso; omega)
    | (skip
       refine GC.skip (?_ : GC _ _ _ _)
       refine GC.seq' ?_
       refine GC.seq' ?_
       refine GC.region ?_
       refine GL.pure rfl (p_assign rfl) ?_
       refine GL.nil (?_ : GC _ _ _ _)
       refine GC.block ?_
       refine GC.loopK1 (ks := [0]) (is := []) (js := [0]) (fun (k : Nat) => k ≤ l.length ∧ incB 0 l = incB (lastC l k) (l.drop k)) (fun (k : Nat) => [(3, .int .i64 (k : Int))]) (fun (k : Nat) => []) (fun (k : Nat) => []) (fun (k : Nat) => l.length - k) (0) rfl rfl rfl (fun a w h => ⟨⟨by omega, rfl⟩, h.cutK (is := []) (js := [0]) (ks := [0]) (by exact ⟨rfl, trivial⟩) rfl rfl rfl⟩) ?_
       intro k hk
       try dsimp only [List.cons_append, List.nil_append] at hk ⊢
       obtain ⟨hk, he⟩ := hk
       refine GC.seq' ?_
       refine GC.seq' ?_
       refine GC.region ?_
       refine GL.pure rfl (p_move rfl) ?_
       refine GL.pure rfl (p_move rfl) ?_
       refine GL.pure rfl (p_len Try.underlying47 rfl) ?_
       refine GL.pure rfl (p_lss rfl rfl) ?_
       refine GL.nil (?_ : GC _ _ _ _)
       refine GC.cond rfl (fun h2 => ?_) (fun h2 => ?_)
       · try simp only [decide_eq_true_eq, decide_eq_false_iff_not, Bool.not_eq_true', Bool.not_eq_false', Bool.not_true, Bool.not_false, Bool.not_not, ne_eq, Decidable.not_not, Int.not_lt, Int.not_le, gt_iff_lt, ge_iff_le, bool_true_eq_, bool_false_eq_, resE_iff] at h2
         first
         | (exfalso; omega)
         | (skip
            refine GC.skip (?_ : GC _ _ _ _)
            refine GC.seq' ?_
            refine GC.block ?_
            refine GC.seq' ?_
            rcases k with _ | k
            · skip
              refine GC.lay (x := .tmp 0) (y := .tmp 3) (j := 0) rfl rfl rfl (by omega) (gt_ok (by omega) (by omega)) (fun p_x15 r_x15 hA_x15 ok_x15 => ?_)
              rcases r_x15 with ⟨_, ⟨_, ⟨_, ⟨Ax15_0, cpx15_0⟩⟩⟩⟩
              refine GC.lay (x := .tmp 0) (y := .tmp 3) (j := 2) rfl rfl rfl (by omega) (gt_ok (by omega) (by omega)) (fun p_x23 r_x23 hA_x23 ok_x23 => ?_)
              rcases r_x23 with ⟨_, ⟨_, ⟨_, ⟨Ax23_0, cpx23_0⟩⟩⟩⟩
              refine GC.lay (x := .tmp 0) (y := .tmp 3) (j := 4) rfl rfl rfl (by omega) (gt_ok (by omega) (by omega)) (fun p_x35 r_x35 hA_x35 ok_x35 => ?_)
              rcases r_x35 with ⟨_, ⟨_, ⟨_, ⟨Ax35_0, cpx35_0⟩⟩⟩⟩
              refine GC.lay (x := .tmp 0) (y := .tmp 3) (j := 6) rfl rfl rfl (by omega) (gt_ok (by omega) (by omega)) (fun p_x50 r_x50 hA_x50 ok_x50 => ?_)
              rcases r_x50 with ⟨_, ⟨_, ⟨_, ⟨Ax50_0, cpx50_0⟩⟩⟩⟩
              refine GC.regionQ wide_ (by kernel_rfl) ?_
              refine GQ.step rfl (q_pure (p_move rfl)) ?_
              refine GQ.step rfl (q_pure (p_move rfl)) ?_
              refine GQ.step rfl (q_pure (p_indexL hA_x15 rfl rfl Try.underlying47 sz_68 (by omega) (by omega))) ?_
              refine GQ.step rfl (q_pure (p_fieldAddr' fo_68_0 rfl)) ?_
              refine GQ.step rfl (q_mem (m_loadP (i := 6) rfl rfl ag_3 rfl)) ?_
              refine GQ.step rfl (q_call fn_37 rfl (js := []) rfl (by exact rnum_ct _)) ?_
              refine GQ.step rfl (q_pure (p_not rfl)) ?_
              refine GQ.step rfl (q_pure (p_move rfl)) ?_
              refine GQ.split (i := 20) rfl (fun h3 => ?_) (fun h3 => ?_)
              · try simp only [decide_eq_true_eq, decide_eq_false_iff_not, Bool.not_eq_true', Bool.not_eq_false', Bool.not_true, Bool.not_false, Bool.not_not, ne_eq, Decidable.not_not, Int.not_lt, Int.not_le, gt_iff_lt, ge_iff_le, bool_true_eq_, bool_false_eq_, resE_iff] at h3
                first
                | (exfalso; omega)
                | (skip
                   refine GQ.pass (s := 20) rfl rfl rfl ?_
                   refine GQ.pass (s := 20) rfl rfl rfl ?_
                   refine GQ.pass (s := 20) rfl rfl rfl ?_
                   refine GQ.pass (s := 20) rfl rfl rfl ?_
                   refine GQ.pass (s := 20) rfl rfl rfl ?_
                   refine GQ.pass (s := 20) rfl rfl rfl ?_
                   refine GQ.pass (s := 20) rfl rfl rfl ?_
                   refine GQ.step rfl (q_pure (p_pick_true rfl rfl)) ?_
                   refine GQ.step rfl (q_pure (p_move rfl)) ?_
                   refine GQ.pass (s := 29) rfl rfl rfl ?_
                   refine GQ.pass (s := 29) rfl rfl rfl ?_
                   refine GQ.pass (s := 29) rfl rfl rfl ?_
                   refine GQ.passU (s := 32) rfl rfl rfl ?_
                   refine GQ.passU (s := 32) rfl rfl rfl ?_
                   refine GQ.passU (s := 32) rfl rfl rfl ?_
                   refine GQ.passU (s := 32) rfl rfl rfl ?_
                   refine GQ.passU (s := 32) rfl rfl rfl ?_
                   refine GQ.passU (s := 32) rfl rfl rfl ?_
                   refine GQ.passU (s := 32) rfl rfl rfl ?_
                   refine GQ.passU (s := 32) rfl rfl rfl ?_
                   refine GQ.passU (s := 32) rfl rfl rfl ?_
                   refine GQ.passU (s := 32) rfl rfl rfl ?_
                   refine GQ.passU (s := 32) rfl rfl rfl ?_
                   refine GQ.passU (s := 32) rfl rfl rfl ?_
                   refine GQ.pass (s := 29) rfl rfl rfl ?_
                   refine GQ.step rfl (q_pure (p_pick_true rfl rfl)) ?_
                   refine GQ.step rfl (q_pure (p_move rfl)) ?_
                   refine GQ.pass (s := 47) rfl rfl rfl ?_
                   refine GQ.pass (s := 47) rfl rfl rfl ?_
                   refine GQ.pass (s := 47) rfl rfl rfl ?_
                   refine GQ.pass (s := 47) rfl rfl rfl ?_
                   refine GQ.pass (s := 47) rfl rfl rfl ?_
                   refine GQ.pass (s := 47) rfl rfl rfl ?_
                   refine GQ.pass (s := 47) rfl rfl rfl ?_
                   refine GQ.step rfl (q_pure (p_pick_true rfl rfl)) ?_
                   refine GQ.nil (?_ : GC _ _ _ _)
                   refine GC.cond_true rfl ?_
                   refine GC.seq' ?_
                   refine GC.region ?_
                   refine GL.pure rfl (p_assign rfl) ?_
                   refine GL.nil (?_ : GC _ _ _ _)
                   refine GC.ret ?_
                   refine fun a w h => Fin.back (rs := [.tmp 2]) (vs := [_]) (is := []) (js := []) rfl ⟨rfl, trivial⟩ rfl rfl ?_ h
                   clear h
                   refine ⟨?_, rfl, rfl⟩
                   (try simp only [show ∀ x : Nat, ((x + 1 : Nat) : Int) - 1 = x by omega] at *)
                   rw [rightF, he, incB_bad (by omega) (by first | exact .inl (by assumption) | exact .inr (.inl (by assumption)) | exact .inr (.inr (.inl (by assumption))) | exact .inr (.inr (.inr (by simp only [lastC]; omega))))]
                   rw [Bool.and_false]; rfl)
              · try simp only [decide_eq_true_eq, decide_eq_false_iff_not, Bool.not_eq_true', Bool.not_eq_false', Bool.not_true, Bool.not_false, Bool.not_not, ne_eq, Decidable.not_not, Int.not_lt, Int.not_le, gt_iff_lt, ge_iff_le, bool_true_eq_, bool_false_eq_, resE_iff] at h3
                first
                | (exfalso; omega)
                | (skip
                   refine GQ.stepG (s := 20) rfl rfl rfl (q_pure (p_move rfl)) ?_
                   refine GQ.stepG (s := 20) rfl rfl rfl (q_pure (p_move rfl)) ?_
                   refine GQ.stepG (s := 20) rfl rfl rfl (q_pure (p_indexL hA_x23 rfl rfl Try.underlying47 sz_68 (by omega) (by omega))) ?_
                   refine GQ.stepG (s := 20) rfl rfl rfl (q_pure (p_fieldAddr' fo_68_1 rfl)) ?_
                   refine GQ.stepG (s := 20) rfl rfl rfl (q_mem (m_loadP (i := 4) rfl rfl ag_3 rfl)) ?_
                   refine GQ.stepG (s := 20) rfl rfl rfl (q_call fn_37 rfl (js := []) rfl (by exact rnum_ct _)) ?_
                   refine GQ.stepG (s := 20) rfl rfl rfl (q_pure (p_not rfl)) ?_
                   refine GQ.step rfl (q_pure (p_pick_false rfl rfl)) ?_
                   refine GQ.step rfl (q_pure (p_move rfl)) ?_
                   refine GQ.split (i := 29) rfl (fun h4 => ?_) (fun h4 => ?_)
                   · try simp only [decide_eq_true_eq, decide_eq_false_iff_not, Bool.not_eq_true', Bool.not_eq_false', Bool.not_true, Bool.not_false, Bool.not_not, ne_eq, Decidable.not_not, Int.not_lt, Int.not_le, gt_iff_lt, ge_iff_le, bool_true_eq_, bool_false_eq_, resE_iff] at h4
                     first
                     | (exfalso; omega)
                     | (skip
                        refine GQ.pass (s := 29) rfl rfl rfl ?_
                        refine GQ.pass (s := 29) rfl rfl rfl ?_
                        refine GQ.pass (s := 29) rfl rfl rfl ?_
                        refine GQ.passU (s := 32) rfl rfl rfl ?_
                        refine GQ.passU (s := 32) rfl rfl rfl ?_
                        refine GQ.passU (s := 32) rfl rfl rfl ?_
                        refine GQ.passU (s := 32) rfl rfl rfl ?_
                        refine GQ.passU (s := 32) rfl rfl rfl ?_
                        refine GQ.passU (s := 32) rfl rfl rfl ?_
                        refine GQ.passU (s := 32) rfl rfl rfl ?_
                        refine GQ.passU (s := 32) rfl rfl rfl ?_
                        refine GQ.passU (s := 32) rfl rfl rfl ?_
                        refine GQ.passU (s := 32) rfl rfl rfl ?_
                        refine GQ.passU (s := 32) rfl rfl rfl ?_
                        refine GQ.passU (s := 32) rfl rfl rfl ?_
                        refine GQ.pass (s := 29) rfl rfl rfl ?_
                        refine GQ.step rfl (q_pure (p_pick_true rfl rfl)) ?_
                        refine GQ.step rfl (q_pure (p_move rfl)) ?_
                        refine GQ.pass (s := 47) rfl rfl rfl ?_
                        refine GQ.pass (s := 47) rfl rfl rfl ?_
                        refine GQ.pass (s := 47) rfl rfl rfl ?_
                        refine GQ.pass (s := 47) rfl rfl rfl ?_
                        refine GQ.pass (s := 47) rfl rfl rfl ?_
                        refine GQ.pass (s := 47) rfl rfl rfl ?_
                        refine GQ.pass (s := 47) rfl rfl rfl ?_
                        refine GQ.step rfl (q_pure (p_pick_true rfl rfl)) ?_
                        refine GQ.nil (?_ : GC _ _ _ _)
                        refine GC.cond_true rfl ?_
                        refine GC.seq' ?_
                        refine GC.region ?_
                        refine GL.pure rfl (p_assign rfl) ?_
                        refine GL.nil (?_ : GC _ _ _ _)
                        refine GC.ret ?_
                        refine fun a w h => Fin.back (rs := [.tmp 2]) (vs := [_]) (is := []) (js := []) rfl ⟨rfl, trivial⟩ rfl rfl ?_ h
                        clear h
                        refine ⟨?_, rfl, rfl⟩
                        (try simp only [show ∀ x : Nat, ((x + 1 : Nat) : Int) - 1 = x by omega] at *)
                        rw [rightF, he, incB_bad (by omega) (by first | exact .inl (by assumption) | exact .inr (.inl (by assumption)) | exact .inr (.inr (.inl (by assumption))) | exact .inr (.inr (.inr (by simp only [lastC]; omega))))]
                        rw [Bool.and_false]; rfl)
                   · try simp only [decide_eq_true_eq, decide_eq_false_iff_not, Bool.not_eq_true', Bool.not_eq_false', Bool.not_true, Bool.not_false, Bool.not_not, ne_eq, Decidable.not_not, Int.not_lt, Int.not_le, gt_iff_lt, ge_iff_le, bool_true_eq_, bool_false_eq_, resE_iff] at h4
                     first
                     | (exfalso; omega)
                     | (skip
                        refine GQ.stepG (s := 29) rfl rfl rfl (q_pure (p_move rfl)) ?_
                        refine GQ.stepG (s := 29) rfl rfl rfl (q_pure (p_gtr rfl rfl)) ?_
                        refine GQ.stepG (s := 29) rfl rfl rfl (q_pure (p_move rfl)) ?_
                        refine GQ.split (i := 32) rfl (fun h5 => ?_) (fun h5 => ?_)
                        · try simp only [decide_eq_true_eq, decide_eq_false_iff_not, Bool.not_eq_true', Bool.not_eq_false', Bool.not_true, Bool.not_false, Bool.not_not, ne_eq, Decidable.not_not, Int.not_lt, Int.not_le, gt_iff_lt, ge_iff_le, bool_true_eq_, bool_false_eq_, resE_iff] at h5
                          first
                          | (exfalso; omega)
                          | (skip
                             refine GQ.stepG (s := 32) rfl rfl rfl (q_pure (p_move rfl)) ?_
                             refine GQ.stepG (s := 32) rfl rfl rfl (q_pure (p_move rfl)) ?_
                             refine GQ.stepG (s := 32) rfl rfl rfl (q_pure (p_indexL hA_x35 rfl rfl Try.underlying47 sz_68 (by omega) (by omega))) ?_
                             refine GQ.stepG (s := 32) rfl rfl rfl (q_pure (p_fieldAddr' fo_68_0 rfl)) ?_
                             refine GQ.stepG (s := 32) rfl rfl rfl (q_mem (m_loadP (i := 2) rfl rfl ag_3 rfl)) ?_
                             refine GQ.stepG (s := 32) rfl rfl rfl (q_pure (p_move rfl)) ?_
                             refine GQ.stepG (s := 32) rfl rfl rfl (q_pure (p_move rfl)) ?_
                             refine GQ.stepG (s := 32) rfl rfl rfl (q_pure (p_sub rfl rfl (w64 (by omega) (by omega)))) ?_
                             exact (by omega : False).elim)
                        · try simp only [decide_eq_true_eq, decide_eq_false_iff_not, Bool.not_eq_true', Bool.not_eq_false', Bool.not_true, Bool.not_false, Bool.not_not, ne_eq, Decidable.not_not, Int.not_lt, Int.not_le, gt_iff_lt, ge_iff_le, bool_true_eq_, bool_false_eq_, resE_iff] at h5
                          first
                          | (exfalso; omega)
                          | (skip
                             refine GQ.pass (s := 32) rfl rfl rfl ?_
                             refine GQ.pass (s := 32) rfl rfl rfl ?_
                             refine GQ.pass (s := 32) rfl rfl rfl ?_
                             refine GQ.pass (s := 32) rfl rfl rfl ?_
                             refine GQ.pass (s := 32) rfl rfl rfl ?_
                             refine GQ.pass (s := 32) rfl rfl rfl ?_
                             refine GQ.pass (s := 32) rfl rfl rfl ?_
                             refine GQ.pass (s := 32) rfl rfl rfl ?_
                             refine GQ.pass (s := 32) rfl rfl rfl ?_
                             refine GQ.pass (s := 32) rfl rfl rfl ?_
                             refine GQ.pass (s := 32) rfl rfl rfl ?_
                             refine GQ.pass (s := 32) rfl rfl rfl ?_
                             refine GQ.stepG (s := 29) rfl rfl rfl (q_pure (p_pick_false rfl rfl)) ?_
                             refine GQ.step rfl (q_pure (p_pick_false rfl rfl)) ?_
                             refine GQ.step rfl (q_pure (p_move rfl)) ?_
                             refine GQ.stepG (s := 47) rfl rfl rfl (q_pure (p_move rfl)) ?_
                             refine GQ.stepG (s := 47) rfl rfl rfl (q_pure (p_move rfl)) ?_
                             refine GQ.stepG (s := 47) rfl rfl rfl (q_pure (p_indexL hA_x50 rfl rfl Try.underlying47 sz_68 (by omega) (by omega))) ?_
                             refine GQ.stepG (s := 47) rfl rfl rfl (q_pure (p_fieldAddr' fo_68_2 rfl)) ?_
                             refine GQ.stepG (s := 47) rfl rfl rfl (q_mem (m_loadPN (i := 0) rfl rfl ag_29 (vs := [_, _]) sz_29 ⟨rfl, rfl, trivial⟩)) ?_
                             refine GQ.stepG (s := 47) rfl rfl rfl (q_call fn_38 rfl (js := []) rfl (by exact rres_ct _ _ _ _)) ?_
                             refine GQ.stepG (s := 47) rfl rfl rfl (q_pure (p_neq rfl rfl)) ?_
                             refine GQ.step rfl (q_pure (p_pick_false rfl rfl)) ?_
                             refine GQ.nil (?_ : GC _ _ _ _)
                             refine GC.cond rfl (fun h6 => ?_) (fun h6 => ?_)
                             · try simp only [decide_eq_true_eq, decide_eq_false_iff_not, Bool.not_eq_true', Bool.not_eq_false', Bool.not_true, Bool.not_false, Bool.not_not, ne_eq, Decidable.not_not, Int.not_lt, Int.not_le, gt_iff_lt, ge_iff_le, bool_true_eq_, bool_false_eq_, resE_iff] at h6
                               first
                               | (exfalso; omega)
                               | (skip
                                  refine GC.seq' ?_
                                  refine GC.region ?_
                                  refine GL.pure rfl (p_assign rfl) ?_
                                  refine GL.nil (?_ : GC _ _ _ _)
                                  refine GC.ret ?_
                                  refine fun a w h => Fin.back (rs := [.tmp 2]) (vs := [_]) (is := []) (js := []) rfl ⟨rfl, trivial⟩ rfl rfl ?_ h
                                  clear h
                                  refine ⟨?_, rfl, rfl⟩
                                  (try simp only [show ∀ x : Nat, ((x + 1 : Nat) : Int) - 1 = x by omega] at *)
                                  rw [rightF, he, incB_bad (by omega) (by first | exact .inl (by assumption) | exact .inr (.inl (by assumption)) | exact .inr (.inr (.inl (by assumption))) | exact .inr (.inr (.inr (by simp only [lastC]; omega))))]
                                  rw [Bool.and_false]; rfl)
                             · try simp only [decide_eq_true_eq, decide_eq_false_iff_not, Bool.not_eq_true', Bool.not_eq_false', Bool.not_true, Bool.not_false, Bool.not_not, ne_eq, Decidable.not_not, Int.not_lt, Int.not_le, gt_iff_lt, ge_iff_le, bool_true_eq_, bool_false_eq_, resE_iff] at h6
                               first
                               | (exfalso; omega)
                               | (skip
                                  refine GC.skip (?_ : GC _ _ _ _)
                                  refine GC.region ?_
                                  refine GL.pure rfl (p_move rfl) ?_
                                  refine GL.pure rfl (p_add rfl rfl (w64 (by omega) (by omega))) ?_
                                  refine GL.pure rfl (p_assign rfl) ?_
                                  refine GL.nil ?_
                                  (try simp only [show ∀ x : Nat, ((x + 1 : Nat) : Int) - 1 = x by omega] at *)
                                  exact fun a w h => ⟨(_ + 1), (by omega), ⟨by omega, by rw [he, incB_ok (by omega) (by assumption) (by assumption) (by assumption) (by first | (have := isNum_pos (by assumption : isNum (gt l ((0 : Nat) : Int)).client = true); simp only [lastC]; omega) | (simp only [lastC]; omega))]; rfl⟩, h.cut (is := []) (js := [8]) ⟨rfl, rfl, trivial⟩ rfl rfl⟩))))
            · skip
              refine GC.lay (x := .tmp 0) (y := .const (.int .i64 (((k + 1 : Nat) : Int) - 1))) (j := 0) rfl rfl rfl (by omega) (gt_ok (by omega) (by omega)) (fun p_xp r_xp hA_xp ok_xp => ?_)
              rcases r_xp with ⟨_, ⟨_, ⟨_, ⟨Axp_0, cpxp_0⟩⟩⟩⟩
              refine GC.lay (x := .tmp 0) (y := .tmp 3) (j := 2) rfl rfl rfl (by omega) (gt_ok (by omega) (by omega)) (fun p_x15 r_x15 hA_x15 ok_x15 => ?_)
              rcases r_x15 with ⟨_, ⟨_, ⟨_, ⟨Ax15_0, cpx15_0⟩⟩⟩⟩
              refine GC.lay (x := .tmp 0) (y := .tmp 3) (j := 4) rfl rfl rfl (by omega) (gt_ok (by omega) (by omega)) (fun p_x23 r_x23 hA_x23 ok_x23 => ?_)
              rcases r_x23 with ⟨_, ⟨_, ⟨_, ⟨Ax23_0, cpx23_0⟩⟩⟩⟩
              refine GC.lay (x := .tmp 0) (y := .tmp 3) (j := 6) rfl rfl rfl (by omega) (gt_ok (by omega) (by omega)) (fun p_x35 r_x35 hA_x35 ok_x35 => ?_)
              rcases r_x35 with ⟨_, ⟨_, ⟨_, ⟨Ax35_0, cpx35_0⟩⟩⟩⟩
              refine GC.lay (x := .tmp 0) (y := .tmp 3) (j := 8) rfl rfl rfl (by omega) (gt_ok (by omega) (by omega)) (fun p_x50 r_x50 hA_x50 ok_x50 => ?_)
              rcases r_x50 with ⟨_, ⟨_, ⟨_, ⟨Ax50_0, cpx50_0⟩⟩⟩⟩
              refine GC.regionQ wide_ (by kernel_rfl) ?_
              refine GQ.step rfl (q_pure (p_move rfl)) ?_
              refine GQ.step rfl (q_pure (p_move rfl)) ?_
              refine GQ.step rfl (q_pure (p_indexL hA_x15 rfl rfl Try.underlying47 sz_68 (by omega) (by omega))) ?_
              refine GQ.step rfl (q_pure (p_fieldAddr' fo_68_0 rfl)) ?_
              refine GQ.step rfl (q_mem (m_loadP (i := 6) rfl rfl ag_3 rfl)) ?_
              refine GQ.step rfl (q_call fn_37 rfl (js := []) rfl (by exact rnum_ct _)) ?_
              refine GQ.step rfl (q_pure (p_not rfl)) ?_
              refine GQ.step rfl (q_pure (p_move rfl)) ?_
              refine GQ.split (i := 20) rfl (fun h7 => ?_) (fun h7 => ?_)
              · try simp only [decide_eq_true_eq, decide_eq_false_iff_not, Bool.not_eq_true', Bool.not_eq_false', Bool.not_true, Bool.not_false, Bool.not_not, ne_eq, Decidable.not_not, Int.not_lt, Int.not_le, gt_iff_lt, ge_iff_le, bool_true_eq_, bool_false_eq_, resE_iff] at h7
                first
                | (exfalso; omega)
                | (skip
                   refine GQ.pass (s := 20) rfl rfl rfl ?_
                   refine GQ.pass (s := 20) rfl rfl rfl ?_
                   refine GQ.pass (s := 20) rfl rfl rfl ?_
                   refine GQ.pass (s := 20) rfl rfl rfl ?_
                   refine GQ.pass (s := 20) rfl rfl rfl ?_
                   refine GQ.pass (s := 20) rfl rfl rfl ?_
                   refine GQ.pass (s := 20) rfl rfl rfl ?_
                   refine GQ.step rfl (q_pure (p_pick_true rfl rfl)) ?_
                   refine GQ.step rfl (q_pure (p_move rfl)) ?_
                   refine GQ.pass (s := 29) rfl rfl rfl ?_
                   refine GQ.pass (s := 29) rfl rfl rfl ?_
                   refine GQ.pass (s := 29) rfl rfl rfl ?_
                   refine GQ.passU (s := 32) rfl rfl rfl ?_
                   refine GQ.passU (s := 32) rfl rfl rfl ?_
                   refine GQ.passU (s := 32) rfl rfl rfl ?_
                   refine GQ.passU (s := 32) rfl rfl rfl ?_
                   refine GQ.passU (s := 32) rfl rfl rfl ?_
                   refine GQ.passU (s := 32) rfl rfl rfl ?_
                   refine GQ.passU (s := 32) rfl rfl rfl ?_
                   refine GQ.passU (s := 32) rfl rfl rfl ?_
                   refine GQ.passU (s := 32) rfl rfl rfl ?_
                   refine GQ.passU (s := 32) rfl rfl rfl ?_
                   refine GQ.passU (s := 32) rfl rfl rfl ?_
                   refine GQ.passU (s := 32) rfl rfl rfl ?_
                   refine GQ.pass (s := 29) rfl rfl rfl ?_
                   refine GQ.step rfl (q_pure (p_pick_true rfl rfl)) ?_
                   refine GQ.step rfl (q_pure (p_move rfl)) ?_
                   refine GQ.pass (s := 47) rfl rfl rfl ?_
                   refine GQ.pass (s := 47) rfl rfl rfl ?_
                   refine GQ.pass (s := 47) rfl rfl rfl ?_
                   refine GQ.pass (s := 47) rfl rfl rfl ?_
                   refine GQ.pass (s := 47) rfl rfl rfl ?_
                   refine GQ.pass (s := 47) rfl rfl rfl ?_
                   refine GQ.pass (s := 47) rfl rfl rfl ?_
                   refine GQ.step rfl (q_pure (p_pick_true rfl rfl)) ?_
                   refine GQ.nil (?_ : GC _ _ _ _)
                   refine GC.cond_true rfl ?_
                   refine GC.seq' ?_
                   refine GC.region ?_
                   refine GL.pure rfl (p_assign rfl) ?_
                   refine GL.nil (?_ : GC _ _ _ _)
                   refine GC.ret ?_
                   refine fun a w h => Fin.back (rs := [.tmp 2]) (vs := [_]) (is := []) (js := []) rfl ⟨rfl, trivial⟩ rfl rfl ?_ h
                   clear h
                   refine ⟨?_, rfl, rfl⟩
                   (try simp only [show ∀ x : Nat, ((x + 1 : Nat) : Int) - 1 = x by omega] at *)
                   rw [rightF, he, incB_bad (by omega) (by first | exact .inl (by assumption) | exact .inr (.inl (by assumption)) | exact .inr (.inr (.inl (by assumption))) | exact .inr (.inr (.inr (by simp only [lastC]; omega))))]
                   rw [Bool.and_false]; rfl)
              · try simp only [decide_eq_true_eq, decide_eq_false_iff_not, Bool.not_eq_true', Bool.not_eq_false', Bool.not_true, Bool.not_false, Bool.not_not, ne_eq, Decidable.not_not, Int.not_lt, Int.not_le, gt_iff_lt, ge_iff_le, bool_true_eq_, bool_false_eq_, resE_iff] at h7
                first
                | (exfalso; omega)
                | (skip
                   refine GQ.stepG (s := 20) rfl rfl rfl (q_pure (p_move rfl)) ?_
                   refine GQ.stepG (s := 20) rfl rfl rfl (q_pure (p_move rfl)) ?_
                   refine GQ.stepG (s := 20) rfl rfl rfl (q_pure (p_indexL hA_x23 rfl rfl Try.underlying47 sz_68 (by omega) (by omega))) ?_
                   refine GQ.stepG (s := 20) rfl rfl rfl (q_pure (p_fieldAddr' fo_68_1 rfl)) ?_
                   refine GQ.stepG (s := 20) rfl rfl rfl (q_mem (m_loadP (i := 4) rfl rfl ag_3 rfl)) ?_
                   refine GQ.stepG (s := 20) rfl rfl rfl (q_call fn_37 rfl (js := []) rfl (by exact rnum_ct _)) ?_
                   refine GQ.stepG (s := 20) rfl rfl rfl (q_pure (p_not rfl)) ?_
                   refine GQ.step rfl (q_pure (p_pick_false rfl rfl)) ?_
                   refine GQ.step rfl (q_pure (p_move rfl)) ?_
                   refine GQ.split (i := 29) rfl (fun h8 => ?_) (fun h8 => ?_)
                   · try simp only [decide_eq_true_eq, decide_eq_false_iff_not, Bool.not_eq_true', Bool.not_eq_false', Bool.not_true, Bool.not_false, Bool.not_not, ne_eq, Decidable.not_not, Int.not_lt, Int.not_le, gt_iff_lt, ge_iff_le, bool_true_eq_, bool_false_eq_, resE_iff] at h8
                     first
                     | (exfalso; omega)
                     | (skip
                        refine GQ.pass (s := 29) rfl rfl rfl ?_
                        refine GQ.pass (s := 29) rfl rfl rfl ?_
                        refine GQ.pass (s := 29) rfl rfl rfl ?_
                        refine GQ.passU (s := 32) rfl rfl rfl ?_
                        refine GQ.passU (s := 32) rfl rfl rfl ?_
                        refine GQ.passU (s := 32) rfl rfl rfl ?_
                        refine GQ.passU (s := 32) rfl rfl rfl ?_
                        refine GQ.passU (s := 32) rfl rfl rfl ?_
                        refine GQ.passU (s := 32) rfl rfl rfl ?_
                        refine GQ.passU (s := 32) rfl rfl rfl ?_
                        refine GQ.passU (s := 32) rfl rfl rfl ?_
                        refine GQ.passU (s := 32) rfl rfl rfl ?_
                        refine GQ.passU (s := 32) rfl rfl rfl ?_
                        refine GQ.passU (s := 32) rfl rfl rfl ?_
                        refine GQ.passU (s := 32) rfl rfl rfl ?_
                        refine GQ.pass (s := 29) rfl rfl rfl ?_
                        refine GQ.step rfl (q_pure (p_pick_true rfl rfl)) ?_
                        refine GQ.step rfl (q_pure (p_move rfl)) ?_
                        refine GQ.pass (s := 47) rfl rfl rfl ?_
                        refine GQ.pass (s := 47) rfl rfl rfl ?_
                        refine GQ.pass (s := 47) rfl rfl rfl ?_
                        refine GQ.pass (s := 47) rfl rfl rfl ?_
                        refine GQ.pass (s := 47) rfl rfl rfl ?_
                        refine GQ.pass (s := 47) rfl rfl rfl ?_
                        refine GQ.pass (s := 47) rfl rfl rfl ?_
                        refine GQ.step rfl (q_pure (p_pick_true rfl rfl)) ?_
                        refine GQ.nil (?_ : GC _ _ _ _)
                        refine GC.cond_true rfl ?_
                        refine GC.seq' ?_
                        refine GC.region ?_
                        refine GL.pure rfl (p_assign rfl) ?_
                        refine GL.nil (?_ : GC _ _ _ _)
                        refine GC.ret ?_
                        refine fun a w h => Fin.back (rs := [.tmp 2]) (vs := [_]) (is := []) (js := []) rfl ⟨rfl, trivial⟩ rfl rfl ?_ h
                        clear h
                        refine ⟨?_, rfl, rfl⟩
                        (try simp only [show ∀ x : Nat, ((x + 1 : Nat) : Int) - 1 = x by omega] at *)
                        rw [rightF, he, incB_bad (by omega) (by first | exact .inl (by assumption) | exact .inr (.inl (by assumption)) | exact .inr (.inr (.inl (by assumption))) | exact .inr (.inr (.inr (by simp only [lastC]; omega))))]
                        rw [Bool.and_false]; rfl)
                   · try simp only [decide_eq_true_eq, decide_eq_false_iff_not, Bool.not_eq_true', Bool.not_eq_false', Bool.not_true, Bool.not_false, Bool.not_not, ne_eq, Decidable.not_not, Int.not_lt, Int.not_le, gt_iff_lt, ge_iff_le, bool_true_eq_, bool_false_eq_, resE_iff] at h8
                     first
                     | (exfalso; omega)
                     | (skip
                        refine GQ.stepG (s := 29) rfl rfl rfl (q_pure (p_move rfl)) ?_
                        refine GQ.stepG (s := 29) rfl rfl rfl (q_pure (p_gtr rfl rfl)) ?_
                        refine GQ.stepG (s := 29) rfl rfl rfl (q_pure (p_move rfl)) ?_
                        refine GQ.split (i := 32) rfl (fun h9 => ?_) (fun h9 => ?_)
                        · try simp only [decide_eq_true_eq, decide_eq_false_iff_not, Bool.not_eq_true', Bool.not_eq_false', Bool.not_true, Bool.not_false, Bool.not_not, ne_eq, Decidable.not_not, Int.not_lt, Int.not_le, gt_iff_lt, ge_iff_le, bool_true_eq_, bool_false_eq_, resE_iff] at h9
                          first
                          | (exfalso; omega)
                          | (skip
                             refine GQ.stepG (s := 32) rfl rfl rfl (q_pure (p_move rfl)) ?_
                             refine GQ.stepG (s := 32) rfl rfl rfl (q_pure (p_move rfl)) ?_
                             refine GQ.stepG (s := 32) rfl rfl rfl (q_pure (p_indexL hA_x35 rfl rfl Try.underlying47 sz_68 (by omega) (by omega))) ?_
                             refine GQ.stepG (s := 32) rfl rfl rfl (q_pure (p_fieldAddr' fo_68_0 rfl)) ?_
                             refine GQ.stepG (s := 32) rfl rfl rfl (q_mem (m_loadP (i := 2) rfl rfl ag_3 rfl)) ?_
                             refine GQ.stepG (s := 32) rfl rfl rfl (q_pure (p_move rfl)) ?_
                             refine GQ.stepG (s := 32) rfl rfl rfl (q_pure (p_move rfl)) ?_
                             refine GQ.stepG (s := 32) rfl rfl rfl (q_pure (p_sub rfl rfl (w64 (by omega) (by omega)))) ?_
                             refine GQ.stepG (s := 32) rfl rfl rfl (q_pure (p_indexL hA_xp rfl rfl Try.underlying47 sz_68 (by omega) (by omega))) ?_
                             refine GQ.stepG (s := 32) rfl rfl rfl (q_pure (p_fieldAddr' fo_68_0 rfl)) ?_
                             refine GQ.stepG (s := 32) rfl rfl rfl (q_mem (m_loadP (i := 8) rfl rfl ag_3 rfl)) ?_
                             refine GQ.stepG (s := 32) rfl rfl rfl (q_pure (p_leq rfl rfl)) ?_
                             refine GQ.stepG (s := 29) rfl rfl rfl (q_pure (p_pick_true rfl rfl)) ?_
                             refine GQ.step rfl (q_pure (p_pick_false rfl rfl)) ?_
                             refine GQ.step rfl (q_pure (p_move rfl)) ?_
                             refine GQ.split (i := 47) rfl (fun h10 => ?_) (fun h10 => ?_)
                             · try simp only [decide_eq_true_eq, decide_eq_false_iff_not, Bool.not_eq_true', Bool.not_eq_false', Bool.not_true, Bool.not_false, Bool.not_not, ne_eq, Decidable.not_not, Int.not_lt, Int.not_le, gt_iff_lt, ge_iff_le, bool_true_eq_, bool_false_eq_, resE_iff] at h10
                               first
                               | (exfalso; omega)
                               | (skip
                                  refine GQ.pass (s := 47) rfl rfl rfl ?_
                                  refine GQ.pass (s := 47) rfl rfl rfl ?_
                                  refine GQ.pass (s := 47) rfl rfl rfl ?_
                                  refine GQ.pass (s := 47) rfl rfl rfl ?_
                                  refine GQ.pass (s := 47) rfl rfl rfl ?_
                                  refine GQ.pass (s := 47) rfl rfl rfl ?_
                                  refine GQ.pass (s := 47) rfl rfl rfl ?_
                                  refine GQ.step rfl (q_pure (p_pick_true rfl rfl)) ?_
                                  refine GQ.nil (?_ : GC _ _ _ _)
                                  refine GC.cond_true rfl ?_
                                  refine GC.seq' ?_
                                  refine GC.region ?_
                                  refine GL.pure rfl (p_assign rfl) ?_
                                  refine GL.nil (?_ : GC _ _ _ _)
                                  refine GC.ret ?_
                                  refine fun a w h => Fin.back (rs := [.tmp 2]) (vs := [_]) (is := []) (js := []) rfl ⟨rfl, trivial⟩ rfl rfl ?_ h
                                  clear h
                                  refine ⟨?_, rfl, rfl⟩
                                  (try simp only [show ∀ x : Nat, ((x + 1 : Nat) : Int) - 1 = x by omega] at *)
                                  rw [rightF, he, incB_bad (by omega) (by first | exact .inl (by assumption) | exact .inr (.inl (by assumption)) | exact .inr (.inr (.inl (by assumption))) | exact .inr (.inr (.inr (by simp only [lastC]; omega))))]
                                  rw [Bool.and_false]; rfl)
                             · try simp only [decide_eq_true_eq, decide_eq_false_iff_not, Bool.not_eq_true', Bool.not_eq_false', Bool.not_true, Bool.not_false, Bool.not_not, ne_eq, Decidable.not_not, Int.not_lt, Int.not_le, gt_iff_lt, ge_iff_le, bool_true_eq_, bool_false_eq_, resE_iff] at h10
                               first
                               | (exfalso; omega)
                               | (skip
                                  refine GQ.stepG (s := 47) rfl rfl rfl (q_pure (p_move rfl)) ?_
                                  refine GQ.stepG (s := 47) rfl rfl rfl (q_pure (p_move rfl)) ?_
                                  refine GQ.stepG (s := 47) rfl rfl rfl (q_pure (p_indexL hA_x50 rfl rfl Try.underlying47 sz_68 (by omega) (by omega))) ?_
                                  refine GQ.stepG (s := 47) rfl rfl rfl (q_pure (p_fieldAddr' fo_68_2 rfl)) ?_
                                  refine GQ.stepG (s := 47) rfl rfl rfl (q_mem (m_loadPN (i := 0) rfl rfl ag_29 (vs := [_, _]) sz_29 ⟨rfl, rfl, trivial⟩)) ?_
                                  refine GQ.stepG (s := 47) rfl rfl rfl (q_call fn_38 rfl (js := []) rfl (by exact rres_ct _ _ _ _)) ?_
                                  refine GQ.stepG (s := 47) rfl rfl rfl (q_pure (p_neq rfl rfl)) ?_
                                  refine GQ.step rfl (q_pure (p_pick_false rfl rfl)) ?_
                                  refine GQ.nil (?_ : GC _ _ _ _)
                                  refine GC.cond rfl (fun h11 => ?_) (fun h11 => ?_)
                                  · try simp only [decide_eq_true_eq, decide_eq_false_iff_not, Bool.not_eq_true', Bool.not_eq_false', Bool.not_true, Bool.not_false, Bool.not_not, ne_eq, Decidable.not_not, Int.not_lt, Int.not_le, gt_iff_lt, ge_iff_le, bool_true_eq_, bool_false_eq_, resE_iff] at h11
                                    first
                                    | (exfalso; omega)
                                    | (skip
                                       refine GC.seq' ?_
                                       refine GC.region ?_
                                       refine GL.pure rfl (p_assign rfl) ?_
                                       refine GL.nil (?_ : GC _ _ _ _)
                                       refine GC.ret ?_
                                       refine fun a w h => Fin.back (rs := [.tmp 2]) (vs := [_]) (is := []) (js := []) rfl ⟨rfl, trivial⟩ rfl rfl ?_ h
                                       clear h
                                       refine ⟨?_, rfl, rfl⟩
                                       (try simp only [show ∀ x : Nat, ((x + 1 : Nat) : Int) - 1 = x by omega] at *)
                                       rw [rightF, he, incB_bad (by omega) (by first | exact .inl (by assumption) | exact .inr (.inl (by assumption)) | exact .inr (.inr (.inl (by assumption))) | exact .inr (.inr (.inr (by simp only [lastC]; omega))))]
                                       rw [Bool.and_false]; rfl)
                                  · try simp only [decide_eq_true_eq, decide_eq_false_iff_not, Bool.not_eq_true', Bool.not_eq_false', Bool.not_true, Bool.not_false, Bool.not_not, ne_eq, Decidable.not_not, Int.not_lt, Int.not_le, gt_iff_lt, ge_iff_le, bool_true_eq_, bool_false_eq_, resE_iff] at h11
                                    first
                                    | (exfalso; omega)
                                    | (skip
                                       refine GC.skip (?_ : GC _ _ _ _)
                                       refine GC.region ?_
                                       refine GL.pure rfl (p_move rfl) ?_
                                       refine GL.pure rfl (p_add rfl rfl (w64 (by omega) (by omega))) ?_
                                       refine GL.pure rfl (p_assign rfl) ?_
                                       refine GL.nil ?_
                                       (try simp only [show ∀ x : Nat, ((x + 1 : Nat) : Int) - 1 = x by omega] at *)
                                       exact fun a w h => ⟨(_ + 1), (by omega), ⟨by omega, by rw [he, incB_ok (by omega) (by assumption) (by assumption) (by assumption) (by first | (have := isNum_pos (by assumption : isNum (gt l ((0 : Nat) : Int)).client = true); simp only [lastC]; omega) | (simp only [lastC]; omega))]; rfl⟩, h.cut (is := []) (js := [10]) ⟨rfl, rfl, trivial⟩ rfl rfl⟩)))
                        · try simp only [decide_eq_true_eq, decide_eq_false_iff_not, Bool.not_eq_true', Bool.not_eq_false', Bool.not_true, Bool.not_false, Bool.not_not, ne_eq, Decidable.not_not, Int.not_lt, Int.not_le, gt_iff_lt, ge_iff_le, bool_true_eq_, bool_false_eq_, resE_iff] at h9
                          first
                          | (exfalso; omega)
                          | (skip
                             refine GQ.pass (s := 32) rfl rfl rfl ?_
                             refine GQ.pass (s := 32) rfl rfl rfl ?_
                             refine GQ.pass (s := 32) rfl rfl rfl ?_
                             refine GQ.pass (s := 32) rfl rfl rfl ?_
                             refine GQ.pass (s := 32) rfl rfl rfl ?_
                             refine GQ.pass (s := 32) rfl rfl rfl ?_
                             refine GQ.pass (s := 32) rfl rfl rfl ?_
                             refine GQ.pass (s := 32) rfl rfl rfl ?_
                             refine GQ.pass (s := 32) rfl rfl rfl ?_
                             refine GQ.pass (s := 32) rfl rfl rfl ?_
                             refine GQ.pass (s := 32) rfl rfl rfl ?_
                             refine GQ.pass (s := 32) rfl rfl rfl ?_
                             refine GQ.stepG (s := 29) rfl rfl rfl (q_pure (p_pick_false rfl rfl)) ?_
                             refine GQ.step rfl (q_pure (p_pick_false rfl rfl)) ?_
                             refine GQ.step rfl (q_pure (p_move rfl)) ?_
                             refine GQ.stepG (s := 47) rfl rfl rfl (q_pure (p_move rfl)) ?_
                             refine GQ.stepG (s := 47) rfl rfl rfl (q_pure (p_move rfl)) ?_
                             refine GQ.stepG (s := 47) rfl rfl rfl (q_pure (p_indexL hA_x50 rfl rfl Try.underlying47 sz_68 (by omega) (by omega))) ?_
                             refine GQ.stepG (s := 47) rfl rfl rfl (q_pure (p_fieldAddr' fo_68_2 rfl)) ?_
                             refine GQ.stepG (s := 47) rfl rfl rfl (q_mem (m_loadPN (i := 0) rfl rfl ag_29 (vs := [_, _]) sz_29 ⟨rfl, rfl, trivial⟩)) ?_
                             refine GQ.stepG (s := 47) rfl rfl rfl (q_call fn_38 rfl (js := []) rfl (by exact rres_ct _ _ _ _)) ?_
                             refine GQ.stepG (s := 47) rfl rfl rfl (q_pure (p_neq rfl rfl)) ?_
                             refine GQ.step rfl (q_pure (p_pick_false rfl rfl)) ?_
                             refine GQ.nil (?_ : GC _ _ _ _)
                             refine GC.cond rfl (fun h12 => ?_) (fun h12 => ?_)
                             · try simp only [decide_eq_true_eq, decide_eq_false_iff_not, Bool.not_eq_true', Bool.not_eq_false', Bool.not_true, Bool.not_false, Bool.not_not, ne_eq, Decidable.not_not, Int.not_lt, Int.not_le, gt_iff_lt, ge_iff_le, bool_true_eq_, bool_false_eq_, resE_iff] at h12
                               first
                               | (exfalso; omega)
                               | (skip
                                  refine GC.seq' ?_
                                  refine GC.region ?_
                                  refine GL.pure rfl (p_assign rfl) ?_
                                  refine GL.nil (?_ : GC _ _ _ _)
                                  refine GC.ret ?_
                                  refine fun a w h => Fin.back (rs := [.tmp 2]) (vs := [_]) (is := []) (js := []) rfl ⟨rfl, trivial⟩ rfl rfl ?_ h
                                  clear h
                                  refine ⟨?_, rfl, rfl⟩
                                  (try simp only [show ∀ x : Nat, ((x + 1 : Nat) : Int) - 1 = x by omega] at *)
                                  rw [rightF, he, incB_bad (by omega) (by first | exact .inl (by assumption) | exact .inr (.inl (by assumption)) | exact .inr (.inr (.inl (by assumption))) | exact .inr (.inr (.inr (by simp only [lastC]; omega))))]
                                  rw [Bool.and_false]; rfl)
                             · try simp only [decide_eq_true_eq, decide_eq_false_iff_not, Bool.not_eq_true', Bool.not_eq_false', Bool.not_true, Bool.not_false, Bool.not_not, ne_eq, Decidable.not_not, Int.not_lt, Int.not_le, gt_iff_lt, ge_iff_le, bool_true_eq_, bool_false_eq_, resE_iff] at h12
                               first
                               | (exfalso; omega)
                               | (skip
                                  refine GC.skip (?_ : GC _ _ _ _)
                                  refine GC.region ?_
                                  refine GL.pure rfl (p_move rfl) ?_
                                  refine GL.pure rfl (p_add rfl rfl (w64 (by omega) (by omega))) ?_
                                  refine GL.pure rfl (p_assign rfl) ?_
                                  refine GL.nil ?_
                                  (try simp only [show ∀ x : Nat, ((x + 1 : Nat) : Int) - 1 = x by omega] at *)
                                  exact fun a w h => ⟨(_ + 1), (by omega), ⟨by omega, by rw [he, incB_ok (by omega) (by assumption) (by assumption) (by assumption) (by first | (have := isNum_pos (by assumption : isNum (gt l ((0 : Nat) : Int)).client = true); simp only [lastC]; omega) | (simp only [lastC]; omega))]; rfl⟩, h.cut (is := []) (js := [10]) ⟨rfl, rfl, trivial⟩ rfl rfl⟩)))))
       · try simp only [decide_eq_true_eq, decide_eq_false_iff_not, Bool.not_eq_true', Bool.not_eq_false', Bool.not_true, Bool.not_false, Bool.not_not, ne_eq, Decidable.not_not, Int.not_lt, Int.not_le, gt_iff_lt, ge_iff_le, bool_true_eq_, bool_false_eq_, resE_iff] at h2
         first
         | (exfalso; omega)
         | (skip
            refine GC.exit (?_ : GC _ _ _ _)
            refine GC.seq' ?_
            refine GC.region ?_
            refine GL.pure rfl (p_assign rfl) ?_
            refine GL.nil (?_ : GC _ _ _ _)
            refine GC.ret ?_
            refine fun a w h => Fin.back (rs := [.tmp 2]) (vs := [_]) (is := []) (js := []) rfl ⟨rfl, trivial⟩ rfl rfl ?_ h
            clear h
            exact ⟨by rw [rightF, he, List.drop_of_length_le (by omega), decide_eq_true (by omega)]; rfl, rfl, rfl⟩))
def findR (L : List Row) (c : Int) : Option Row := L.find? fun r => decide (r.client = c)
theorem findR_none {L : List Row} {c : Int} (h : ∀ j : Nat, j < L.length → (gt L (j : Int)).client ≠ c) : findR L c = none := by
  unfold findR
  rw [List.find?_eq_none]
  intro r hr
  obtain ⟨j, hj, rfl⟩ := List.getElem_of_mem hr
  have := h j hj
  have g := gt_ok (xs := L) (i := (j : Int)) (by omega) (by omega)
  simp only [Int.toNat_natCast, List.getElem?_eq_getElem hj, Option.some.injEq] at g
  rw [← g] at this
  simpa using this
theorem findR_some {L : List Row} {c : Int} : ∀ {k : Nat}, k < L.length → (∀ j : Nat, j < k → (gt L (j : Int)).client ≠ c) → (gt L (k : Int)).client = c → findR L c = some (gt L (k : Int)) := by
  intro k hk h he
  unfold findR
  rw [List.find?_eq_some_iff_append]
  refine ⟨by simpa using he, L.take k, L.drop (k + 1), ?_, fun r hr => ?_⟩
  · rw [← drop_gt hk, List.take_append_drop]
  · obtain ⟨j, hj, rfl⟩ := List.getElem_of_mem hr
    simp only [List.length_take] at hj
    have := h j (by omega)
    have g := gt_ok (xs := L) (i := (j : Int)) (by omega) (by omega)
    simp only [Int.toNat_natCast, List.getElem?_eq_getElem (show j < L.length by omega), Option.some.injEq] at g
    rw [← g] at this
    simpa using this
abbrev rtG (p : Nat) (A : Option Addr) (n cp : Nat) : List Own := [.cells p [.slice A n cp] 55]
theorem rfind_ct (p : Nat) (A : Option Addr) (L : List Row) (cp : Nat) (cl : Int) (hl : L.length ≤ 140737488355328) :
    Ct Try.prog 33 [.pointer (some ⟨p, 0, none⟩), .int .i64 cl] (rtG p A L.length cp) [Pers.row kRow A L]
      (fun u G Q => ∃ i : Int, ((i = -1 ∧ findR L cl = none) ∨ (0 ≤ i ∧ i < L.length ∧ findR L cl = some (gt L i))) ∧ u = .int .i64 i ∧ G = rtG p A L.length cp ∧ Q = []) := by
  refine Ct.intro Try.func33 rfl rfl rfl (fun c hc => ?_)
  refine GC.seq' ?_
  refine GC.region ?_
  refine GL.pure rfl (p_assign rfl) ?_
  refine GL.nil (?_ : GC _ _ _ _)
  refine GC.seq' ?_
  refine GC.seq' ?_
  refine GC.region ?_
  refine GL.pure rfl (p_assign rfl) ?_
  refine GL.nil (?_ : GC _ _ _ _)
  refine GC.block ?_
  refine GC.loopK1 (ks := [0, 1]) (is := [0]) (js := [0]) (fun (k : Nat) => k ≤ L.length ∧ ∀ j : Nat, j < k → (gt L (j : Int)).client ≠ cl) (fun (k : Nat) => [(5, .int .i64 (k : Int))]) (fun (k : Nat) => []) (fun (k : Nat) => []) (fun (k : Nat) => L.length - k) (0) rfl rfl rfl (fun a w h => ⟨⟨by omega, fun j hj => by omega⟩, h.cutK (is := [0]) (js := [0]) (ks := [0, 1]) (by exact ⟨rfl, trivial⟩) rfl rfl rfl⟩) ?_
  intro k hk
  try dsimp only [List.cons_append, List.nil_append] at hk ⊢
  obtain ⟨hk, hn⟩ := hk
  refine GC.seq' ?_
  refine GC.seq' ?_
  refine GC.region ?_
  refine GL.pure rfl (p_move rfl) ?_
  refine GL.pure rfl (p_move rfl) ?_
  refine GL.pure rfl (p_nilCheck rfl) ?_
  refine GL.pure rfl (p_fieldAddr fo_55_0 rfl) ?_
  refine GL.step rfl (t_mem rfl (m_load (i := 0) rfl rfl ag_47 rfl)) ?_
  refine GL.pure rfl (p_len Try.underlying47 rfl) ?_
  refine GL.pure rfl (p_lss rfl rfl) ?_
  refine GL.nil (?_ : GC _ _ _ _)
  refine GC.cond rfl (fun h1 => ?_) (fun h1 => ?_)
  · try simp only [decide_eq_true_eq, decide_eq_false_iff_not, Bool.not_eq_true', Bool.not_eq_false', Bool.not_true, Bool.not_false, Bool.not_not, ne_eq, Decidable.not_not, Int.not_lt, Int.not_le, gt_iff_lt, ge_iff_le, bool_true_eq_, bool_false_eq_] at h1
    refine GC.skip (?_ : GC _ _ _ _)
    refine GC.seq' ?_
    refine GC.block ?_
    refine GC.seq' ?_
    refine GC.region ?_
    refine GL.pure rfl (p_move rfl) ?_
    refine GL.pure rfl (p_nilCheck rfl) ?_
    refine GL.pure rfl (p_fieldAddr fo_55_0 rfl) ?_
    refine GL.step rfl (t_mem rfl (m_load (i := 0) rfl rfl ag_47 rfl)) ?_
    refine GL.pure rfl (p_move rfl) ?_
    refine GL.step rfl (t_index (i := 0) rfl rfl rfl rfl Try.underlying47 sz_68 (by omega) (gt_ok (by omega) (by omega))) (GL.ex fun p_x20 => GL.ex fun r_x20 => GL.and fun ok_x20 => ?_)
    rcases r_x20 with ⟨_, ⟨_, ⟨_, ⟨Ax20_0, cpx20_0⟩⟩⟩⟩
    refine GL.pure rfl (p_fieldAddr' fo_68_0 rfl) ?_
    refine GL.step rfl (t_mem rfl (m_loadP (i := 0) rfl rfl ag_3 rfl)) ?_
    refine GL.pure rfl (p_move rfl) ?_
    refine GL.pure rfl (p_eql rfl rfl) ?_
    refine GL.nil (?_ : GC _ _ _ _)
    refine GC.cond rfl (fun h2 => ?_) (fun h2 => ?_)
    · try simp only [decide_eq_true_eq, decide_eq_false_iff_not, Bool.not_eq_true', Bool.not_eq_false', Bool.not_true, Bool.not_false, Bool.not_not, ne_eq, Decidable.not_not, Int.not_lt, Int.not_le, gt_iff_lt, ge_iff_le, bool_true_eq_, bool_false_eq_] at h2
      refine GC.seq' ?_
      refine GC.region ?_
      refine GL.pure rfl (p_move rfl) ?_
      refine GL.pure rfl (p_assign rfl) ?_
      refine GL.nil (?_ : GC _ _ _ _)
      refine GC.ret ?_
      refine fun a w h => Fin.back (rs := [.tmp 4]) (vs := [_]) (is := [0]) (js := []) rfl ⟨rfl, trivial⟩ rfl rfl ?_ h
      clear h
      exact ⟨_, .inr ⟨by omega, by omega, findR_some (by omega) hn (by assumption)⟩, rfl, rfl, rfl⟩
    · try simp only [decide_eq_true_eq, decide_eq_false_iff_not, Bool.not_eq_true', Bool.not_eq_false', Bool.not_true, Bool.not_false, Bool.not_not, ne_eq, Decidable.not_not, Int.not_lt, Int.not_le, gt_iff_lt, ge_iff_le, bool_true_eq_, bool_false_eq_] at h2
      refine GC.skip (?_ : GC _ _ _ _)
      refine GC.region ?_
      refine GL.pure rfl (p_move rfl) ?_
      refine GL.pure rfl (p_add rfl rfl (w64 (by omega) (by omega))) ?_
      refine GL.pure rfl (p_assign rfl) ?_
      refine GL.nil ?_
      exact fun a w h => ⟨(k + 1), (by omega), ⟨by omega, fun j hj => (Nat.lt_succ_iff_lt_or_eq.1 hj).elim (hn j) (fun e => by subst e; assumption)⟩, h.cut (is := [0]) (js := [2]) ⟨rfl, rfl, rfl, trivial⟩ rfl rfl⟩
  · try simp only [decide_eq_true_eq, decide_eq_false_iff_not, Bool.not_eq_true', Bool.not_eq_false', Bool.not_true, Bool.not_false, Bool.not_not, ne_eq, Decidable.not_not, Int.not_lt, Int.not_le, gt_iff_lt, ge_iff_le, bool_true_eq_, bool_false_eq_] at h1
    refine GC.exit (?_ : GC _ _ _ _)
    refine GC.seq' ?_
    refine GC.region ?_
    refine GL.pure rfl (p_assign rfl) ?_
    refine GL.nil (?_ : GC _ _ _ _)
    refine GC.ret ?_
    refine fun a w h => Fin.back (rs := [.tmp 4]) (vs := [_]) (is := [0]) (js := []) rfl ⟨rfl, trivial⟩ rfl rfl ?_ h
    clear h
    exact ⟨_, .inl ⟨rfl, findR_none fun j hj => hn j (by omega)⟩, rfl, rfl, rfl⟩
/-- What the reference's table tells of a request. -/
def raskF (L : List Row) (c s : Int) : Int × Res × Int :=
  if isNum c = false ∨ isNum s = false then (0, rz, 5)
  else match findR L c with
    | none => if (L.length : Int) ≥ 64 then (4, rz, 0) else (1, rz, 0)
    | some r => if s > r.serial then (1, rz, 0) else if s = r.serial then (2, r.result, 0) else (3, rz, 0)
theorem rask_none {L : List Row} {cl s : Int} (h1 : isNum cl = true) (h2 : isNum s = true) (h : findR L cl = none) : raskF L cl s = if (L.length : Int) ≥ 64 then (4, rz, 0) else (1, rz, 0) := by
  unfold raskF; rw [if_neg (by rw [h1, h2]; simp), h]
theorem rask_some {L : List Row} {cl s : Int} {r : Row} (h1 : isNum cl = true) (h2 : isNum s = true) (h : findR L cl = some r) : raskF L cl s = if s > r.serial then (1, rz, 0) else if s = r.serial then (2, r.result, 0) else (3, rz, 0) := by
  unfold raskF; rw [if_neg (by rw [h1, h2]; simp), h]
theorem rask_bad {L : List Row} {cl s : Int} (h : isNum cl = false ∨ isNum s = false) : raskF L cl s = (0, rz, 5) := by
  unfold raskF; rw [if_pos h]
theorem rask_ct (p : Nat) (A : Option Addr) (L : List Row) (cp : Nat) (cl se : Int) (hl : L.length ≤ 140737488355328) :
    Ct Try.prog 32 [.pointer (some ⟨p, 0, none⟩), .int .i64 cl, .int .i64 se] (rtG p A L.length cp) [Pers.row kRow A L]
      (fun v G Q => ∃ B cq, (raskF L cl se).2.1.data.length ≤ cq ∧ cq ≤ 9223372036854775807 ∧ v = resV' (raskF L cl se).1 (raskF L cl se).2.1 B cq (raskF L cl se).2.2 ∧ G = rtG p A L.length cp ∧ Q = [Pers.row Kd.u8 B (raskF L cl se).2.1.data]) := by
  refine Ct.intro Try.func32 rfl rfl rfl (fun c hc => ?_)
  refine GC.know (q := Pers.row Kd.u8 none []) (fun _ _ _ => .inl rfl) ?_
  refine GC.seq' ?_
  refine GC.region ?_
  refine GL.pure rfl (p_assign rfl) ?_
  refine GL.step rfl (t_alloc rfl ze_29) (GL.ex fun b_t7 => ?_)
  refine GL.pure rfl (p_assign rfl) ?_
  refine GL.nil (?_ : GC _ _ _ _)
  refine GC.seq' ?_
  refine GC.seq' ?_
  refine GC.region ?_
  refine GL.pure rfl (p_move rfl) ?_
  refine GL.step rfl (t_call rfl fn_37 rfl (is := []) (js := []) rfl rfl (by exact rnum_ct _)) (GL.ret ?_)
  rintro _ _ _ ⟨rfl, rfl, rfl⟩
  refine GL.pure rfl (p_not rfl) ?_
  refine GL.pure rfl (p_move rfl) ?_
  refine GL.split (i := 13) rfl (fun h1 => ?_) (fun h1 => ?_)
  · try simp only [decide_eq_true_eq, decide_eq_false_iff_not, Bool.not_eq_true', Bool.not_eq_false', Bool.not_true, Bool.not_false, Bool.not_not, ne_eq, Decidable.not_not, Int.not_lt, Int.not_le, gt_iff_lt, ge_iff_le, bool_true_eq_, bool_false_eq_] at h1
    first
    | (exfalso; omega)
    | (skip
       refine GL.pass (s := 13) rfl rfl rfl ?_
       refine GL.pass (s := 13) rfl rfl rfl ?_
       refine GL.pass (s := 13) rfl rfl rfl ?_
       refine GL.pure rfl (p_pick_true rfl rfl) ?_
       refine GL.nil (?_ : GC _ _ _ _)
       refine GC.cond_true rfl ?_
       refine GC.seq' ?_
       refine GC.region ?_
       refine GL.pure rfl (p_build ze_29 of_29 rfl rfl) ?_
       refine GL.pure rfl (p_assign rfl) ?_
       refine GL.step rfl (t_storeN (i := 0) rfl rfl rfl sz_29 rfl rfl rfl) ?_
       refine GL.pure rfl (p_assign rfl) ?_
       refine GL.nil (?_ : GC _ _ _ _)
       refine GC.ret ?_
       refine fun a w h => Fin.back (rs := [.tmp 6, .cell 7 29, .tmp 8]) (vs := [_, _, _]) (is := [1]) (js := [0]) rfl ⟨rfl, ⟨0, _, _, _, _, rfl, rfl, .inr ⟨[_, _], rfl, ag_29, sz_29, ⟨rfl, rfl, trivial⟩⟩⟩, rfl, trivial⟩ rfl rfl ?_ h
       clear h
       have e : raskF L cl se = (0, rz, 5) := rask_bad (by first | exact .inl (by assumption) | exact .inr (by assumption))
       rw [e]; exact ⟨none, 0, by simp [rz], by simp, rfl, rfl, rfl⟩)
  · try simp only [decide_eq_true_eq, decide_eq_false_iff_not, Bool.not_eq_true', Bool.not_eq_false', Bool.not_true, Bool.not_false, Bool.not_not, ne_eq, Decidable.not_not, Int.not_lt, Int.not_le, gt_iff_lt, ge_iff_le, bool_true_eq_, bool_false_eq_] at h1
    first
    | (exfalso; omega)
    | (skip
       refine GL.pureG (s := 13) rfl rfl rfl (p_move rfl) ?_
       refine GL.stepG rfl (s := 13) rfl rfl (t_call rfl fn_37 rfl (is := []) (js := []) rfl rfl (by exact rnum_ct _)) (GL.ret ?_)
       rintro _ _ _ ⟨rfl, rfl, rfl⟩
       refine GL.pureG (s := 13) rfl rfl rfl (p_not rfl) ?_
       refine GL.pure rfl (p_pick_false rfl rfl) ?_
       refine GL.nil (?_ : GC _ _ _ _)
       refine GC.cond rfl (fun h2 => ?_) (fun h2 => ?_)
       · try simp only [decide_eq_true_eq, decide_eq_false_iff_not, Bool.not_eq_true', Bool.not_eq_false', Bool.not_true, Bool.not_false, Bool.not_not, ne_eq, Decidable.not_not, Int.not_lt, Int.not_le, gt_iff_lt, ge_iff_le, bool_true_eq_, bool_false_eq_] at h2
         first
         | (exfalso; omega)
         | (skip
            refine GC.seq' ?_
            refine GC.region ?_
            refine GL.pure rfl (p_build ze_29 of_29 rfl rfl) ?_
            refine GL.pure rfl (p_assign rfl) ?_
            refine GL.step rfl (t_storeN (i := 0) rfl rfl rfl sz_29 rfl rfl rfl) ?_
            refine GL.pure rfl (p_assign rfl) ?_
            refine GL.nil (?_ : GC _ _ _ _)
            refine GC.ret ?_
            refine fun a w h => Fin.back (rs := [.tmp 6, .cell 7 29, .tmp 8]) (vs := [_, _, _]) (is := [1]) (js := [0]) rfl ⟨rfl, ⟨0, _, _, _, _, rfl, rfl, .inr ⟨[_, _], rfl, ag_29, sz_29, ⟨rfl, rfl, trivial⟩⟩⟩, rfl, trivial⟩ rfl rfl ?_ h
            clear h
            have e : raskF L cl se = (0, rz, 5) := rask_bad (by first | exact .inl (by assumption) | exact .inr (by assumption))
            rw [e]; exact ⟨none, 0, by simp [rz], by simp, rfl, rfl, rfl⟩)
       · try simp only [decide_eq_true_eq, decide_eq_false_iff_not, Bool.not_eq_true', Bool.not_eq_false', Bool.not_true, Bool.not_false, Bool.not_not, ne_eq, Decidable.not_not, Int.not_lt, Int.not_le, gt_iff_lt, ge_iff_le, bool_true_eq_, bool_false_eq_] at h2
         first
         | (exfalso; omega)
         | (skip
            refine GC.skip (?_ : GC _ _ _ _)
            refine GC.seq' ?_
            refine GC.region ?_
            refine GL.pure rfl (p_move rfl) ?_
            refine GL.pure rfl (p_move rfl) ?_
            refine GL.step rfl (t_call rfl fn_33 rfl (is := [1]) (js := [1]) rfl rfl (by exact rfind_ct _ _ _ _ _ (by first | assumption | omega))) (GL.ret ?_)
            rintro _ _ _ ⟨i21, hi21, rfl, rfl, rfl⟩
            refine GL.pure rfl (p_assign rfl) ?_
            refine GL.nil (?_ : GC _ _ _ _)
            refine GC.seq' ?_
            refine GC.block ?_
            refine GC.seq' ?_
            refine GC.region ?_
            refine GL.pure rfl (p_move rfl) ?_
            refine GL.pure rfl (p_lss rfl rfl) ?_
            refine GL.pure rfl (p_move rfl) ?_
            refine GL.split (i := 25) rfl (fun h3 => ?_) (fun h3 => ?_)
            · try simp only [decide_eq_true_eq, decide_eq_false_iff_not, Bool.not_eq_true', Bool.not_eq_false', Bool.not_true, Bool.not_false, Bool.not_not, ne_eq, Decidable.not_not, Int.not_lt, Int.not_le, gt_iff_lt, ge_iff_le, bool_true_eq_, bool_false_eq_] at h3
              first
              | (exfalso; omega)
              | (skip
                 refine GL.pureG (s := 25) rfl rfl rfl (p_move rfl) ?_
                 refine GL.pureG (s := 25) rfl rfl rfl (p_nilCheck rfl) ?_
                 refine GL.pureG (s := 25) rfl rfl rfl (p_fieldAddr fo_55_0 rfl) ?_
                 refine GL.stepG rfl (s := 25) rfl rfl (t_mem rfl (m_load (i := 0) rfl rfl ag_47 rfl)) ?_
                 refine GL.pureG (s := 25) rfl rfl rfl (p_len Try.underlying47 rfl) ?_
                 refine GL.pureG (s := 25) rfl rfl rfl (p_geq rfl rfl) ?_
                 refine GL.pure rfl (p_pick_true rfl rfl) ?_
                 refine GL.pure rfl (p_assign rfl) ?_
                 refine GL.nil (?_ : GC _ _ _ _)
                 refine GC.cond rfl (fun h4 => ?_) (fun h4 => ?_)
                 · try simp only [decide_eq_true_eq, decide_eq_false_iff_not, Bool.not_eq_true', Bool.not_eq_false', Bool.not_true, Bool.not_false, Bool.not_not, ne_eq, Decidable.not_not, Int.not_lt, Int.not_le, gt_iff_lt, ge_iff_le, bool_true_eq_, bool_false_eq_] at h4
                   first
                   | (exfalso; omega)
                   | (skip
                      refine GC.seq' ?_
                      refine GC.region ?_
                      refine GL.pure rfl (p_build ze_29 of_29 rfl rfl) ?_
                      refine GL.pure rfl (p_assign rfl) ?_
                      refine GL.step rfl (t_storeN (i := 1) rfl rfl rfl sz_29 rfl rfl rfl) ?_
                      refine GL.pure rfl (p_assign rfl) ?_
                      refine GL.nil (?_ : GC _ _ _ _)
                      refine GC.ret ?_
                      refine fun a w h => Fin.back (rs := [.tmp 6, .cell 7 29, .tmp 8]) (vs := [_, _, _]) (is := [0]) (js := [0]) rfl ⟨rfl, ⟨1, _, _, _, _, rfl, rfl, .inr ⟨[_, _], rfl, ag_29, sz_29, ⟨rfl, rfl, trivial⟩⟩⟩, rfl, trivial⟩ rfl rfl ?_ h
                      clear h
                      have e : raskF L cl se = (4, rz, 0) := by rcases hi21 with ⟨g1, g2⟩ | ⟨g1, g2, g3⟩ <;> first | omega | (rw [rask_none (by assumption) (by assumption) g2, if_pos (by omega)])
                      rw [e]; exact ⟨none, 0, by simp [rz], by simp, rfl, rfl, rfl⟩)
                 · try simp only [decide_eq_true_eq, decide_eq_false_iff_not, Bool.not_eq_true', Bool.not_eq_false', Bool.not_true, Bool.not_false, Bool.not_not, ne_eq, Decidable.not_not, Int.not_lt, Int.not_le, gt_iff_lt, ge_iff_le, bool_true_eq_, bool_false_eq_] at h4
                   first
                   | (exfalso; omega)
                   | (skip
                      refine GC.seq' ?_
                      refine GC.region ?_
                      refine GL.pure rfl (p_move rfl) ?_
                      refine GL.pure rfl (p_lss rfl rfl) ?_
                      refine GL.pure rfl (p_move rfl) ?_
                      refine GL.split (i := 37) rfl (fun h5 => ?_) (fun h5 => ?_)
                      · try simp only [decide_eq_true_eq, decide_eq_false_iff_not, Bool.not_eq_true', Bool.not_eq_false', Bool.not_true, Bool.not_false, Bool.not_not, ne_eq, Decidable.not_not, Int.not_lt, Int.not_le, gt_iff_lt, ge_iff_le, bool_true_eq_, bool_false_eq_] at h5
                        first
                        | (exfalso; omega)
                        | (skip
                           refine GL.pass (s := 37) rfl rfl rfl ?_
                           refine GL.pass (s := 37) rfl rfl rfl ?_
                           refine GL.pass (s := 37) rfl rfl rfl ?_
                           refine GL.pass (s := 37) rfl rfl rfl ?_
                           refine GL.pass (s := 37) rfl rfl rfl ?_
                           refine GL.pass (s := 37) rfl rfl rfl ?_
                           refine GL.pass (s := 37) rfl rfl rfl ?_
                           refine GL.pass (s := 37) rfl rfl rfl ?_
                           refine GL.pass (s := 37) rfl rfl rfl ?_
                           refine GL.pass (s := 37) rfl rfl rfl ?_
                           refine GL.pure rfl (p_pick_true rfl rfl) ?_
                           refine GL.pure rfl (p_assign rfl) ?_
                           refine GL.nil (?_ : GC _ _ _ _)
                           refine GC.cond_true rfl ?_
                           refine GC.seq' ?_
                           refine GC.region ?_
                           refine GL.pure rfl (p_build ze_29 of_29 rfl rfl) ?_
                           refine GL.pure rfl (p_assign rfl) ?_
                           refine GL.step rfl (t_storeN (i := 1) rfl rfl rfl sz_29 rfl rfl rfl) ?_
                           refine GL.pure rfl (p_assign rfl) ?_
                           refine GL.nil (?_ : GC _ _ _ _)
                           refine GC.ret ?_
                           refine fun a w h => Fin.back (rs := [.tmp 6, .cell 7 29, .tmp 8]) (vs := [_, _, _]) (is := [0]) (js := [0]) rfl ⟨rfl, ⟨1, _, _, _, _, rfl, rfl, .inr ⟨[_, _], rfl, ag_29, sz_29, ⟨rfl, rfl, trivial⟩⟩⟩, rfl, trivial⟩ rfl rfl ?_ h
                           clear h
                           have e : raskF L cl se = (1, rz, 0) := by rcases hi21 with ⟨g1, g2⟩ | ⟨g1, g2, g3⟩ <;> first | omega | (rw [rask_none (by assumption) (by assumption) g2, if_neg (by omega)]) | (rw [rask_some (by assumption) (by assumption) g3, if_pos (by omega)])
                           rw [e]; exact ⟨none, 0, by simp [rz], by simp, rfl, rfl, rfl⟩)
                      · try simp only [decide_eq_true_eq, decide_eq_false_iff_not, Bool.not_eq_true', Bool.not_eq_false', Bool.not_true, Bool.not_false, Bool.not_not, ne_eq, Decidable.not_not, Int.not_lt, Int.not_le, gt_iff_lt, ge_iff_le, bool_true_eq_, bool_false_eq_] at h5
                        first
                        | (exfalso; omega)
                        | (skip
                           refine GL.pureG (s := 37) rfl rfl rfl (p_move rfl) ?_
                           refine GL.pureG (s := 37) rfl rfl rfl (p_move rfl) ?_
                           refine GL.pureG (s := 37) rfl rfl rfl (p_nilCheck rfl) ?_
                           refine GL.pureG (s := 37) rfl rfl rfl (p_fieldAddr fo_55_0 rfl) ?_
                           refine GL.stepG rfl (s := 37) rfl rfl (t_mem rfl (m_load (i := 0) rfl rfl ag_47 rfl)) ?_
                           refine GL.pureG (s := 37) rfl rfl rfl (p_move rfl) ?_
                           refine GL.stepG rfl (s := 37) rfl rfl (t_index (i := 1) rfl rfl rfl rfl Try.underlying47 sz_68 (by omega) (gt_ok (by omega) (by omega))) (GL.ex fun p_x44 => GL.ex fun r_x44 => GL.and fun ok_x44 => ?_)
                           rcases r_x44 with ⟨_, ⟨_, ⟨_, ⟨Ax44_0, cpx44_0⟩⟩⟩⟩
                           refine GL.pureG (s := 37) rfl rfl rfl (p_fieldAddr' fo_68_1 rfl) ?_
                           refine GL.stepG rfl (s := 37) rfl rfl (t_mem rfl (m_loadP (i := 0) rfl rfl ag_3 rfl)) ?_
                           refine GL.pureG (s := 37) rfl rfl rfl (p_gtr rfl rfl) ?_
                           refine GL.pure rfl (p_pick_false rfl rfl) ?_
                           refine GL.pure rfl (p_assign rfl) ?_
                           refine GL.nil (?_ : GC _ _ _ _)
                           refine GC.cond rfl (fun h6 => ?_) (fun h6 => ?_)
                           · try simp only [decide_eq_true_eq, decide_eq_false_iff_not, Bool.not_eq_true', Bool.not_eq_false', Bool.not_true, Bool.not_false, Bool.not_not, ne_eq, Decidable.not_not, Int.not_lt, Int.not_le, gt_iff_lt, ge_iff_le, bool_true_eq_, bool_false_eq_] at h6
                             first
                             | (exfalso; omega)
                             | (skip
                                refine GC.seq' ?_
                                refine GC.region ?_
                                refine GL.pure rfl (p_build ze_29 of_29 rfl rfl) ?_
                                refine GL.pure rfl (p_assign rfl) ?_
                                refine GL.step rfl (t_storeN (i := 1) rfl rfl rfl sz_29 rfl rfl rfl) ?_
                                refine GL.pure rfl (p_assign rfl) ?_
                                refine GL.nil (?_ : GC _ _ _ _)
                                refine GC.ret ?_
                                refine fun a w h => Fin.back (rs := [.tmp 6, .cell 7 29, .tmp 8]) (vs := [_, _, _]) (is := [0]) (js := [2]) rfl ⟨rfl, ⟨1, _, _, _, _, rfl, rfl, .inr ⟨[_, _], rfl, ag_29, sz_29, ⟨rfl, rfl, trivial⟩⟩⟩, rfl, trivial⟩ rfl rfl ?_ h
                                clear h
                                have e : raskF L cl se = (1, rz, 0) := by rcases hi21 with ⟨g1, g2⟩ | ⟨g1, g2, g3⟩ <;> first | omega | (rw [rask_none (by assumption) (by assumption) g2, if_neg (by omega)]) | (rw [rask_some (by assumption) (by assumption) g3, if_pos (by omega)])
                                rw [e]; exact ⟨none, 0, by simp [rz], by simp, rfl, rfl, rfl⟩)
                           · try simp only [decide_eq_true_eq, decide_eq_false_iff_not, Bool.not_eq_true', Bool.not_eq_false', Bool.not_true, Bool.not_false, Bool.not_not, ne_eq, Decidable.not_not, Int.not_lt, Int.not_le, gt_iff_lt, ge_iff_le, bool_true_eq_, bool_false_eq_] at h6
                             first
                             | (exfalso; omega)
                             | (skip
                                refine GC.seq' ?_
                                refine GC.region ?_
                                refine GL.pure rfl (p_move rfl) ?_
                                refine GL.pure rfl (p_move rfl) ?_
                                refine GL.pure rfl (p_nilCheck rfl) ?_
                                refine GL.pure rfl (p_fieldAddr fo_55_0 rfl) ?_
                                refine GL.step rfl (t_mem rfl (m_load (i := 0) rfl rfl ag_47 rfl)) ?_
                                refine GL.pure rfl (p_move rfl) ?_
                                refine GL.step rfl (t_index (i := 3) rfl rfl rfl rfl Try.underlying47 sz_68 (by omega) (gt_ok (by omega) (by omega))) (GL.ex fun p_x57 => GL.ex fun r_x57 => GL.and fun ok_x57 => ?_)
                                rcases r_x57 with ⟨_, ⟨_, ⟨_, ⟨Ax57_0, cpx57_0⟩⟩⟩⟩
                                refine GL.pure rfl (p_fieldAddr' fo_68_1 rfl) ?_
                                refine GL.step rfl (t_mem rfl (m_loadP (i := 0) rfl rfl ag_3 rfl)) ?_
                                refine GL.pure rfl (p_eql rfl rfl) ?_
                                refine GL.pure rfl (p_assign rfl) ?_
                                refine GL.nil (?_ : GC _ _ _ _)
                                refine GC.cond rfl (fun h7 => ?_) (fun h7 => ?_)
                                · try simp only [decide_eq_true_eq, decide_eq_false_iff_not, Bool.not_eq_true', Bool.not_eq_false', Bool.not_true, Bool.not_false, Bool.not_not, ne_eq, Decidable.not_not, Int.not_lt, Int.not_le, gt_iff_lt, ge_iff_le, bool_true_eq_, bool_false_eq_] at h7
                                  first
                                  | (exfalso; omega)
                                  | (skip
                                     refine GC.seq' ?_
                                     refine GC.regionC (m := 11) (is := [0]) (js := [0, 1, 2, 3, 4, 5]) wide_ rfl rfl rfl ?_
                                     refine GA.take 0 rfl (by kernel_rfl) (by kernel_rfl) (by kernel_rfl) rfl (fun a w h => h.mem (is := [0]) (js := [0, 1, 2, 3, 4, 5]) rfl rfl) (i_pure (p_move rfl)) ?_
                                     refine GA.take 1 rfl (by kernel_rfl) (by kernel_rfl) (by kernel_rfl) rfl (fun a w h => h.mem (is := [0]) (js := [0, 1, 2, 3, 4, 5]) rfl rfl) (i_pure (p_nilCheck rfl)) ?_
                                     refine GA.take 2 rfl (by kernel_rfl) (by kernel_rfl) (by kernel_rfl) rfl (fun a w h => h.mem (is := [0]) (js := [0, 1, 2, 3, 4, 5]) rfl rfl) (i_pure (p_fieldAddr fo_55_0 rfl)) ?_
                                     refine GA.take 3 rfl (by kernel_rfl) (by kernel_rfl) (by kernel_rfl) rfl (fun a w h => h.mem (is := [0]) (js := [0, 1, 2, 3, 4, 5]) rfl rfl) (i_mem (m_load (i := 0) rfl rfl ag_47 rfl)) ?_
                                     refine GA.take 4 rfl (by kernel_rfl) (by kernel_rfl) (by kernel_rfl) rfl (fun a w h => h.mem (is := [0]) (js := [0, 1, 2, 3, 4, 5]) rfl rfl) (i_pure (p_move rfl)) ?_
                                     refine GA.take 8 rfl (by kernel_rfl) (by kernel_rfl) (by kernel_rfl) rfl (fun a w h => h.mem (is := [0]) (js := [0, 1, 2, 3, 4, 5]) rfl rfl) (i_pure (p_assign rfl)) ?_
                                     refine GA.all (rs := [5]) (by kernel_rfl) (by simp) ?_
                                     refine GAs.cons (i := 5) rfl rfl (t_index (i := 5) rfl rfl rfl rfl Try.underlying47 sz_68 (by omega) (gt_ok (by omega) (by omega))) (by rintro a w ⟨_, _, _, h⟩; exact h.mem (is := [0]) (js := [2, 3, 4, 5, 6, 7]) rfl rfl) (GA.ex fun p_x66 => GA.ex fun r_x66 => GA.and fun ok_x66 => ?_) ?_
                                     · rcases r_x66 with ⟨_, ⟨_, ⟨_, ⟨Ax66_0, cpx66_0⟩⟩⟩⟩
                                       refine GA.take 6 rfl (by kernel_rfl) (by kernel_rfl) (by kernel_rfl) rfl (fun a w h => h.mem (is := [0]) (js := [2, 3, 4, 5, 6, 7]) rfl rfl) (i_pure (p_fieldAddr' fo_68_2 rfl)) ?_
                                       refine GA.all (rs := [7]) (by kernel_rfl) (by simp) ?_
                                       refine GAs.cons (i := 7) rfl rfl (t_mem rfl (m_loadPN (i := 0) rfl rfl ag_29 (vs := [_, _]) sz_29 ⟨rfl, rfl, trivial⟩)) (by rintro a w h; exact h.mem (is := [0]) (js := [2, 3, 4, 5, 6, 7]) rfl rfl) ?_ ?_
                                       · refine GA.all (rs := [9]) (by kernel_rfl) (by simp) ?_
                                         refine GAs.cons (i := 9) rfl rfl (t_storeN (i := 1) rfl rfl rfl sz_29 rfl rfl rfl) (by rintro a w h; exact h.mem (is := [0]) (js := [2, 3, 4, 5, 6, 7]) rfl rfl) ?_ ?_
                                         · refine GA.take 10 rfl (by kernel_rfl) (by kernel_rfl) (by kernel_rfl) rfl (fun a w h => h.mem (is := [0]) (js := [2, 3, 4, 5, 6, 7]) rfl rfl) (i_pure (p_assign rfl)) ?_
                                           refine GA.done (by kernel_rfl) (?_ : GC _ _ _ _)
                                           refine GC.ret ?_
                                           refine fun a w h => Fin.back (rs := [.tmp 6, .cell 7 29, .tmp 8]) (vs := [_, _, _]) (is := [0]) (js := [1]) rfl ⟨rfl, ⟨1, _, _, _, _, rfl, rfl, .inr ⟨[_, _], rfl, ag_29, sz_29, ⟨rfl, rfl, trivial⟩⟩⟩, rfl, trivial⟩ rfl rfl ?_ h
                                           clear h
                                           have e : raskF L cl se = (2, (gt L i21).result, 0) := by rcases hi21 with ⟨g1, g2⟩ | ⟨g1, g2, g3⟩ <;> first | omega | (rw [rask_some (by assumption) (by assumption) g3, if_neg (by omega), if_pos (by omega)])
                                           rw [e]; exact ⟨_, _, ok_x66.2.2.2.1, ok_x66.2.2.2.2, rfl, rfl, rfl⟩
                                         exact GAs.nil
                                       exact GAs.nil
                                     exact GAs.nil)
                                · try simp only [decide_eq_true_eq, decide_eq_false_iff_not, Bool.not_eq_true', Bool.not_eq_false', Bool.not_true, Bool.not_false, Bool.not_not, ne_eq, Decidable.not_not, Int.not_lt, Int.not_le, gt_iff_lt, ge_iff_le, bool_true_eq_, bool_false_eq_] at h7
                                  first
                                  | (exfalso; omega)
                                  | (skip
                                     refine GC.skip (?_ : GC _ _ _ _)
                                     refine GC.seq' ?_
                                     refine GC.region ?_
                                     refine GL.pure rfl (p_build ze_29 of_29 rfl rfl) ?_
                                     refine GL.pure rfl (p_assign rfl) ?_
                                     refine GL.step rfl (t_storeN (i := 1) rfl rfl rfl sz_29 rfl rfl rfl) ?_
                                     refine GL.pure rfl (p_assign rfl) ?_
                                     refine GL.nil (?_ : GC _ _ _ _)
                                     refine GC.ret ?_
                                     refine fun a w h => Fin.back (rs := [.tmp 6, .cell 7 29, .tmp 8]) (vs := [_, _, _]) (is := [0]) (js := [4]) rfl ⟨rfl, ⟨1, _, _, _, _, rfl, rfl, .inr ⟨[_, _], rfl, ag_29, sz_29, ⟨rfl, rfl, trivial⟩⟩⟩, rfl, trivial⟩ rfl rfl ?_ h
                                     clear h
                                     have e : raskF L cl se = (3, rz, 0) := by rcases hi21 with ⟨g1, g2⟩ | ⟨g1, g2, g3⟩ <;> first | omega | (rw [rask_some (by assumption) (by assumption) g3, if_neg (by omega), if_neg (by omega)])
                                     rw [e]; exact ⟨none, 0, by simp [rz], by simp, rfl, rfl, rfl⟩)))))
            · try simp only [decide_eq_true_eq, decide_eq_false_iff_not, Bool.not_eq_true', Bool.not_eq_false', Bool.not_true, Bool.not_false, Bool.not_not, ne_eq, Decidable.not_not, Int.not_lt, Int.not_le, gt_iff_lt, ge_iff_le, bool_true_eq_, bool_false_eq_] at h3
              first
              | (exfalso; omega)
              | (skip
                 refine GL.pass (s := 25) rfl rfl rfl ?_
                 refine GL.pass (s := 25) rfl rfl rfl ?_
                 refine GL.pass (s := 25) rfl rfl rfl ?_
                 refine GL.pass (s := 25) rfl rfl rfl ?_
                 refine GL.pass (s := 25) rfl rfl rfl ?_
                 refine GL.pass (s := 25) rfl rfl rfl ?_
                 refine GL.pure rfl (p_pick_false rfl rfl) ?_
                 refine GL.pure rfl (p_assign rfl) ?_
                 refine GL.nil (?_ : GC _ _ _ _)
                 refine GC.cond_false rfl ?_
                 refine GC.seq' ?_
                 refine GC.region ?_
                 refine GL.pure rfl (p_move rfl) ?_
                 refine GL.pure rfl (p_lss rfl rfl) ?_
                 refine GL.pure rfl (p_move rfl) ?_
                 refine GL.split (i := 37) rfl (fun h8 => ?_) (fun h8 => ?_)
                 · try simp only [decide_eq_true_eq, decide_eq_false_iff_not, Bool.not_eq_true', Bool.not_eq_false', Bool.not_true, Bool.not_false, Bool.not_not, ne_eq, Decidable.not_not, Int.not_lt, Int.not_le, gt_iff_lt, ge_iff_le, bool_true_eq_, bool_false_eq_] at h8
                   first
                   | (exfalso; omega)
                   | (skip
                      refine GL.pass (s := 37) rfl rfl rfl ?_
                      refine GL.pass (s := 37) rfl rfl rfl ?_
                      refine GL.pass (s := 37) rfl rfl rfl ?_
                      refine GL.pass (s := 37) rfl rfl rfl ?_
                      refine GL.pass (s := 37) rfl rfl rfl ?_
                      refine GL.pass (s := 37) rfl rfl rfl ?_
                      refine GL.pass (s := 37) rfl rfl rfl ?_
                      refine GL.pass (s := 37) rfl rfl rfl ?_
                      refine GL.pass (s := 37) rfl rfl rfl ?_
                      refine GL.pass (s := 37) rfl rfl rfl ?_
                      refine GL.pure rfl (p_pick_true rfl rfl) ?_
                      refine GL.pure rfl (p_assign rfl) ?_
                      refine GL.nil (?_ : GC _ _ _ _)
                      refine GC.cond_true rfl ?_
                      refine GC.seq' ?_
                      refine GC.region ?_
                      refine GL.pure rfl (p_build ze_29 of_29 rfl rfl) ?_
                      refine GL.pure rfl (p_assign rfl) ?_
                      refine GL.step rfl (t_storeN (i := 1) rfl rfl rfl sz_29 rfl rfl rfl) ?_
                      refine GL.pure rfl (p_assign rfl) ?_
                      refine GL.nil (?_ : GC _ _ _ _)
                      refine GC.ret ?_
                      refine fun a w h => Fin.back (rs := [.tmp 6, .cell 7 29, .tmp 8]) (vs := [_, _, _]) (is := [0]) (js := [0]) rfl ⟨rfl, ⟨1, _, _, _, _, rfl, rfl, .inr ⟨[_, _], rfl, ag_29, sz_29, ⟨rfl, rfl, trivial⟩⟩⟩, rfl, trivial⟩ rfl rfl ?_ h
                      clear h
                      have e : raskF L cl se = (1, rz, 0) := by rcases hi21 with ⟨g1, g2⟩ | ⟨g1, g2, g3⟩ <;> first | omega | (rw [rask_none (by assumption) (by assumption) g2, if_neg (by omega)]) | (rw [rask_some (by assumption) (by assumption) g3, if_pos (by omega)])
                      rw [e]; exact ⟨none, 0, by simp [rz], by simp, rfl, rfl, rfl⟩)
                 · try simp only [decide_eq_true_eq, decide_eq_false_iff_not, Bool.not_eq_true', Bool.not_eq_false', Bool.not_true, Bool.not_false, Bool.not_not, ne_eq, Decidable.not_not, Int.not_lt, Int.not_le, gt_iff_lt, ge_iff_le, bool_true_eq_, bool_false_eq_] at h8
                   first
                   | (exfalso; omega)
                   | (skip
                      refine GL.pureG (s := 37) rfl rfl rfl (p_move rfl) ?_
                      refine GL.pureG (s := 37) rfl rfl rfl (p_move rfl) ?_
                      refine GL.pureG (s := 37) rfl rfl rfl (p_nilCheck rfl) ?_
                      refine GL.pureG (s := 37) rfl rfl rfl (p_fieldAddr fo_55_0 rfl) ?_
                      refine GL.stepG rfl (s := 37) rfl rfl (t_mem rfl (m_load (i := 0) rfl rfl ag_47 rfl)) ?_
                      refine GL.pureG (s := 37) rfl rfl rfl (p_move rfl) ?_
                      refine GL.stepG rfl (s := 37) rfl rfl (t_index (i := 1) rfl rfl rfl rfl Try.underlying47 sz_68 (by omega) (gt_ok (by omega) (by omega))) (GL.ex fun p_x44 => GL.ex fun r_x44 => GL.and fun ok_x44 => ?_)
                      rcases r_x44 with ⟨_, ⟨_, ⟨_, ⟨Ax44_0, cpx44_0⟩⟩⟩⟩
                      refine GL.pureG (s := 37) rfl rfl rfl (p_fieldAddr' fo_68_1 rfl) ?_
                      refine GL.stepG rfl (s := 37) rfl rfl (t_mem rfl (m_loadP (i := 0) rfl rfl ag_3 rfl)) ?_
                      refine GL.pureG (s := 37) rfl rfl rfl (p_gtr rfl rfl) ?_
                      refine GL.pure rfl (p_pick_false rfl rfl) ?_
                      refine GL.pure rfl (p_assign rfl) ?_
                      refine GL.nil (?_ : GC _ _ _ _)
                      refine GC.cond rfl (fun h9 => ?_) (fun h9 => ?_)
                      · try simp only [decide_eq_true_eq, decide_eq_false_iff_not, Bool.not_eq_true', Bool.not_eq_false', Bool.not_true, Bool.not_false, Bool.not_not, ne_eq, Decidable.not_not, Int.not_lt, Int.not_le, gt_iff_lt, ge_iff_le, bool_true_eq_, bool_false_eq_] at h9
                        first
                        | (exfalso; omega)
                        | (skip
                           refine GC.seq' ?_
                           refine GC.region ?_
                           refine GL.pure rfl (p_build ze_29 of_29 rfl rfl) ?_
                           refine GL.pure rfl (p_assign rfl) ?_
                           refine GL.step rfl (t_storeN (i := 1) rfl rfl rfl sz_29 rfl rfl rfl) ?_
                           refine GL.pure rfl (p_assign rfl) ?_
                           refine GL.nil (?_ : GC _ _ _ _)
                           refine GC.ret ?_
                           refine fun a w h => Fin.back (rs := [.tmp 6, .cell 7 29, .tmp 8]) (vs := [_, _, _]) (is := [0]) (js := [2]) rfl ⟨rfl, ⟨1, _, _, _, _, rfl, rfl, .inr ⟨[_, _], rfl, ag_29, sz_29, ⟨rfl, rfl, trivial⟩⟩⟩, rfl, trivial⟩ rfl rfl ?_ h
                           clear h
                           have e : raskF L cl se = (1, rz, 0) := by rcases hi21 with ⟨g1, g2⟩ | ⟨g1, g2, g3⟩ <;> first | omega | (rw [rask_none (by assumption) (by assumption) g2, if_neg (by omega)]) | (rw [rask_some (by assumption) (by assumption) g3, if_pos (by omega)])
                           rw [e]; exact ⟨none, 0, by simp [rz], by simp, rfl, rfl, rfl⟩)
                      · try simp only [decide_eq_true_eq, decide_eq_false_iff_not, Bool.not_eq_true', Bool.not_eq_false', Bool.not_true, Bool.not_false, Bool.not_not, ne_eq, Decidable.not_not, Int.not_lt, Int.not_le, gt_iff_lt, ge_iff_le, bool_true_eq_, bool_false_eq_] at h9
                        first
                        | (exfalso; omega)
                        | (skip
                           refine GC.seq' ?_
                           refine GC.region ?_
                           refine GL.pure rfl (p_move rfl) ?_
                           refine GL.pure rfl (p_move rfl) ?_
                           refine GL.pure rfl (p_nilCheck rfl) ?_
                           refine GL.pure rfl (p_fieldAddr fo_55_0 rfl) ?_
                           refine GL.step rfl (t_mem rfl (m_load (i := 0) rfl rfl ag_47 rfl)) ?_
                           refine GL.pure rfl (p_move rfl) ?_
                           refine GL.step rfl (t_index (i := 3) rfl rfl rfl rfl Try.underlying47 sz_68 (by omega) (gt_ok (by omega) (by omega))) (GL.ex fun p_x57 => GL.ex fun r_x57 => GL.and fun ok_x57 => ?_)
                           rcases r_x57 with ⟨_, ⟨_, ⟨_, ⟨Ax57_0, cpx57_0⟩⟩⟩⟩
                           refine GL.pure rfl (p_fieldAddr' fo_68_1 rfl) ?_
                           refine GL.step rfl (t_mem rfl (m_loadP (i := 0) rfl rfl ag_3 rfl)) ?_
                           refine GL.pure rfl (p_eql rfl rfl) ?_
                           refine GL.pure rfl (p_assign rfl) ?_
                           refine GL.nil (?_ : GC _ _ _ _)
                           refine GC.cond rfl (fun h10 => ?_) (fun h10 => ?_)
                           · try simp only [decide_eq_true_eq, decide_eq_false_iff_not, Bool.not_eq_true', Bool.not_eq_false', Bool.not_true, Bool.not_false, Bool.not_not, ne_eq, Decidable.not_not, Int.not_lt, Int.not_le, gt_iff_lt, ge_iff_le, bool_true_eq_, bool_false_eq_] at h10
                             first
                             | (exfalso; omega)
                             | (skip
                                refine GC.seq' ?_
                                refine GC.regionC (m := 11) (is := [0]) (js := [0, 1, 2, 3, 4, 5]) wide_ rfl rfl rfl ?_
                                refine GA.take 0 rfl (by kernel_rfl) (by kernel_rfl) (by kernel_rfl) rfl (fun a w h => h.mem (is := [0]) (js := [0, 1, 2, 3, 4, 5]) rfl rfl) (i_pure (p_move rfl)) ?_
                                refine GA.take 1 rfl (by kernel_rfl) (by kernel_rfl) (by kernel_rfl) rfl (fun a w h => h.mem (is := [0]) (js := [0, 1, 2, 3, 4, 5]) rfl rfl) (i_pure (p_nilCheck rfl)) ?_
                                refine GA.take 2 rfl (by kernel_rfl) (by kernel_rfl) (by kernel_rfl) rfl (fun a w h => h.mem (is := [0]) (js := [0, 1, 2, 3, 4, 5]) rfl rfl) (i_pure (p_fieldAddr fo_55_0 rfl)) ?_
                                refine GA.take 3 rfl (by kernel_rfl) (by kernel_rfl) (by kernel_rfl) rfl (fun a w h => h.mem (is := [0]) (js := [0, 1, 2, 3, 4, 5]) rfl rfl) (i_mem (m_load (i := 0) rfl rfl ag_47 rfl)) ?_
                                refine GA.take 4 rfl (by kernel_rfl) (by kernel_rfl) (by kernel_rfl) rfl (fun a w h => h.mem (is := [0]) (js := [0, 1, 2, 3, 4, 5]) rfl rfl) (i_pure (p_move rfl)) ?_
                                refine GA.take 8 rfl (by kernel_rfl) (by kernel_rfl) (by kernel_rfl) rfl (fun a w h => h.mem (is := [0]) (js := [0, 1, 2, 3, 4, 5]) rfl rfl) (i_pure (p_assign rfl)) ?_
                                refine GA.all (rs := [5]) (by kernel_rfl) (by simp) ?_
                                refine GAs.cons (i := 5) rfl rfl (t_index (i := 5) rfl rfl rfl rfl Try.underlying47 sz_68 (by omega) (gt_ok (by omega) (by omega))) (by rintro a w ⟨_, _, _, h⟩; exact h.mem (is := [0]) (js := [2, 3, 4, 5, 6, 7]) rfl rfl) (GA.ex fun p_x66 => GA.ex fun r_x66 => GA.and fun ok_x66 => ?_) ?_
                                · rcases r_x66 with ⟨_, ⟨_, ⟨_, ⟨Ax66_0, cpx66_0⟩⟩⟩⟩
                                  refine GA.take 6 rfl (by kernel_rfl) (by kernel_rfl) (by kernel_rfl) rfl (fun a w h => h.mem (is := [0]) (js := [2, 3, 4, 5, 6, 7]) rfl rfl) (i_pure (p_fieldAddr' fo_68_2 rfl)) ?_
                                  refine GA.all (rs := [7]) (by kernel_rfl) (by simp) ?_
                                  refine GAs.cons (i := 7) rfl rfl (t_mem rfl (m_loadPN (i := 0) rfl rfl ag_29 (vs := [_, _]) sz_29 ⟨rfl, rfl, trivial⟩)) (by rintro a w h; exact h.mem (is := [0]) (js := [2, 3, 4, 5, 6, 7]) rfl rfl) ?_ ?_
                                  · refine GA.all (rs := [9]) (by kernel_rfl) (by simp) ?_
                                    refine GAs.cons (i := 9) rfl rfl (t_storeN (i := 1) rfl rfl rfl sz_29 rfl rfl rfl) (by rintro a w h; exact h.mem (is := [0]) (js := [2, 3, 4, 5, 6, 7]) rfl rfl) ?_ ?_
                                    · refine GA.take 10 rfl (by kernel_rfl) (by kernel_rfl) (by kernel_rfl) rfl (fun a w h => h.mem (is := [0]) (js := [2, 3, 4, 5, 6, 7]) rfl rfl) (i_pure (p_assign rfl)) ?_
                                      refine GA.done (by kernel_rfl) (?_ : GC _ _ _ _)
                                      refine GC.ret ?_
                                      refine fun a w h => Fin.back (rs := [.tmp 6, .cell 7 29, .tmp 8]) (vs := [_, _, _]) (is := [0]) (js := [1]) rfl ⟨rfl, ⟨1, _, _, _, _, rfl, rfl, .inr ⟨[_, _], rfl, ag_29, sz_29, ⟨rfl, rfl, trivial⟩⟩⟩, rfl, trivial⟩ rfl rfl ?_ h
                                      clear h
                                      have e : raskF L cl se = (2, (gt L i21).result, 0) := by rcases hi21 with ⟨g1, g2⟩ | ⟨g1, g2, g3⟩ <;> first | omega | (rw [rask_some (by assumption) (by assumption) g3, if_neg (by omega), if_pos (by omega)])
                                      rw [e]; exact ⟨_, _, ok_x66.2.2.2.1, ok_x66.2.2.2.2, rfl, rfl, rfl⟩
                                    exact GAs.nil
                                  exact GAs.nil
                                exact GAs.nil)
                           · try simp only [decide_eq_true_eq, decide_eq_false_iff_not, Bool.not_eq_true', Bool.not_eq_false', Bool.not_true, Bool.not_false, Bool.not_not, ne_eq, Decidable.not_not, Int.not_lt, Int.not_le, gt_iff_lt, ge_iff_le, bool_true_eq_, bool_false_eq_] at h10
                             first
                             | (exfalso; omega)
                             | (skip
                                refine GC.skip (?_ : GC _ _ _ _)
                                refine GC.seq' ?_
                                refine GC.region ?_
                                refine GL.pure rfl (p_build ze_29 of_29 rfl rfl) ?_
                                refine GL.pure rfl (p_assign rfl) ?_
                                refine GL.step rfl (t_storeN (i := 1) rfl rfl rfl sz_29 rfl rfl rfl) ?_
                                refine GL.pure rfl (p_assign rfl) ?_
                                refine GL.nil (?_ : GC _ _ _ _)
                                refine GC.ret ?_
                                refine fun a w h => Fin.back (rs := [.tmp 6, .cell 7 29, .tmp 8]) (vs := [_, _, _]) (is := [0]) (js := [4]) rfl ⟨rfl, ⟨1, _, _, _, _, rfl, rfl, .inr ⟨[_, _], rfl, ag_29, sz_29, ⟨rfl, rfl, trivial⟩⟩⟩, rfl, trivial⟩ rfl rfl ?_ h
                                clear h
                                have e : raskF L cl se = (3, rz, 0) := by rcases hi21 with ⟨g1, g2⟩ | ⟨g1, g2, g3⟩ <;> first | omega | (rw [rask_some (by assumption) (by assumption) g3, if_neg (by omega), if_neg (by omega)])
                                rw [e]; exact ⟨none, 0, by simp [rz], by simp, rfl, rfl, rfl⟩))))))
end Go.Proofs.Ytipjpgjahmadiaa
