/- THE TABLE OF THE REFERENCE: a request was done; rows held against each other; rows become a table. -/
import Derived.Test.YtipjpgjahmadiaaTe1
set_option linter.unusedVariables false
set_option linter.unusedSimpArgs false
set_option maxRecDepth 100000
namespace Go.Proofs.Ytipjpgjahmadiaa
open Go Go.Sx Go.Proofs
def inA (cl : Int) (L : List Row) : Nat → Bool
  | 0 => false
  | k + 1 => inA cl L k || decide ((gt L (k : Int)).client ≥ cl)
def accA (row : Row) (L : List Row) : Nat → List Row
  | 0 => []
  | k + 1 => accA row L k ++ (if inA row.client L k = false ∧ (gt L (k : Int)).client ≥ row.client then [row] else []) ++ (if (gt L (k : Int)).client ≠ row.client then [gt L (k : Int)] else [])
def insL (row : Row) (L : List Row) : List Row := accA row L L.length ++ (if inA row.client L L.length = false then [row] else [])
theorem accA_le (row : Row) (L : List Row) (k : Nat) : (accA row L k).length ≤ 2 * k := by
  induction k with
  | zero => simp [accA]
  | succ k ih =>
    simp only [accA, List.length_append]
    split <;> split <;> simp <;> omega
def rputF (L : List Row) (cl s : Int) (r : Res) : Int × List Row :=
  if (raskF L cl s).2.2 ≠ 0 then ((raskF L cl s).2.2, L)
  else if resOk r.code r.data.length = false then (60, L)
  else if (raskF L cl s).1 = 4 then (3, L)
  else if (raskF L cl s).1 ≠ 1 then (1, L)
  else (0, insL ⟨cl, s, r⟩ L)
theorem rput_ct (p : Nat) (A : Option Addr) (L : List Row) (cp : Nat) (cl se : Int) (r : Res) (B : Option Addr) (cq : Nat) (hl : L.length ≤ 1000000) (hc1 : L.length ≤ cp) (hc2 : cp ≤ 9223372036854775807) (hd1 : r.data.length ≤ cq) (hd2 : cq ≤ 9223372036854775807) :
    Ct Try.prog 31 [.pointer (some ⟨p, 0, none⟩), .int .i64 cl, .int .i64 se, .agg #[.int .u8 r.code, .slice B r.data.length cq]] (rtG p A L.length cp) [Pers.row kRow A L, Pers.row Kd.u8 B r.data]
      (fun v G Q => ∃ A' cp', (rputF L cl se r).2.length ≤ cp' ∧ cp' ≤ 9223372036854775807 ∧ v = .int .i64 (rputF L cl se r).1 ∧ G = rtG p A' (rputF L cl se r).2.length cp' ∧ Q = [Pers.row kRow A' (rputF L cl se r).2]) := by
  refine Ct.intro Try.func31 rfl rfl rfl (fun c hc => ?_)
  refine GC.seq' ?_
  refine GC.region ?_
  refine GL.step rfl (t_box rfl rfl rfl) (GL.ex fun b_t7 => ?_)
  refine GL.pure rfl (p_assign rfl) ?_
  refine GL.nil (?_ : GC _ _ _ _)
  refine GC.seq' ?_
  refine GC.region ?_
  refine GL.pure rfl (p_move rfl) ?_
  refine GL.pure rfl (p_move rfl) ?_
  refine GL.pure rfl (p_move rfl) ?_
  refine GL.step rfl (t_call rfl fn_32 rfl (is := [1]) (js := [0]) rfl rfl (by exact rask_ct _ _ L _ cl se (by omega))) (GL.ret ?_)
  rintro _ _ _ ⟨A20, cp20, l20, m20, rfl, rfl, rfl⟩
  refine GL.pure rfl (p_move rfl) ?_
  refine GL.pure rfl (p_extract rfl rfl) ?_
  refine GL.pure rfl (p_extract rfl rfl) ?_
  refine GL.pure rfl (p_extract rfl rfl) ?_
  refine GL.step rfl (t_alloc rfl ze_29) (GL.ex fun b_t10 => ?_)
  refine GL.pure rfl (p_assign rfl) ?_
  refine GL.step rfl (t_storeN (i := 0) rfl rfl rfl sz_29 rfl rfl rfl) ?_
  refine GL.pure rfl (p_assign rfl) ?_
  refine GL.nil (?_ : GC _ _ _ _)
  refine GC.seq' ?_
  refine GC.seq' ?_
  refine GC.region ?_
  refine GL.pure rfl (p_move rfl) ?_
  refine GL.pure rfl (p_neq rfl rfl) ?_
  refine GL.nil (?_ : GC _ _ _ _)
  refine GC.cond rfl (fun h1 => ?_) (fun h1 => ?_)
  · try simp only [decide_eq_true_eq, decide_eq_false_iff_not, Bool.not_eq_true', Bool.not_eq_false', Bool.not_true, Bool.not_false, Bool.not_not, ne_eq, Decidable.not_not, Int.not_lt, Int.not_le, gt_iff_lt, ge_iff_le, bool_true_eq_, bool_false_eq_, resE_iff] at h1
    refine GC.seq' ?_
    refine GC.region ?_
    refine GL.pure rfl (p_move rfl) ?_
    refine GL.pure rfl (p_assign rfl) ?_
    refine GL.nil (?_ : GC _ _ _ _)
    refine GC.ret ?_
    refine fun a w h => Fin.back (rs := [.tmp 8]) (vs := [_]) (is := [1]) (js := [1]) rfl ⟨rfl, trivial⟩ rfl rfl ?_ h
    clear h
    have e : (rputF L cl se r).2 = L := by simp [rputF, *]
    rw [e]; exact ⟨_, _, hc1, hc2, congrArg (Value.int .i64) (by simp [rputF, *]), rfl, rfl⟩
  · try simp only [decide_eq_true_eq, decide_eq_false_iff_not, Bool.not_eq_true', Bool.not_eq_false', Bool.not_true, Bool.not_false, Bool.not_not, ne_eq, Decidable.not_not, Int.not_lt, Int.not_le, gt_iff_lt, ge_iff_le, bool_true_eq_, bool_false_eq_, resE_iff] at h1
    refine GC.skip (?_ : GC _ _ _ _)
    refine GC.seq' ?_
    refine GC.seq' ?_
    refine GC.region ?_
    refine GL.step rfl (t_mem rfl (m_loadN (i := 2) rfl rfl ag_29 (vs := [_, _]) sz_29 ⟨rfl, rfl, trivial⟩)) ?_
    refine GL.step rfl (t_call rfl fn_38 rfl (is := []) (js := []) rfl rfl (by exact rres_ct _ _ _ _)) (GL.ret ?_)
    rintro _ _ _ ⟨rfl, rfl, rfl⟩
    refine GL.pure rfl (p_neq rfl rfl) ?_
    refine GL.nil (?_ : GC _ _ _ _)
    refine GC.cond rfl (fun h2 => ?_) (fun h2 => ?_)
    · try simp only [decide_eq_true_eq, decide_eq_false_iff_not, Bool.not_eq_true', Bool.not_eq_false', Bool.not_true, Bool.not_false, Bool.not_not, ne_eq, Decidable.not_not, Int.not_lt, Int.not_le, gt_iff_lt, ge_iff_le, bool_true_eq_, bool_false_eq_, resE_iff] at h2
      refine GC.seq' ?_
      refine GC.region ?_
      refine GL.pure rfl (p_assign rfl) ?_
      refine GL.nil (?_ : GC _ _ _ _)
      refine GC.ret ?_
      refine fun a w h => Fin.back (rs := [.tmp 8]) (vs := [_]) (is := [1]) (js := [1]) rfl ⟨rfl, trivial⟩ rfl rfl ?_ h
      clear h
      have e : (rputF L cl se r).2 = L := by simp [rputF, *]
      rw [e]; exact ⟨_, _, hc1, hc2, congrArg (Value.int .i64) (by simp [rputF, *]), rfl, rfl⟩
    · try simp only [decide_eq_true_eq, decide_eq_false_iff_not, Bool.not_eq_true', Bool.not_eq_false', Bool.not_true, Bool.not_false, Bool.not_not, ne_eq, Decidable.not_not, Int.not_lt, Int.not_le, gt_iff_lt, ge_iff_le, bool_true_eq_, bool_false_eq_, resE_iff] at h2
      refine GC.skip (?_ : GC _ _ _ _)
      refine GC.seq' ?_
      refine GC.seq' ?_
      refine GC.region ?_
      refine GL.pure rfl (p_move rfl) ?_
      refine GL.pure rfl (p_eql rfl rfl) ?_
      refine GL.nil (?_ : GC _ _ _ _)
      refine GC.cond rfl (fun h3 => ?_) (fun h3 => ?_)
      · try simp only [decide_eq_true_eq, decide_eq_false_iff_not, Bool.not_eq_true', Bool.not_eq_false', Bool.not_true, Bool.not_false, Bool.not_not, ne_eq, Decidable.not_not, Int.not_lt, Int.not_le, gt_iff_lt, ge_iff_le, bool_true_eq_, bool_false_eq_, resE_iff] at h3
        refine GC.seq' ?_
        refine GC.region ?_
        refine GL.pure rfl (p_assign rfl) ?_
        refine GL.nil (?_ : GC _ _ _ _)
        refine GC.ret ?_
        refine fun a w h => Fin.back (rs := [.tmp 8]) (vs := [_]) (is := [1]) (js := [1]) rfl ⟨rfl, trivial⟩ rfl rfl ?_ h
        clear h
        have e : (rputF L cl se r).2 = L := by simp [rputF, *]
        rw [e]; exact ⟨_, _, hc1, hc2, congrArg (Value.int .i64) (by simp [rputF, *]), rfl, rfl⟩
      · try simp only [decide_eq_true_eq, decide_eq_false_iff_not, Bool.not_eq_true', Bool.not_eq_false', Bool.not_true, Bool.not_false, Bool.not_not, ne_eq, Decidable.not_not, Int.not_lt, Int.not_le, gt_iff_lt, ge_iff_le, bool_true_eq_, bool_false_eq_, resE_iff] at h3
        refine GC.skip (?_ : GC _ _ _ _)
        refine GC.seq' ?_
        refine GC.seq' ?_
        refine GC.region ?_
        refine GL.pure rfl (p_move rfl) ?_
        refine GL.pure rfl (p_neq rfl rfl) ?_
        refine GL.nil (?_ : GC _ _ _ _)
        refine GC.cond rfl (fun h4 => ?_) (fun h4 => ?_)
        · try simp only [decide_eq_true_eq, decide_eq_false_iff_not, Bool.not_eq_true', Bool.not_eq_false', Bool.not_true, Bool.not_false, Bool.not_not, ne_eq, Decidable.not_not, Int.not_lt, Int.not_le, gt_iff_lt, ge_iff_le, bool_true_eq_, bool_false_eq_, resE_iff] at h4
          refine GC.seq' ?_
          refine GC.region ?_
          refine GL.pure rfl (p_assign rfl) ?_
          refine GL.nil (?_ : GC _ _ _ _)
          refine GC.ret ?_
          refine fun a w h => Fin.back (rs := [.tmp 8]) (vs := [_]) (is := [1]) (js := [1]) rfl ⟨rfl, trivial⟩ rfl rfl ?_ h
          clear h
          have e : (rputF L cl se r).2 = L := by simp [rputF, *]
          rw [e]; exact ⟨_, _, hc1, hc2, congrArg (Value.int .i64) (by simp [rputF, *]), rfl, rfl⟩
        · try simp only [decide_eq_true_eq, decide_eq_false_iff_not, Bool.not_eq_true', Bool.not_eq_false', Bool.not_true, Bool.not_false, Bool.not_not, ne_eq, Decidable.not_not, Int.not_lt, Int.not_le, gt_iff_lt, ge_iff_le, bool_true_eq_, bool_false_eq_, resE_iff] at h4
          refine GC.skip (?_ : GC _ _ _ _)
          refine GC.seq' ?_
          refine GC.region ?_
          refine GL.pure rfl (p_move rfl) ?_
          refine GL.pure rfl (p_move rfl) ?_
          refine GL.step rfl (t_mem rfl (m_loadN (i := 2) rfl rfl ag_29 (vs := [_, _]) sz_29 ⟨rfl, rfl, trivial⟩)) ?_
          refine GL.pure rfl (p_build ze_68 of_68 rfl rfl) ?_
          refine GL.step rfl (t_alloc rfl ze_68) (GL.ex fun b_t12 => ?_)
          refine GL.step rfl (t_storeN (i := 0) rfl rfl rfl sz_68 rfl rfl rfl) ?_
          refine GL.nil (?_ : GC _ _ _ _)
          refine GC.seq' ?_
          refine GC.region ?_
          refine GL.pure rfl (p_assign rfl) ?_
          refine GL.nil (?_ : GC _ _ _ _)
          refine GC.seq' ?_
          refine GC.region ?_
          refine GL.nilrow 68 4 ?_
          refine GL.know (q := Pers.reps kRow [] []) (fun _ _ _ => rfl) ?_
          refine GL.pure rfl (p_assign rfl) ?_
          refine GL.nil (?_ : GC _ _ _ _)
          refine GC.seq' ?_
          refine GC.seq' ?_
          refine GC.region ?_
          refine GL.pure rfl (p_assign rfl) ?_
          refine GL.nil (?_ : GC _ _ _ _)
          refine GC.block ?_
          refine GC.loopK5 (ks := [0, 1, 12]) (is := [1, 2, 3, 4]) (js := [1, 2, 3]) (fun (k : Nat) (b : Bool) (n : Nat) (V : Value) (cs : List Value) => k ≤ L.length ∧ b = inA cl L k ∧ n = (accA ⟨cl, se, r⟩ L k).length) (fun (k : Nat) (b : Bool) (n : Nat) (V : Value) (cs : List Value) => [(13, V), (14, .bool b), (15, .int .i64 (k : Int))]) (fun (k : Nat) (b : Bool) (n : Nat) (V : Value) (cs : List Value) => [.row V 68 4 n cs]) (fun (k : Nat) (b : Bool) (n : Nat) (V : Value) (cs : List Value) => [Pers.reps kRow (accA ⟨cl, se, r⟩ L k) cs]) (fun (k : Nat) (b : Bool) (n : Nat) (V : Value) (cs : List Value) => L.length - k) (0) (false) (0) (_) ([]) rfl rfl rfl (fun a w h => ⟨⟨by omega, rfl, rfl⟩, h.cutK (is := [0, 0, 0, 0, 0]) (js := [0, 1, 2, 3]) (ks := [0, 1, 12]) (by exact ⟨rfl, rfl, rfl, trivial⟩) rfl rfl rfl⟩) ?_
          intro k b n V cs hk
          try dsimp only [List.cons_append, List.nil_append] at hk ⊢
          obtain ⟨hk, hb, hn⟩ := hk
          refine GC.seq' ?_
          refine GC.seq' ?_
          refine GC.region ?_
          refine GL.pure rfl (p_move rfl) ?_
          refine GL.pure rfl (p_move rfl) ?_
          refine GL.pure rfl (p_nilCheck rfl) ?_
          refine GL.pure rfl (p_fieldAddr fo_55_0 rfl) ?_
          refine GL.step rfl (t_mem rfl (m_load (i := 3) rfl rfl ag_47 rfl)) ?_
          refine GL.pure rfl (p_len Try.underlying47 rfl) ?_
          refine GL.pure rfl (p_lss rfl rfl) ?_
          refine GL.nil (?_ : GC _ _ _ _)
          refine GC.cond rfl (fun h5 => ?_) (fun h5 => ?_)
          · try simp only [decide_eq_true_eq, decide_eq_false_iff_not, Bool.not_eq_true', Bool.not_eq_false', Bool.not_true, Bool.not_false, Bool.not_not, ne_eq, Decidable.not_not, Int.not_lt, Int.not_le, gt_iff_lt, ge_iff_le, bool_true_eq_, bool_false_eq_, resE_iff] at h5
            refine GC.skip (?_ : GC _ _ _ _)
            refine GC.seq' ?_
            refine GC.block ?_
            refine GC.seq' ?_
            refine GC.seq' ?_
            refine GC.region ?_
            refine GL.pure rfl (p_move rfl) ?_
            refine GL.pure rfl (p_not rfl) ?_
            refine GL.pure rfl (p_move rfl) ?_
            refine GL.split (i := 49) rfl (fun h6 => ?_) (fun h6 => ?_)
            · try simp only [decide_eq_true_eq, decide_eq_false_iff_not, Bool.not_eq_true', Bool.not_eq_false', Bool.not_true, Bool.not_false, Bool.not_not, ne_eq, Decidable.not_not, Int.not_lt, Int.not_le, gt_iff_lt, ge_iff_le, bool_true_eq_, bool_false_eq_, resE_iff] at h6
              refine GL.pureG (s := 49) rfl rfl rfl (p_move rfl) ?_
              refine GL.pureG (s := 49) rfl rfl rfl (p_nilCheck rfl) ?_
              refine GL.pureG (s := 49) rfl rfl rfl (p_fieldAddr fo_55_0 rfl) ?_
              refine GL.stepG rfl (s := 49) rfl rfl (t_mem rfl (m_load (i := 3) rfl rfl ag_47 rfl)) ?_
              refine GL.pureG (s := 49) rfl rfl rfl (p_move rfl) ?_
              refine GL.stepG rfl (s := 49) rfl rfl (t_index (i := 2) rfl rfl rfl rfl Try.underlying47 sz_68 (by omega) (gt_ok (by omega) (by omega))) (GL.ex fun p_x55 => GL.ex fun r_x55 => GL.and fun ok_x55 => ?_)
              rcases r_x55 with ⟨_, ⟨_, ⟨_, ⟨Ax55_0, cpx55_0⟩⟩⟩⟩
              refine GL.pureG (s := 49) rfl rfl rfl (p_fieldAddr' fo_68_0 rfl) ?_
              refine GL.stepG rfl (s := 49) rfl rfl (t_mem rfl (m_loadP (i := 0) rfl rfl ag_3 rfl)) ?_
              refine GL.pureG (s := 49) rfl rfl rfl (p_move rfl) ?_
              refine GL.pureG (s := 49) rfl rfl rfl (p_geq rfl rfl) ?_
              refine GL.pure rfl (p_pick_true rfl rfl) ?_
              refine GL.nil (?_ : GC _ _ _ _)
              refine GC.cond rfl (fun h7 => ?_) (fun h7 => ?_)
              · try simp only [decide_eq_true_eq, decide_eq_false_iff_not, Bool.not_eq_true', Bool.not_eq_false', Bool.not_true, Bool.not_false, Bool.not_not, ne_eq, Decidable.not_not, Int.not_lt, Int.not_le, gt_iff_lt, ge_iff_le, bool_true_eq_, bool_false_eq_, resE_iff] at h7
                refine GC.seq' ?_
                refine GC.region ?_
                refine GL.pure rfl (p_move rfl) ?_
                refine GL.step rfl (t_mem rfl (m_loadN (i := 1) rfl rfl ag_68 (vs := [_, _, _, _]) sz_68 ⟨rfl, rfl, rfl, rfl, trivial⟩)) ?_
                refine GL.step rfl (t_buildSlice rfl Try.underlying47 sz_68 ze_68 rfl rfl rfl rfl rfl rfl) (GL.ex fun b_t63 => ?_)
                refine GL.snoc (j := 2) (js := [5]) (⟨cl, se, r⟩ : Row) ((), ((), ((), (B, cq)))) rfl rfl ⟨trivial, trivial, trivial, hd1, hd2⟩ ?_
                refine GL.step rfl (t_append (i := 1) (k := 0) rfl el_47 rfl rfl rfl rfl rfl (allOne_mem rfl) (by have := accA_le ⟨cl, se, r⟩ L L.length; have := accA_le ⟨cl, se, r⟩ L k; simp; omega) (fun _ => rfl)) (GL.ex fun v64 => ?_)
                refine GL.pure rfl (p_assign rfl) ?_
                refine GL.nil (?_ : GC _ _ _ _)
                refine GC.region ?_
                refine GL.pure rfl (p_assign rfl) ?_
                refine GL.nil (?_ : GC _ _ _ _)
                refine GC.seq' ?_
                refine GC.region ?_
                refine GL.pure rfl (p_move rfl) ?_
                refine GL.pure rfl (p_nilCheck rfl) ?_
                refine GL.pure rfl (p_fieldAddr fo_55_0 rfl) ?_
                refine GL.step rfl (t_mem rfl (m_load (i := 4) rfl rfl ag_47 rfl)) ?_
                refine GL.pure rfl (p_move rfl) ?_
                refine GL.step rfl (t_index (i := 5) rfl rfl rfl rfl Try.underlying47 sz_68 (by omega) (gt_ok (by omega) (by omega))) (GL.ex fun p_x70 => GL.ex fun r_x70 => GL.and fun ok_x70 => ?_)
                rcases r_x70 with ⟨_, ⟨_, ⟨_, ⟨Ax70_0, cpx70_0⟩⟩⟩⟩
                refine GL.pure rfl (p_fieldAddr' fo_68_0 rfl) ?_
                refine GL.step rfl (t_mem rfl (m_loadP (i := 0) rfl rfl ag_3 rfl)) ?_
                refine GL.pure rfl (p_move rfl) ?_
                refine GL.pure rfl (p_neq rfl rfl) ?_
                refine GL.nil (?_ : GC _ _ _ _)
                refine GC.cond rfl (fun h8 => ?_) (fun h8 => ?_)
                · try simp only [decide_eq_true_eq, decide_eq_false_iff_not, Bool.not_eq_true', Bool.not_eq_false', Bool.not_true, Bool.not_false, Bool.not_not, ne_eq, Decidable.not_not, Int.not_lt, Int.not_le, gt_iff_lt, ge_iff_le, bool_true_eq_, bool_false_eq_, resE_iff] at h8
                  refine GC.region ?_
                  refine GL.pure rfl (p_move rfl) ?_
                  refine GL.pure rfl (p_move rfl) ?_
                  refine GL.pure rfl (p_nilCheck rfl) ?_
                  refine GL.pure rfl (p_fieldAddr fo_55_0 rfl) ?_
                  refine GL.step rfl (t_mem rfl (m_load (i := 4) rfl rfl ag_47 rfl)) ?_
                  refine GL.pure rfl (p_move rfl) ?_
                  refine GL.step rfl (t_index (i := 7) rfl rfl rfl rfl Try.underlying47 sz_68 (by omega) (gt_ok (by omega) (by omega))) (GL.ex fun p_x81 => GL.ex fun r_x81 => GL.and fun ok_x81 => ?_)
                  rcases r_x81 with ⟨_, ⟨_, ⟨_, ⟨Ax81_0, cpx81_0⟩⟩⟩⟩
                  refine GL.step rfl (t_mem rfl (m_loadPN (i := 0) rfl rfl ag_68 (vs := [_, _, _, _]) sz_68 ⟨rfl, rfl, rfl, rfl, trivial⟩)) ?_
                  refine GL.step rfl (t_buildSlice rfl Try.underlying47 sz_68 ze_68 rfl rfl rfl rfl rfl rfl) (GL.ex fun b_t83 => ?_)
                  refine GL.snoc (j := 4) (js := [1]) (gt L (k : Int)) ((), ((), ((), (Ax81_0, cpx81_0)))) rfl rfl ok_x81 ?_
                  refine GL.step rfl (t_append (i := 2) (k := 0) rfl el_47 rfl rfl rfl rfl rfl (allOne_mem rfl) (by have := accA_le ⟨cl, se, r⟩ L L.length; have := accA_le ⟨cl, se, r⟩ L k; simp; omega) (fun _ => rfl)) (GL.ex fun v84 => ?_)
                  refine GL.pure rfl (p_assign rfl) ?_
                  refine GL.nil (?_ : GC _ _ _ _)
                  refine GC.region ?_
                  refine GL.pure rfl (p_move rfl) ?_
                  refine GL.pure rfl (p_add rfl rfl (w64 (by omega) (by omega))) ?_
                  refine GL.pure rfl (p_assign rfl) ?_
                  refine GL.nil ?_
                  have e : accA ⟨cl, se, r⟩ L (k + 1) = accA ⟨cl, se, r⟩ L k ++ [(⟨cl, se, r⟩ : Row)] ++ [gt L (k : Int)] := by subst hb; simp [accA, *] <;> omega
                  rw [← e]
                  exact fun a w h => ⟨(k + 1), (_), (_), (_), (_), (by omega), ⟨by omega, by subst hb; simp [inA, *] <;> omega, by rw [e]; simp [hn]⟩, h.cut (is := [2, 2, 2, 2, 2]) (js := [0, 9, 10, 11]) ⟨rfl, rfl, rfl, rfl, rfl, rfl, trivial⟩ rfl rfl⟩
                · try simp only [decide_eq_true_eq, decide_eq_false_iff_not, Bool.not_eq_true', Bool.not_eq_false', Bool.not_true, Bool.not_false, Bool.not_not, ne_eq, Decidable.not_not, Int.not_lt, Int.not_le, gt_iff_lt, ge_iff_le, bool_true_eq_, bool_false_eq_, resE_iff] at h8
                  refine GC.skip (?_ : GC _ _ _ _)
                  refine GC.region ?_
                  refine GL.pure rfl (p_move rfl) ?_
                  refine GL.pure rfl (p_add rfl rfl (w64 (by omega) (by omega))) ?_
                  refine GL.pure rfl (p_assign rfl) ?_
                  refine GL.nil ?_
                  have e : accA ⟨cl, se, r⟩ L (k + 1) = accA ⟨cl, se, r⟩ L k ++ [(⟨cl, se, r⟩ : Row)] := by subst hb; simp [accA, *] <;> omega
                  rw [← e]
                  exact fun a w h => ⟨(k + 1), (_), (_), (_), (_), (by omega), ⟨by omega, by subst hb; simp [inA, *] <;> omega, by rw [e]; simp [hn]⟩, h.cut (is := [1, 1, 1, 1, 1]) (js := [2, 6, 7, 8]) ⟨rfl, rfl, rfl, rfl, rfl, rfl, trivial⟩ rfl rfl⟩
              · try simp only [decide_eq_true_eq, decide_eq_false_iff_not, Bool.not_eq_true', Bool.not_eq_false', Bool.not_true, Bool.not_false, Bool.not_not, ne_eq, Decidable.not_not, Int.not_lt, Int.not_le, gt_iff_lt, ge_iff_le, bool_true_eq_, bool_false_eq_, resE_iff] at h7
                refine GC.skip (?_ : GC _ _ _ _)
                refine GC.seq' ?_
                refine GC.region ?_
                refine GL.pure rfl (p_move rfl) ?_
                refine GL.pure rfl (p_nilCheck rfl) ?_
                refine GL.pure rfl (p_fieldAddr fo_55_0 rfl) ?_
                refine GL.step rfl (t_mem rfl (m_load (i := 3) rfl rfl ag_47 rfl)) ?_
                refine GL.pure rfl (p_move rfl) ?_
                refine GL.step rfl (t_index (i := 4) rfl rfl rfl rfl Try.underlying47 sz_68 (by omega) (gt_ok (by omega) (by omega))) (GL.ex fun p_x70 => GL.ex fun r_x70 => GL.and fun ok_x70 => ?_)
                rcases r_x70 with ⟨_, ⟨_, ⟨_, ⟨Ax70_0, cpx70_0⟩⟩⟩⟩
                refine GL.pure rfl (p_fieldAddr' fo_68_0 rfl) ?_
                refine GL.step rfl (t_mem rfl (m_loadP (i := 0) rfl rfl ag_3 rfl)) ?_
                refine GL.pure rfl (p_move rfl) ?_
                refine GL.pure rfl (p_neq rfl rfl) ?_
                refine GL.nil (?_ : GC _ _ _ _)
                refine GC.cond rfl (fun h9 => ?_) (fun h9 => ?_)
                · try simp only [decide_eq_true_eq, decide_eq_false_iff_not, Bool.not_eq_true', Bool.not_eq_false', Bool.not_true, Bool.not_false, Bool.not_not, ne_eq, Decidable.not_not, Int.not_lt, Int.not_le, gt_iff_lt, ge_iff_le, bool_true_eq_, bool_false_eq_, resE_iff] at h9
                  refine GC.region ?_
                  refine GL.pure rfl (p_move rfl) ?_
                  refine GL.pure rfl (p_move rfl) ?_
                  refine GL.pure rfl (p_nilCheck rfl) ?_
                  refine GL.pure rfl (p_fieldAddr fo_55_0 rfl) ?_
                  refine GL.step rfl (t_mem rfl (m_load (i := 3) rfl rfl ag_47 rfl)) ?_
                  refine GL.pure rfl (p_move rfl) ?_
                  refine GL.step rfl (t_index (i := 6) rfl rfl rfl rfl Try.underlying47 sz_68 (by omega) (gt_ok (by omega) (by omega))) (GL.ex fun p_x81 => GL.ex fun r_x81 => GL.and fun ok_x81 => ?_)
                  rcases r_x81 with ⟨_, ⟨_, ⟨_, ⟨Ax81_0, cpx81_0⟩⟩⟩⟩
                  refine GL.step rfl (t_mem rfl (m_loadPN (i := 0) rfl rfl ag_68 (vs := [_, _, _, _]) sz_68 ⟨rfl, rfl, rfl, rfl, trivial⟩)) ?_
                  refine GL.step rfl (t_buildSlice rfl Try.underlying47 sz_68 ze_68 rfl rfl rfl rfl rfl rfl) (GL.ex fun b_t83 => ?_)
                  refine GL.snoc (j := 6) (js := [1]) (gt L (k : Int)) ((), ((), ((), (Ax81_0, cpx81_0)))) rfl rfl ok_x81 ?_
                  refine GL.step rfl (t_append (i := 1) (k := 0) rfl el_47 rfl rfl rfl rfl rfl (allOne_mem rfl) (by have := accA_le ⟨cl, se, r⟩ L L.length; have := accA_le ⟨cl, se, r⟩ L k; simp; omega) (fun _ => rfl)) (GL.ex fun v84 => ?_)
                  refine GL.pure rfl (p_assign rfl) ?_
                  refine GL.nil (?_ : GC _ _ _ _)
                  refine GC.region ?_
                  refine GL.pure rfl (p_move rfl) ?_
                  refine GL.pure rfl (p_add rfl rfl (w64 (by omega) (by omega))) ?_
                  refine GL.pure rfl (p_assign rfl) ?_
                  refine GL.nil ?_
                  have e : accA ⟨cl, se, r⟩ L (k + 1) = accA ⟨cl, se, r⟩ L k ++ [gt L (k : Int)] := by subst hb; simp [accA, *] <;> omega
                  rw [← e]
                  exact fun a w h => ⟨(k + 1), (_), (_), (_), (_), (by omega), ⟨by omega, by subst hb; simp [inA, *] <;> omega, by rw [e]; simp [hn]⟩, h.cut (is := [1, 1, 1, 1, 1]) (js := [0, 8, 9, 10]) ⟨rfl, rfl, rfl, rfl, rfl, rfl, trivial⟩ rfl rfl⟩
                · try simp only [decide_eq_true_eq, decide_eq_false_iff_not, Bool.not_eq_true', Bool.not_eq_false', Bool.not_true, Bool.not_false, Bool.not_not, ne_eq, Decidable.not_not, Int.not_lt, Int.not_le, gt_iff_lt, ge_iff_le, bool_true_eq_, bool_false_eq_, resE_iff] at h9
                  refine GC.skip (?_ : GC _ _ _ _)
                  refine GC.region ?_
                  refine GL.pure rfl (p_move rfl) ?_
                  refine GL.pure rfl (p_add rfl rfl (w64 (by omega) (by omega))) ?_
                  refine GL.pure rfl (p_assign rfl) ?_
                  refine GL.nil ?_
                  have e : accA ⟨cl, se, r⟩ L (k + 1) = accA ⟨cl, se, r⟩ L k := by subst hb; simp [accA, *] <;> omega
                  rw [← e]
                  exact fun a w h => ⟨(k + 1), (_), (_), (_), (_), (by omega), ⟨by omega, by subst hb; simp [inA, *] <;> omega, by rw [e]; simp [hn]⟩, h.cut (is := [0, 0, 0, 0, 0]) (js := [4, 5, 6, 7]) ⟨rfl, rfl, rfl, rfl, rfl, rfl, trivial⟩ rfl rfl⟩
            · try simp only [decide_eq_true_eq, decide_eq_false_iff_not, Bool.not_eq_true', Bool.not_eq_false', Bool.not_true, Bool.not_false, Bool.not_not, ne_eq, Decidable.not_not, Int.not_lt, Int.not_le, gt_iff_lt, ge_iff_le, bool_true_eq_, bool_false_eq_, resE_iff] at h6
              refine GL.pass (s := 49) rfl rfl rfl ?_
              refine GL.pass (s := 49) rfl rfl rfl ?_
              refine GL.pass (s := 49) rfl rfl rfl ?_
              refine GL.pass (s := 49) rfl rfl rfl ?_
              refine GL.pass (s := 49) rfl rfl rfl ?_
              refine GL.pass (s := 49) rfl rfl rfl ?_
              refine GL.pass (s := 49) rfl rfl rfl ?_
              refine GL.pass (s := 49) rfl rfl rfl ?_
              refine GL.pass (s := 49) rfl rfl rfl ?_
              refine GL.pass (s := 49) rfl rfl rfl ?_
              refine GL.pure rfl (p_pick_false rfl rfl) ?_
              refine GL.nil (?_ : GC _ _ _ _)
              refine GC.cond_false rfl ?_
              refine GC.skip (?_ : GC _ _ _ _)
              refine GC.seq' ?_
              refine GC.region ?_
              refine GL.pure rfl (p_move rfl) ?_
              refine GL.pure rfl (p_nilCheck rfl) ?_
              refine GL.pure rfl (p_fieldAddr fo_55_0 rfl) ?_
              refine GL.step rfl (t_mem rfl (m_load (i := 3) rfl rfl ag_47 rfl)) ?_
              refine GL.pure rfl (p_move rfl) ?_
              refine GL.step rfl (t_index (i := 2) rfl rfl rfl rfl Try.underlying47 sz_68 (by omega) (gt_ok (by omega) (by omega))) (GL.ex fun p_x70 => GL.ex fun r_x70 => GL.and fun ok_x70 => ?_)
              rcases r_x70 with ⟨_, ⟨_, ⟨_, ⟨Ax70_0, cpx70_0⟩⟩⟩⟩
              refine GL.pure rfl (p_fieldAddr' fo_68_0 rfl) ?_
              refine GL.step rfl (t_mem rfl (m_loadP (i := 0) rfl rfl ag_3 rfl)) ?_
              refine GL.pure rfl (p_move rfl) ?_
              refine GL.pure rfl (p_neq rfl rfl) ?_
              refine GL.nil (?_ : GC _ _ _ _)
              refine GC.cond rfl (fun h10 => ?_) (fun h10 => ?_)
              · try simp only [decide_eq_true_eq, decide_eq_false_iff_not, Bool.not_eq_true', Bool.not_eq_false', Bool.not_true, Bool.not_false, Bool.not_not, ne_eq, Decidable.not_not, Int.not_lt, Int.not_le, gt_iff_lt, ge_iff_le, bool_true_eq_, bool_false_eq_, resE_iff] at h10
                refine GC.region ?_
                refine GL.pure rfl (p_move rfl) ?_
                refine GL.pure rfl (p_move rfl) ?_
                refine GL.pure rfl (p_nilCheck rfl) ?_
                refine GL.pure rfl (p_fieldAddr fo_55_0 rfl) ?_
                refine GL.step rfl (t_mem rfl (m_load (i := 3) rfl rfl ag_47 rfl)) ?_
                refine GL.pure rfl (p_move rfl) ?_
                refine GL.step rfl (t_index (i := 4) rfl rfl rfl rfl Try.underlying47 sz_68 (by omega) (gt_ok (by omega) (by omega))) (GL.ex fun p_x81 => GL.ex fun r_x81 => GL.and fun ok_x81 => ?_)
                rcases r_x81 with ⟨_, ⟨_, ⟨_, ⟨Ax81_0, cpx81_0⟩⟩⟩⟩
                refine GL.step rfl (t_mem rfl (m_loadPN (i := 0) rfl rfl ag_68 (vs := [_, _, _, _]) sz_68 ⟨rfl, rfl, rfl, rfl, trivial⟩)) ?_
                refine GL.step rfl (t_buildSlice rfl Try.underlying47 sz_68 ze_68 rfl rfl rfl rfl rfl rfl) (GL.ex fun b_t83 => ?_)
                refine GL.snoc (j := 4) (js := [1]) (gt L (k : Int)) ((), ((), ((), (Ax81_0, cpx81_0)))) rfl rfl ok_x81 ?_
                refine GL.step rfl (t_append (i := 1) (k := 0) rfl el_47 rfl rfl rfl rfl rfl (allOne_mem rfl) (by have := accA_le ⟨cl, se, r⟩ L L.length; have := accA_le ⟨cl, se, r⟩ L k; simp; omega) (fun _ => rfl)) (GL.ex fun v84 => ?_)
                refine GL.pure rfl (p_assign rfl) ?_
                refine GL.nil (?_ : GC _ _ _ _)
                refine GC.region ?_
                refine GL.pure rfl (p_move rfl) ?_
                refine GL.pure rfl (p_add rfl rfl (w64 (by omega) (by omega))) ?_
                refine GL.pure rfl (p_assign rfl) ?_
                refine GL.nil ?_
                have e : accA ⟨cl, se, r⟩ L (k + 1) = accA ⟨cl, se, r⟩ L k ++ [gt L (k : Int)] := by subst hb; simp [accA, *] <;> omega
                rw [← e]
                exact fun a w h => ⟨(k + 1), (_), (_), (_), (_), (by omega), ⟨by omega, by subst hb; simp [inA, *] <;> omega, by rw [e]; simp [hn]⟩, h.cut (is := [1, 1, 1, 1, 1]) (js := [0, 6, 7, 8]) ⟨rfl, rfl, rfl, rfl, rfl, rfl, trivial⟩ rfl rfl⟩
              · try simp only [decide_eq_true_eq, decide_eq_false_iff_not, Bool.not_eq_true', Bool.not_eq_false', Bool.not_true, Bool.not_false, Bool.not_not, ne_eq, Decidable.not_not, Int.not_lt, Int.not_le, gt_iff_lt, ge_iff_le, bool_true_eq_, bool_false_eq_, resE_iff] at h10
                refine GC.skip (?_ : GC _ _ _ _)
                refine GC.region ?_
                refine GL.pure rfl (p_move rfl) ?_
                refine GL.pure rfl (p_add rfl rfl (w64 (by omega) (by omega))) ?_
                refine GL.pure rfl (p_assign rfl) ?_
                refine GL.nil ?_
                have e : accA ⟨cl, se, r⟩ L (k + 1) = accA ⟨cl, se, r⟩ L k := by subst hb; simp [accA, *] <;> omega
                rw [← e]
                exact fun a w h => ⟨(k + 1), (_), (_), (_), (_), (by omega), ⟨by omega, by subst hb; simp [inA, *] <;> omega, by rw [e]; simp [hn]⟩, h.cut (is := [0, 0, 0, 0, 0]) (js := [2, 3, 4, 5]) ⟨rfl, rfl, rfl, rfl, rfl, rfl, trivial⟩ rfl rfl⟩
          · try simp only [decide_eq_true_eq, decide_eq_false_iff_not, Bool.not_eq_true', Bool.not_eq_false', Bool.not_true, Bool.not_false, Bool.not_not, ne_eq, Decidable.not_not, Int.not_lt, Int.not_le, gt_iff_lt, ge_iff_le, bool_true_eq_, bool_false_eq_, resE_iff] at h5
            refine GC.exit (?_ : GC _ _ _ _)
            refine GC.seq' ?_
            refine GC.seq' ?_
            refine GC.region ?_
            refine GL.pure rfl (p_move rfl) ?_
            refine GL.pure rfl (p_not rfl) ?_
            refine GL.nil (?_ : GC _ _ _ _)
            refine GC.cond rfl (fun h11 => ?_) (fun h11 => ?_)
            · try simp only [decide_eq_true_eq, decide_eq_false_iff_not, Bool.not_eq_true', Bool.not_eq_false', Bool.not_true, Bool.not_false, Bool.not_not, ne_eq, Decidable.not_not, Int.not_lt, Int.not_le, gt_iff_lt, ge_iff_le, bool_true_eq_, bool_false_eq_, resE_iff] at h11
              refine GC.region ?_
              refine GL.pure rfl (p_move rfl) ?_
              refine GL.step rfl (t_mem rfl (m_loadN (i := 1) rfl rfl ag_68 (vs := [_, _, _, _]) sz_68 ⟨rfl, rfl, rfl, rfl, trivial⟩)) ?_
              refine GL.step rfl (t_buildSlice rfl Try.underlying47 sz_68 ze_68 rfl rfl rfl rfl rfl rfl) (GL.ex fun b_t89 => ?_)
              refine GL.snoc (j := 0) (js := [3]) (⟨cl, se, r⟩ : Row) ((), ((), ((), (B, cq)))) rfl rfl ⟨trivial, trivial, trivial, hd1, hd2⟩ ?_
              refine GL.step rfl (t_append (i := 1) (k := 0) rfl el_47 rfl rfl rfl rfl rfl (allOne_mem rfl) (by have := accA_le ⟨cl, se, r⟩ L L.length; have := accA_le ⟨cl, se, r⟩ L k; simp; omega) (fun _ => rfl)) (GL.ex fun v90 => ?_)
              refine GL.pure rfl (p_assign rfl) ?_
              refine GL.nil (?_ : GC _ _ _ _)
              refine GC.seq' ?_
              refine GC.region ?_
              obtain rfl : k = L.length := by omega
              have e : insL ⟨cl, se, r⟩ L = accA ⟨cl, se, r⟩ L L.length ++ [(⟨cl, se, r⟩ : Row)] := by subst hb; simp [insL, *]
              have en : n + 1 = (insL ⟨cl, se, r⟩ L).length := by rw [e]; simp [hn]
              rw [← e, en]
              refine GL.shape (i := 1) rfl (fun A_D c_D e_D l_D k_D => ?_)
              subst e_D
              refine GL.freezeR (i := 1) (j := 0) rfl rfl (by decide) ?_
              refine GL.pure rfl (p_move rfl) ?_
              refine GL.pure rfl (p_move rfl) ?_
              refine GL.pure rfl (p_nilCheck rfl) ?_
              refine GL.pure rfl (p_fieldAddr fo_55_0 rfl) ?_
              refine GL.step rfl (t_store (i := 3) rfl rfl rfl rfl sz_47 rfl rfl rfl) ?_
              refine GL.nil (?_ : GC _ _ _ _)
              refine GC.seq' ?_
              refine GC.region ?_
              refine GL.pure rfl (p_assign rfl) ?_
              refine GL.nil (?_ : GC _ _ _ _)
              refine GC.ret ?_
              refine fun a w h => Fin.back (rs := [.tmp 8]) (vs := [_]) (is := [3]) (js := [0]) rfl ⟨rfl, trivial⟩ rfl rfl ?_ h
              clear h
              have e : rputF L cl se r = (0, insL ⟨cl, se, r⟩ L) := by simp [rputF, *]
              rw [e]; exact ⟨_, _, l_D, k_D, rfl, rfl, rfl⟩
            · try simp only [decide_eq_true_eq, decide_eq_false_iff_not, Bool.not_eq_true', Bool.not_eq_false', Bool.not_true, Bool.not_false, Bool.not_not, ne_eq, Decidable.not_not, Int.not_lt, Int.not_le, gt_iff_lt, ge_iff_le, bool_true_eq_, bool_false_eq_, resE_iff] at h11
              refine GC.skip (?_ : GC _ _ _ _)
              refine GC.seq' ?_
              refine GC.region ?_
              obtain rfl : k = L.length := by omega
              have e : insL ⟨cl, se, r⟩ L = accA ⟨cl, se, r⟩ L L.length := by subst hb; simp [insL, *]
              have en : n = (insL ⟨cl, se, r⟩ L).length := by rw [e]; simp [hn]
              rw [← e, en]
              refine GL.shape (i := 0) rfl (fun A_D c_D e_D l_D k_D => ?_)
              subst e_D
              refine GL.freezeR (i := 0) (j := 0) rfl rfl (by decide) ?_
              refine GL.pure rfl (p_move rfl) ?_
              refine GL.pure rfl (p_move rfl) ?_
              refine GL.pure rfl (p_nilCheck rfl) ?_
              refine GL.pure rfl (p_fieldAddr fo_55_0 rfl) ?_
              refine GL.step rfl (t_store (i := 2) rfl rfl rfl rfl sz_47 rfl rfl rfl) ?_
              refine GL.nil (?_ : GC _ _ _ _)
              refine GC.seq' ?_
              refine GC.region ?_
              refine GL.pure rfl (p_assign rfl) ?_
              refine GL.nil (?_ : GC _ _ _ _)
              refine GC.ret ?_
              refine fun a w h => Fin.back (rs := [.tmp 8]) (vs := [_]) (is := [2]) (js := [0]) rfl ⟨rfl, trivial⟩ rfl rfl ?_ h
              clear h
              have e : rputF L cl se r = (0, insL ⟨cl, se, r⟩ L) := by simp [rputF, *]
              rw [e]; exact ⟨_, _, l_D, k_D, rfl, rfl, rfl⟩
end Go.Proofs.Ytipjpgjahmadiaa
