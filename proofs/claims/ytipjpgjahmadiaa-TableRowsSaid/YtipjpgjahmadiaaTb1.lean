/- THE TABLE (layer 6): contracts of its small functions. -/
import Derived.Test.YtipjpgjahmadiaaSxt
import Derived.Test.YtipjpgjahmadiaaSx10
set_option linter.unusedVariables false
set_option linter.unusedSimpArgs false
set_option maxRecDepth 100000
namespace Go.Proofs.Ytipjpgjahmadiaa
open Go Go.Sx Go.Proofs

/-- A number of a client, a serial. -/
def isNum (n : Int) : Bool := decide (1 ≤ n) && decide (n ≤ 4611686018427387904)

theorem isNum_t {n : Int} (h : 1 ≤ n) (h' : n ≤ 4611686018427387904) : isNum n = true := by simp [isNum, h, h']
theorem isNum_f {n : Int} (h : ¬ (1 ≤ n ∧ n ≤ 4611686018427387904)) : isNum n = false := by
  by_cases h1 : 1 ≤ n <;> simp [isNum, h1] at h ⊢; omega

theorem isNumber_ct (n : Int) : Ct Try.prog 26 [.int .i64 n] [] [] (fun v G Q => v = .bool (isNum n) ∧ G = [] ∧ Q = []) := by
  refine Ct.intro Try.func26 rfl rfl rfl (fun c hc => ?_)
  refine GC.seq' ?_
  refine GC.region ?_
  refine GL.pure rfl (p_assign rfl) ?_
  refine GL.nil (?_ : GC _ _ _ _)
  refine GC.seq' ?_
  refine GC.region ?_
  refine GL.pure rfl (p_move rfl) ?_
  refine GL.pure rfl (p_geq rfl rfl) ?_
  refine GL.pure rfl (p_move rfl) ?_
  refine GL.split (i := 5) rfl (fun h1 => ?_) (fun h1 => ?_)
  · try simp only [decide_eq_true_eq, decide_eq_false_iff_not, Bool.not_eq_true', Bool.not_eq_false', Bool.not_true, Bool.not_false, Bool.not_not, ne_eq, Decidable.not_not, Int.not_lt, Int.not_le, gt_iff_lt, ge_iff_le, bool_true_eq_, bool_false_eq_] at h1
    refine GL.pureG (s := 5) rfl rfl rfl (p_move rfl) ?_
    refine GL.pureG (s := 5) rfl rfl rfl (p_leq rfl rfl) ?_
    refine GL.pure rfl (p_pick_true rfl rfl) ?_
    refine GL.pure rfl (p_assign rfl) ?_
    refine GL.nil (?_ : GC _ _ _ _)
    refine GC.ret ?_
    refine fun a w h => Fin.back (rs := [.tmp 2]) (vs := [_]) (is := []) (js := []) rfl ⟨rfl, trivial⟩ rfl rfl ?_ h
    clear h
    refine ⟨congrArg Value.bool ?_, rfl, rfl⟩; simp [isNum]; omega
  · try simp only [decide_eq_true_eq, decide_eq_false_iff_not, Bool.not_eq_true', Bool.not_eq_false', Bool.not_true, Bool.not_false, Bool.not_not, ne_eq, Decidable.not_not, Int.not_lt, Int.not_le, gt_iff_lt, ge_iff_le, bool_true_eq_, bool_false_eq_] at h1
    refine GL.pass (s := 5) rfl rfl rfl ?_
    refine GL.pass (s := 5) rfl rfl rfl ?_
    refine GL.pure rfl (p_pick_false rfl rfl) ?_
    refine GL.pure rfl (p_assign rfl) ?_
    refine GL.nil (?_ : GC _ _ _ _)
    refine GC.ret ?_
    refine fun a w h => Fin.back (rs := [.tmp 2]) (vs := [_]) (is := []) (js := []) rfl ⟨rfl, trivial⟩ rfl rfl ?_ h
    clear h
    refine ⟨congrArg Value.bool ?_, rfl, rfl⟩; simp [isNum]; omega

theorem made_ct (p m : Nat) : Ct Try.prog 25 [.pointer (some ⟨p, 0, none⟩)] [.cells p [.map (some m)] 43] [] (fun v G Q => v = .bool true ∧ G = [.cells p [.map (some m)] 43] ∧ Q = []) := by
  refine Ct.intro Try.func25 rfl rfl rfl (fun c hc => ?_)
  refine GC.seq' ?_
  refine GC.region ?_
  refine GL.pure rfl (p_assign rfl) ?_
  refine GL.nil (?_ : GC _ _ _ _)
  refine GC.seq' ?_
  refine GC.region ?_
  refine GL.pure rfl (p_move rfl) ?_
  refine GL.pure rfl (p_pnil_neq Try.underlying24 rfl rfl) ?_
  refine GL.pure rfl (p_move rfl) ?_
  refine GL.pureG (s := 5) rfl rfl rfl (p_move rfl) ?_
  refine GL.pureG (s := 5) rfl rfl rfl (p_nilCheck rfl) ?_
  refine GL.pureG (s := 5) rfl rfl rfl (p_fieldAddr fo_43_0 rfl) ?_
  refine GL.stepG rfl (s := 5) rfl rfl (t_mem rfl (m_load (i := 0) rfl rfl ag_41 rfl)) ?_
  refine GL.pureG (s := 5) rfl rfl rfl (p_mapnil_neq Try.underlying41 rfl rfl) ?_
  refine GL.pure rfl (p_pick_true rfl rfl) ?_
  refine GL.pure rfl (p_assign rfl) ?_
  refine GL.nil (?_ : GC _ _ _ _)
  refine GC.ret ?_
  refine fun a w h => Fin.back (rs := [.tmp 2]) (vs := [_]) (is := [0]) (js := []) rfl ⟨rfl, trivial⟩ rfl rfl ?_ h
  clear h
  exact ⟨rfl, rfl, rfl⟩

theorem clone_ct (A : Option Addr) (xs : List UInt8) (cp : Nat) (hx : xs.length ≤ 140737488355328) : Ct Try.prog 39 [.slice A xs.length cp] [] [Pers.row Kd.u8 A xs]
    (fun v G Q => ∃ A' cp', xs.length ≤ cp' ∧ cp' ≤ 9223372036854775807 ∧ v = .slice A' xs.length cp' ∧ G = [.row (.slice A' xs.length cp') 5 1 xs.length (xs.map u8v)] ∧ Q = []) := by
  cases A with
  | none =>
    refine Ct.pure (fun w S h => row_none (h.per _ (List.mem_singleton.2 rfl))) fun hx0 => ?_
    subst hx0
    refine Ct.intro Try.func39 rfl rfl rfl (fun c hc => ?_)
    refine GC.seq' ?_
    refine GC.region ?_
    refine GL.pure rfl (p_assign rfl) ?_
    refine GL.nil (?_ : GC _ _ _ _)
    refine GC.seq' ?_
    refine GC.seq' ?_
    refine GC.region ?_
    refine GL.pure rfl (p_move rfl) ?_
    refine GL.pure rfl (p_slnil_eql Try.underlying27 rfl rfl) ?_
    refine GL.nil (?_ : GC _ _ _ _)
    refine GC.cond_true rfl ?_
    refine GC.seq' ?_
    refine GC.region ?_
    refine GL.pure rfl (p_assign rfl) ?_
    refine GL.nil (?_ : GC _ _ _ _)
    refine GC.nilrow 5 1 ?_
    refine GC.ret ?_
    refine fun a w h => Fin.back (rs := [.tmp 2]) (vs := [_]) (is := [0]) (js := []) rfl ⟨rfl, trivial⟩ rfl rfl ?_ h
    clear h
    exact ⟨_, _, by simp, by simp, rfl, rfl, rfl⟩
  | some a =>
    refine Ct.intro Try.func39 rfl rfl rfl (fun c hc => ?_)
    refine GC.seq' ?_
    refine GC.region ?_
    refine GL.pure rfl (p_assign rfl) ?_
    refine GL.nil (?_ : GC _ _ _ _)
    refine GC.seq' ?_
    refine GC.seq' ?_
    refine GC.region ?_
    refine GL.pure rfl (p_move rfl) ?_
    refine GL.pure rfl (p_slnil_eql Try.underlying27 rfl rfl) ?_
    refine GL.nil (?_ : GC _ _ _ _)
    refine GC.cond_false rfl ?_
    refine GC.skip (?_ : GC _ _ _ _)
    refine GC.seq' ?_
    refine GC.region ?_
    refine GL.step rfl (t_buildSlice rfl Try.underlying27 sz_5 ze_5 rfl rfl rfl rfl rfl rfl) (GL.ex fun b_t5 => ?_)
    refine GL.pure rfl (p_move rfl) ?_
    refine GL.torow (i := 0) (m := 0) (sz := 1) rfl rfl (by decide) rfl ?_
    refine GL.step rfl (t_appendS (i := 0) (k := 0) rfl el_27 rfl rfl rfl rfl (by simp; omega) (fun _ => rfl)) (GL.ex fun v7 => ?_)
    refine GL.pure rfl (p_assign rfl) ?_
    refine GL.nil (?_ : GC _ _ _ _)
    refine GC.shape (i := 0) rfl (fun A1 c1 e1 l1 l2 => ?_)
    subst e1
    simp only [Nat.zero_add, List.nil_append] at l1 ⊢
    refine GC.ret ?_
    refine fun a w h => Fin.back (rs := [.tmp 2]) (vs := [_]) (is := [0]) (js := []) rfl ⟨rfl, trivial⟩ rfl rfl ?_ h
    clear h
    exact ⟨_, _, l1, l2, rfl, rfl, rfl⟩

/-- own: a result with bytes of its own. -/
theorem own_ct (code : Int) (A : Option Addr) (xs : List UInt8) (cp : Nat) (hx : xs.length ≤ 140737488351232) : Ct Try.prog 24 [.agg #[.int .u8 code, .slice A xs.length cp]] [] [Pers.row Kd.u8 A xs]
    (fun v G Q => ∃ A' cp', xs.length ≤ cp' ∧ cp' ≤ 9223372036854775807 ∧ v = .agg #[.int .u8 code, .slice A' xs.length cp'] ∧ G = [.row (.slice A' xs.length cp') 5 1 xs.length (xs.map u8v)] ∧ Q = []) := by
  refine Ct.intro Try.func24 rfl rfl rfl (fun c hc => ?_)
  refine GC.seq' ?_
  refine GC.region ?_
  refine GL.step rfl (t_box rfl rfl rfl) (GL.ex fun b_t1 => ?_)
  refine GL.step rfl (t_alloc rfl ze_29) (GL.ex fun b_t2 => ?_)
  refine GL.nil (?_ : GC _ _ _ _)
  refine GC.seq' ?_
  refine GC.region ?_
  refine GL.pure rfl (p_fieldAddr fo_29_1 rfl) ?_
  refine GL.step rfl (t_mem rfl (m_load (i := 1) rfl rfl ag_27 rfl)) ?_
  refine GL.step rfl (t_call rfl fn_39 rfl (is := []) (js := [0]) rfl rfl (by exact clone_ct _ _ _ (by omega))) (GL.ret ?_)
  rintro _ _ _ ⟨A5, cp5, l5, k5, rfl, rfl, rfl⟩
  refine GL.pure rfl (p_fieldAddr fo_29_1 rfl) ?_
  refine GL.step rfl (t_store (i := 2) rfl rfl rfl rfl sz_27 rfl rfl rfl) ?_
  refine GL.nil (?_ : GC _ _ _ _)
  refine GC.seq' ?_
  refine GC.region ?_
  refine GL.step rfl (t_mem rfl (m_loadN (i := 2) rfl rfl ag_29 (vs := [_, _]) sz_29 ⟨rfl, rfl, trivial⟩)) ?_
  refine GL.step rfl (t_storeN (i := 1) rfl rfl rfl sz_29 rfl rfl rfl) ?_
  refine GL.nil (?_ : GC _ _ _ _)
  refine GC.ret ?_
  refine fun a w h => Fin.back (rs := [.cell 2 29]) (vs := [_]) (is := [0]) (js := []) rfl ⟨⟨1, _, _, _, _, rfl, rfl, .inr ⟨[_, _], rfl, ag_29, sz_29, ⟨rfl, rfl, trivial⟩⟩⟩, trivial⟩ rfl rfl ?_ h
  clear h
  exact ⟨_, _, by assumption, by assumption, rfl, rfl, rfl⟩

/-! ### which requests were done -/
def rz : Res := ⟨0, []⟩
/-- What a table tells of a request. -/
def askF (T : List (Int × Last)) (c s : Int) : Int × Res × Int :=
  if isNum c = false ∨ isNum s = false then (0, rz, 5)
  else match mget T c with
    | none => if (T.length : Int) = 64 then (4, rz, 0) else (1, rz, 0)
    | some l => if s > l.serial then (1, rz, 0) else if s < l.serial then (3, rz, 0) else (2, l.result, 0)

/-- No result is too long. -/
def TabOk (T : List (Int × Last)) : Prop := ∀ k l, mget T k = some l → l.result.data.length ≤ 262144

abbrev tabG (p m : Nat) (es : Array MapEntry) (ck : Nat) : List Own := [.cells p [.map (some m)] 43, .blk m (.map es ck)]
abbrev resV' (v : Int) (r : Res) (A : Option Addr) (cp : Nat) (e : Int) : Value := .tuple #[.int .i64 v, .agg #[.int .u8 r.code, .slice A r.data.length cp], .int .i64 e]

theorem ask_ct (p m : Nat) (es : Array MapEntry) (ck : Nat) (T : List (Int × Last)) (cl se : Int) (hT : TabOk T) :
    Ct Try.prog 11 [.pointer (some ⟨p, 0, none⟩), .int .i64 cl, .int .i64 se] (tabG p m es ck) [Pers.map kLast true T es ck]
      (fun v G Q => ∃ A cp, (askF T cl se).2.1.data.length ≤ cp ∧ cp ≤ 9223372036854775807 ∧ v = resV' (askF T cl se).1 (askF T cl se).2.1 A cp (askF T cl se).2.2 ∧ G = tabG p m es ck ∧ Q = [Pers.row Kd.u8 A (askF T cl se).2.1.data]) := by
  refine Ct.intro Try.func11 rfl rfl rfl (fun c hc => ?_)
  refine GC.seq' ?_
  refine GC.region ?_
  refine GL.pure rfl (p_assign rfl) ?_
  refine GL.step rfl (t_alloc rfl ze_29) (GL.ex fun b_t7 => ?_)
  refine GL.pure rfl (p_assign rfl) ?_
  refine GL.nil (?_ : GC _ _ _ _)
  refine GC.seq' ?_
  refine GC.seq' ?_
  refine GC.region ?_
  refine GL.pure rfl (p_move rfl) ?_
  refine GL.step rfl (t_call rfl fn_25 rfl (is := [1]) (js := []) rfl rfl (by exact made_ct _ _)) (GL.ret ?_)
  rintro _ _ _ ⟨rfl, rfl, rfl⟩
  refine GL.pure rfl (p_not rfl) ?_
  refine GL.nil (?_ : GC _ _ _ _)
  refine GC.cond_false rfl ?_
  refine GC.skip (?_ : GC _ _ _ _)
  refine GC.seq' ?_
  refine GC.seq' ?_
  refine GC.region ?_
  refine GL.pure rfl (p_move rfl) ?_
  refine GL.step rfl (t_call rfl fn_26 rfl (is := []) (js := []) rfl rfl (by exact isNumber_ct _)) (GL.ret ?_)
  rintro _ _ _ ⟨rfl, rfl, rfl⟩
  refine GL.pure rfl (p_not rfl) ?_
  refine GL.pure rfl (p_move rfl) ?_
  refine GL.split (i := 18) rfl (fun h1 => ?_) (fun h1 => ?_)
  · try simp only [decide_eq_true_eq, decide_eq_false_iff_not, Bool.not_eq_true', Bool.not_eq_false', Bool.not_true, Bool.not_false, Bool.not_not, ne_eq, Decidable.not_not, Int.not_lt, Int.not_le, gt_iff_lt, ge_iff_le, bool_true_eq_, bool_false_eq_] at h1
    refine GL.pass (s := 18) rfl rfl rfl ?_
    refine GL.pass (s := 18) rfl rfl rfl ?_
    refine GL.pass (s := 18) rfl rfl rfl ?_
    refine GL.pure rfl (p_pick_true rfl rfl) ?_
    refine GL.nil (?_ : GC _ _ _ _)
    refine GC.cond_true rfl ?_
    refine GC.seq' ?_
    refine GC.region ?_
    refine GL.pure rfl (p_build ze_29 of_29 rfl rfl) ?_
    refine GL.pure rfl (p_assign rfl) ?_
    refine GL.step rfl (t_storeN (i := 1) rfl rfl rfl sz_29 rfl rfl rfl) ?_
    refine GL.pure rfl (p_assign rfl) ?_
    refine GL.nil (?_ : GC _ _ _ _)
    refine GC.know (q := Pers.row Kd.u8 none []) (fun _ _ _ => .inl rfl) ?_
    refine GC.ret ?_
    refine fun a w h => Fin.back (rs := [.tmp 6, .cell 7 29, .tmp 8]) (vs := [_, _, _]) (is := [0, 1]) (js := [0]) rfl ⟨rfl, ⟨1, _, _, _, _, rfl, rfl, .inr ⟨[_, _], rfl, ag_29, sz_29, ⟨rfl, rfl, trivial⟩⟩⟩, rfl, trivial⟩ rfl rfl ?_ h
    clear h
    have e : askF T cl se = (0, rz, 5) := by simp [askF, *]
    rw [e]; exact ⟨none, 0, by simp [rz], by simp, rfl, rfl, rfl⟩
  · try simp only [decide_eq_true_eq, decide_eq_false_iff_not, Bool.not_eq_true', Bool.not_eq_false', Bool.not_true, Bool.not_false, Bool.not_not, ne_eq, Decidable.not_not, Int.not_lt, Int.not_le, gt_iff_lt, ge_iff_le, bool_true_eq_, bool_false_eq_] at h1
    refine GL.pureG (s := 18) rfl rfl rfl (p_move rfl) ?_
    refine GL.stepG rfl (s := 18) rfl rfl (t_call rfl fn_26 rfl (is := []) (js := []) rfl rfl (by exact isNumber_ct _)) (GL.ret ?_)
    rintro _ _ _ ⟨rfl, rfl, rfl⟩
    refine GL.pureG (s := 18) rfl rfl rfl (p_not rfl) ?_
    refine GL.pure rfl (p_pick_false rfl rfl) ?_
    refine GL.nil (?_ : GC _ _ _ _)
    refine GC.cond rfl (fun h2 => ?_) (fun h2 => ?_)
    · try simp only [decide_eq_true_eq, decide_eq_false_iff_not, Bool.not_eq_true', Bool.not_eq_false', Bool.not_true, Bool.not_false, Bool.not_not, ne_eq, Decidable.not_not, Int.not_lt, Int.not_le, gt_iff_lt, ge_iff_le, bool_true_eq_, bool_false_eq_] at h2
      refine GC.seq' ?_
      refine GC.region ?_
      refine GL.pure rfl (p_build ze_29 of_29 rfl rfl) ?_
      refine GL.pure rfl (p_assign rfl) ?_
      refine GL.step rfl (t_storeN (i := 1) rfl rfl rfl sz_29 rfl rfl rfl) ?_
      refine GL.pure rfl (p_assign rfl) ?_
      refine GL.nil (?_ : GC _ _ _ _)
      refine GC.know (q := Pers.row Kd.u8 none []) (fun _ _ _ => .inl rfl) ?_
      refine GC.ret ?_
      refine fun a w h => Fin.back (rs := [.tmp 6, .cell 7 29, .tmp 8]) (vs := [_, _, _]) (is := [0, 1]) (js := [0]) rfl ⟨rfl, ⟨1, _, _, _, _, rfl, rfl, .inr ⟨[_, _], rfl, ag_29, sz_29, ⟨rfl, rfl, trivial⟩⟩⟩, rfl, trivial⟩ rfl rfl ?_ h
      clear h
      have e : askF T cl se = (0, rz, 5) := by simp [askF, *]
      rw [e]; exact ⟨none, 0, by simp [rz], by simp, rfl, rfl, rfl⟩
    · try simp only [decide_eq_true_eq, decide_eq_false_iff_not, Bool.not_eq_true', Bool.not_eq_false', Bool.not_true, Bool.not_false, Bool.not_not, ne_eq, Decidable.not_not, Int.not_lt, Int.not_le, gt_iff_lt, ge_iff_le, bool_true_eq_, bool_false_eq_] at h2
      refine GC.skip (?_ : GC _ _ _ _)
      refine GC.seq' ?_
      refine GC.region ?_
      refine GL.pure rfl (p_move rfl) ?_
      refine GL.pure rfl (p_nilCheck rfl) ?_
      refine GL.pure rfl (p_fieldAddr fo_43_0 rfl) ?_
      refine GL.step rfl (t_mem rfl (m_load (i := 0) rfl rfl ag_41 rfl)) ?_
      refine GL.pure rfl (p_move rfl) ?_
      refine GL.step rfl (t_lookup (i := 2) (j := 0) rfl rfl rfl rfl rfl Try.underlying41 Try.underlying3 ze_64 zb_64) (GL.or (GL.and fun n_m30 => ?_) (GL.ex fun u_m30 => GL.ex fun r_m30 => GL.and fun s_m30 => GL.and fun ok_m30 => ?_))
      · refine GL.pure rfl (p_move rfl) ?_
        refine GL.pure rfl (p_extract rfl rfl) ?_
        refine GL.pure rfl (p_extract rfl rfl) ?_
        refine GL.step rfl (t_alloc rfl ze_64) (GL.ex fun b_t9 => ?_)
        refine GL.step rfl (t_storeN (i := 0) rfl rfl rfl sz_64 rfl rfl rfl) ?_
        refine GL.pure rfl (p_assign rfl) ?_
        refine GL.nil (?_ : GC _ _ _ _)
        refine GC.seq' ?_
        refine GC.block ?_
        refine GC.seq' ?_
        refine GC.region ?_
        refine GL.pure rfl (p_move rfl) ?_
        refine GL.pure rfl (p_not rfl) ?_
        refine GL.pure rfl (p_move rfl) ?_
        refine GL.pureG (s := 36) rfl rfl rfl (p_move rfl) ?_
        refine GL.pureG (s := 36) rfl rfl rfl (p_nilCheck rfl) ?_
        refine GL.pureG (s := 36) rfl rfl rfl (p_fieldAddr fo_43_0 rfl) ?_
        refine GL.stepG rfl (s := 36) rfl rfl (t_mem rfl (m_load (i := 1) rfl rfl ag_41 rfl)) ?_
        refine GL.stepG rfl (s := 36) rfl rfl (t_mem rfl (m_lenmap (i := 3) (j := 0) rfl rfl rfl Try.underlying41)) ?_
        refine GL.pureG (s := 36) rfl rfl rfl (p_eql rfl rfl) ?_
        refine GL.pure rfl (p_pick_true rfl rfl) ?_
        refine GL.pure rfl (p_assign rfl) ?_
        refine GL.nil (?_ : GC _ _ _ _)
        refine GC.cond rfl (fun h3 => ?_) (fun h3 => ?_)
        · try simp only [decide_eq_true_eq, decide_eq_false_iff_not, Bool.not_eq_true', Bool.not_eq_false', Bool.not_true, Bool.not_false, Bool.not_not, ne_eq, Decidable.not_not, Int.not_lt, Int.not_le, gt_iff_lt, ge_iff_le, bool_true_eq_, bool_false_eq_] at h3
          refine GC.seq' ?_
          refine GC.region ?_
          refine GL.pure rfl (p_build ze_29 of_29 rfl rfl) ?_
          refine GL.pure rfl (p_assign rfl) ?_
          refine GL.step rfl (t_storeN (i := 2) rfl rfl rfl sz_29 rfl rfl rfl) ?_
          refine GL.pure rfl (p_assign rfl) ?_
          refine GL.nil (?_ : GC _ _ _ _)
          refine GC.know (q := Pers.row Kd.u8 none []) (fun _ _ _ => .inl rfl) ?_
          refine GC.ret ?_
          refine fun a w h => Fin.back (rs := [.tmp 6, .cell 7 29, .tmp 8]) (vs := [_, _, _]) (is := [1, 2]) (js := [0]) rfl ⟨rfl, ⟨2, _, _, _, _, rfl, rfl, .inr ⟨[_, _], rfl, ag_29, sz_29, ⟨rfl, rfl, trivial⟩⟩⟩, rfl, trivial⟩ rfl rfl ?_ h
          clear h
          have e : askF T cl se = (4, rz, 0) := by simp [askF, *]
          rw [e]; exact ⟨none, 0, by simp [rz], by simp, rfl, rfl, rfl⟩
        · try simp only [decide_eq_true_eq, decide_eq_false_iff_not, Bool.not_eq_true', Bool.not_eq_false', Bool.not_true, Bool.not_false, Bool.not_not, ne_eq, Decidable.not_not, Int.not_lt, Int.not_le, gt_iff_lt, ge_iff_le, bool_true_eq_, bool_false_eq_] at h3
          refine GC.seq' ?_
          refine GC.region ?_
          refine GL.pure rfl (p_move rfl) ?_
          refine GL.pure rfl (p_not rfl) ?_
          refine GL.pure rfl (p_move rfl) ?_
          refine GL.pass (s := 48) rfl rfl rfl ?_
          refine GL.pass (s := 48) rfl rfl rfl ?_
          refine GL.pass (s := 48) rfl rfl rfl ?_
          refine GL.pass (s := 48) rfl rfl rfl ?_
          refine GL.pure rfl (p_pick_true rfl rfl) ?_
          refine GL.pure rfl (p_assign rfl) ?_
          refine GL.nil (?_ : GC _ _ _ _)
          refine GC.cond_true rfl ?_
          refine GC.seq' ?_
          refine GC.region ?_
          refine GL.pure rfl (p_build ze_29 of_29 rfl rfl) ?_
          refine GL.pure rfl (p_assign rfl) ?_
          refine GL.step rfl (t_storeN (i := 2) rfl rfl rfl sz_29 rfl rfl rfl) ?_
          refine GL.pure rfl (p_assign rfl) ?_
          refine GL.nil (?_ : GC _ _ _ _)
          refine GC.know (q := Pers.row Kd.u8 none []) (fun _ _ _ => .inl rfl) ?_
          refine GC.ret ?_
          refine fun a w h => Fin.back (rs := [.tmp 6, .cell 7 29, .tmp 8]) (vs := [_, _, _]) (is := [1, 2]) (js := [0]) rfl ⟨rfl, ⟨2, _, _, _, _, rfl, rfl, .inr ⟨[_, _], rfl, ag_29, sz_29, ⟨rfl, rfl, trivial⟩⟩⟩, rfl, trivial⟩ rfl rfl ?_ h
          clear h
          have e : askF T cl se = (1, rz, 0) := by simp [askF, *]
          rw [e]; exact ⟨none, 0, by simp [rz], by simp, rfl, rfl, rfl⟩
      · rcases r_m30 with ⟨_, ⟨_, ⟨Am30_0, cpm30_0⟩⟩⟩
        refine GL.pure rfl (p_move rfl) ?_
        refine GL.pure rfl (p_extract rfl rfl) ?_
        refine GL.pure rfl (p_extract rfl rfl) ?_
        refine GL.step rfl (t_alloc rfl ze_64) (GL.ex fun b_t9 => ?_)
        refine GL.step rfl (t_storeN (i := 0) rfl rfl rfl sz_64 rfl rfl rfl) ?_
        refine GL.pure rfl (p_assign rfl) ?_
        refine GL.nil (?_ : GC _ _ _ _)
        refine GC.seq' ?_
        refine GC.block ?_
        refine GC.seq' ?_
        refine GC.region ?_
        refine GL.pure rfl (p_move rfl) ?_
        refine GL.pure rfl (p_not rfl) ?_
        refine GL.pure rfl (p_move rfl) ?_
        refine GL.pass (s := 36) rfl rfl rfl ?_
        refine GL.pass (s := 36) rfl rfl rfl ?_
        refine GL.pass (s := 36) rfl rfl rfl ?_
        refine GL.pass (s := 36) rfl rfl rfl ?_
        refine GL.pass (s := 36) rfl rfl rfl ?_
        refine GL.pass (s := 36) rfl rfl rfl ?_
        refine GL.pure rfl (p_pick_false rfl rfl) ?_
        refine GL.pure rfl (p_assign rfl) ?_
        refine GL.nil (?_ : GC _ _ _ _)
        refine GC.cond_false rfl ?_
        refine GC.seq' ?_
        refine GC.region ?_
        refine GL.pure rfl (p_move rfl) ?_
        refine GL.pure rfl (p_not rfl) ?_
        refine GL.pure rfl (p_move rfl) ?_
        refine GL.pureG (s := 48) rfl rfl rfl (p_move rfl) ?_
        refine GL.pureG (s := 48) rfl rfl rfl (p_fieldAddr fo_64_0 rfl) ?_
        refine GL.stepG rfl (s := 48) rfl rfl (t_mem rfl (m_load (i := 0) rfl rfl ag_3 rfl)) ?_
        refine GL.pureG (s := 48) rfl rfl rfl (p_gtr rfl rfl) ?_
        refine GL.pure rfl (p_pick_false rfl rfl) ?_
        refine GL.pure rfl (p_assign rfl) ?_
        refine GL.nil (?_ : GC _ _ _ _)
        refine GC.cond rfl (fun h4 => ?_) (fun h4 => ?_)
        · try simp only [decide_eq_true_eq, decide_eq_false_iff_not, Bool.not_eq_true', Bool.not_eq_false', Bool.not_true, Bool.not_false, Bool.not_not, ne_eq, Decidable.not_not, Int.not_lt, Int.not_le, gt_iff_lt, ge_iff_le, bool_true_eq_, bool_false_eq_] at h4
          refine GC.seq' ?_
          refine GC.region ?_
          refine GL.pure rfl (p_build ze_29 of_29 rfl rfl) ?_
          refine GL.pure rfl (p_assign rfl) ?_
          refine GL.step rfl (t_storeN (i := 2) rfl rfl rfl sz_29 rfl rfl rfl) ?_
          refine GL.pure rfl (p_assign rfl) ?_
          refine GL.nil (?_ : GC _ _ _ _)
          refine GC.know (q := Pers.row Kd.u8 none []) (fun _ _ _ => .inl rfl) ?_
          refine GC.ret ?_
          refine fun a w h => Fin.back (rs := [.tmp 6, .cell 7 29, .tmp 8]) (vs := [_, _, _]) (is := [1, 2]) (js := [0]) rfl ⟨rfl, ⟨2, _, _, _, _, rfl, rfl, .inr ⟨[_, _], rfl, ag_29, sz_29, ⟨rfl, rfl, trivial⟩⟩⟩, rfl, trivial⟩ rfl rfl ?_ h
          clear h
          have e : askF T cl se = (1, rz, 0) := by simp [askF, *]
          rw [e]; exact ⟨none, 0, by simp [rz], by simp, rfl, rfl, rfl⟩
        · try simp only [decide_eq_true_eq, decide_eq_false_iff_not, Bool.not_eq_true', Bool.not_eq_false', Bool.not_true, Bool.not_false, Bool.not_not, ne_eq, Decidable.not_not, Int.not_lt, Int.not_le, gt_iff_lt, ge_iff_le, bool_true_eq_, bool_false_eq_] at h4
          refine GC.seq' ?_
          refine GC.region ?_
          refine GL.pure rfl (p_move rfl) ?_
          refine GL.pure rfl (p_fieldAddr fo_64_0 rfl) ?_
          refine GL.step rfl (t_mem rfl (m_load (i := 0) rfl rfl ag_3 rfl)) ?_
          refine GL.pure rfl (p_lss rfl rfl) ?_
          refine GL.pure rfl (p_assign rfl) ?_
          refine GL.nil (?_ : GC _ _ _ _)
          refine GC.cond rfl (fun h5 => ?_) (fun h5 => ?_)
          · try simp only [decide_eq_true_eq, decide_eq_false_iff_not, Bool.not_eq_true', Bool.not_eq_false', Bool.not_true, Bool.not_false, Bool.not_not, ne_eq, Decidable.not_not, Int.not_lt, Int.not_le, gt_iff_lt, ge_iff_le, bool_true_eq_, bool_false_eq_] at h5
            refine GC.seq' ?_
            refine GC.region ?_
            refine GL.pure rfl (p_build ze_29 of_29 rfl rfl) ?_
            refine GL.pure rfl (p_assign rfl) ?_
            refine GL.step rfl (t_storeN (i := 2) rfl rfl rfl sz_29 rfl rfl rfl) ?_
            refine GL.pure rfl (p_assign rfl) ?_
            refine GL.nil (?_ : GC _ _ _ _)
            refine GC.know (q := Pers.row Kd.u8 none []) (fun _ _ _ => .inl rfl) ?_
            refine GC.ret ?_
            refine fun a w h => Fin.back (rs := [.tmp 6, .cell 7 29, .tmp 8]) (vs := [_, _, _]) (is := [1, 2]) (js := [0]) rfl ⟨rfl, ⟨2, _, _, _, _, rfl, rfl, .inr ⟨[_, _], rfl, ag_29, sz_29, ⟨rfl, rfl, trivial⟩⟩⟩, rfl, trivial⟩ rfl rfl ?_ h
            clear h
            have e : askF T cl se = (3, rz, 0) := by simp [askF, *]
            rw [e]; exact ⟨none, 0, by simp [rz], by simp, rfl, rfl, rfl⟩
          · try simp only [decide_eq_true_eq, decide_eq_false_iff_not, Bool.not_eq_true', Bool.not_eq_false', Bool.not_true, Bool.not_false, Bool.not_not, ne_eq, Decidable.not_not, Int.not_lt, Int.not_le, gt_iff_lt, ge_iff_le, bool_true_eq_, bool_false_eq_] at h5
            refine GC.skip (?_ : GC _ _ _ _)
            refine GC.seq' ?_
            refine GC.region ?_
            refine GL.pure rfl (p_fieldAddr fo_64_1 rfl) ?_
            refine GL.step rfl (t_mem rfl (m_loadN (i := 0) rfl rfl ag_29 (vs := [_, _]) sz_29 ⟨rfl, rfl, trivial⟩)) ?_
            have hlen := hT _ _ s_m30
            refine GL.step rfl (t_call rfl fn_24 rfl (is := []) (js := [0]) rfl rfl (by exact own_ct _ _ _ _ (by first | omega | exact Nat.le_trans hlen (by decide)))) (GL.ret ?_)
            rintro _ _ _ ⟨A63, cp63, l63, k63, rfl, rfl, rfl⟩
            refine GL.pure rfl (p_assign rfl) ?_
            refine GL.step rfl (t_storeN (i := 3) rfl rfl rfl sz_29 rfl rfl rfl) ?_
            refine GL.freezeB (i := 0) rfl ?_
            refine GL.pure rfl (p_assign rfl) ?_
            refine GL.nil (?_ : GC _ _ _ _)
            refine GC.ret ?_
            refine fun a w h => Fin.back (rs := [.tmp 6, .cell 7 29, .tmp 8]) (vs := [_, _, _]) (is := [1, 2]) (js := [0]) rfl ⟨rfl, ⟨2, _, _, _, _, rfl, rfl, .inr ⟨[_, _], rfl, ag_29, sz_29, ⟨rfl, rfl, trivial⟩⟩⟩, rfl, trivial⟩ rfl rfl ?_ h
            clear h
            have e : askF T cl se = (2, u_m30.result, 0) := by simp [askF, *]; rw [if_neg (by omega), if_neg (by omega)]
            rw [e]; exact ⟨_, _, l63, k63, rfl, rfl, rfl⟩

/-! ### a request was done -/
def resOk (code : Int) (n : Nat) : Bool := (decide (code = 1 ∨ code = 4) && decide (n ≤ 262144)) || (decide (code = 2 ∨ code = 3) && decide (n = 0))

theorem bres_ct (code : Int) (A : Option Addr) (n cp : Nat) : Ct Try.prog 23 [.agg #[.int .u8 code, .slice A n cp]] [] [] (fun v G Q => v = .int .i64 (if resOk code n then 0 else 42) ∧ G = [] ∧ Q = []) := by
  refine Ct.intro Try.func23 rfl rfl rfl (fun c hc => ?_)
  refine GC.seq' ?_
  refine GC.region ?_
  refine GL.step rfl (t_box rfl rfl rfl) (GL.ex fun b_t1 => ?_)
  refine GL.pure rfl (p_assign rfl) ?_
  refine GL.nil (?_ : GC _ _ _ _)
  refine GC.seq' ?_
  refine GC.region ?_
  refine GL.pure rfl (p_assign rfl) ?_
  refine GL.nil (?_ : GC _ _ _ _)
  refine GC.seq' ?_
  refine GC.seq' ?_
  refine GC.region ?_
  refine GL.pure rfl (p_fieldAddr fo_29_0 rfl) ?_
  refine GL.step rfl (t_mem rfl (m_load (i := 0) rfl rfl ag_26 rfl)) ?_
  refine GL.nil (?_ : GC _ _ _ _)
  refine GC.block ?_
  refine GC.seq' ?_
  refine GC.seq' ?_
  refine GC.region ?_
  refine GL.pure rfl (p_eql rfl rfl) ?_
  refine GL.pure rfl (p_assign rfl) ?_
  refine GL.nil (?_ : GC _ _ _ _)
  refine GC.cond rfl (fun h1 => ?_) (fun h1 => ?_)
  · try simp only [decide_eq_true_eq, decide_eq_false_iff_not, Bool.not_eq_true', Bool.not_eq_false', Bool.not_true, Bool.not_false, Bool.not_not, ne_eq, Decidable.not_not, Int.not_lt, Int.not_le, gt_iff_lt, ge_iff_le, bool_true_eq_, bool_false_eq_] at h1
    refine GC.skip (?_ : GC _ _ _ _)
    refine GC.cond rfl (fun h2 => ?_) (fun h2 => ?_)
    · try simp only [decide_eq_true_eq, decide_eq_false_iff_not, Bool.not_eq_true', Bool.not_eq_false', Bool.not_true, Bool.not_false, Bool.not_not, ne_eq, Decidable.not_not, Int.not_lt, Int.not_le, gt_iff_lt, ge_iff_le, bool_true_eq_, bool_false_eq_] at h2
      refine GC.region ?_
      refine GL.pure rfl (p_fieldAddr fo_29_1 rfl) ?_
      refine GL.step rfl (t_mem rfl (m_load (i := 0) rfl rfl ag_27 rfl)) ?_
      refine GL.pure rfl (p_len Try.underlying27 rfl) ?_
      refine GL.pure rfl (p_leq rfl rfl) ?_
      refine GL.pure rfl (p_assign rfl) ?_
      refine GL.nil (?_ : GC _ _ _ _)
      refine GC.seq' ?_
      refine GC.seq' ?_
      refine GC.region ?_
      refine GL.pure rfl (p_move rfl) ?_
      refine GL.pure rfl (p_not rfl) ?_
      refine GL.nil (?_ : GC _ _ _ _)
      refine GC.cond rfl (fun h3 => ?_) (fun h3 => ?_)
      · try simp only [decide_eq_true_eq, decide_eq_false_iff_not, Bool.not_eq_true', Bool.not_eq_false', Bool.not_true, Bool.not_false, Bool.not_not, ne_eq, Decidable.not_not, Int.not_lt, Int.not_le, gt_iff_lt, ge_iff_le, bool_true_eq_, bool_false_eq_] at h3
        refine GC.seq' ?_
        refine GC.region ?_
        refine GL.pure rfl (p_assign rfl) ?_
        refine GL.nil (?_ : GC _ _ _ _)
        refine GC.ret ?_
        refine fun a w h => Fin.back (rs := [.tmp 2]) (vs := [_]) (is := []) (js := []) rfl ⟨rfl, trivial⟩ rfl rfl ?_ h
        clear h
        refine ⟨congrArg (Value.int .i64) ?_, rfl, rfl⟩; first | (exfalso; omega) | (simp [resOk, *]; done) | (simp [resOk, *]; omega)
      · try simp only [decide_eq_true_eq, decide_eq_false_iff_not, Bool.not_eq_true', Bool.not_eq_false', Bool.not_true, Bool.not_false, Bool.not_not, ne_eq, Decidable.not_not, Int.not_lt, Int.not_le, gt_iff_lt, ge_iff_le, bool_true_eq_, bool_false_eq_] at h3
        refine GC.skip (?_ : GC _ _ _ _)
        refine GC.seq' ?_
        refine GC.region ?_
        refine GL.pure rfl (p_assign rfl) ?_
        refine GL.nil (?_ : GC _ _ _ _)
        refine GC.ret ?_
        refine fun a w h => Fin.back (rs := [.tmp 2]) (vs := [_]) (is := []) (js := []) rfl ⟨rfl, trivial⟩ rfl rfl ?_ h
        clear h
        refine ⟨congrArg (Value.int .i64) ?_, rfl, rfl⟩; first | (exfalso; omega) | (simp [resOk, *]; done) | (simp [resOk, *]; omega)
    · try simp only [decide_eq_true_eq, decide_eq_false_iff_not, Bool.not_eq_true', Bool.not_eq_false', Bool.not_true, Bool.not_false, Bool.not_not, ne_eq, Decidable.not_not, Int.not_lt, Int.not_le, gt_iff_lt, ge_iff_le, bool_true_eq_, bool_false_eq_] at h2
      refine GC.seq' ?_
      refine GC.seq' ?_
      refine GC.region ?_
      refine GL.pure rfl (p_eql rfl rfl) ?_
      refine GL.pure rfl (p_assign rfl) ?_
      refine GL.nil (?_ : GC _ _ _ _)
      refine GC.cond rfl (fun h4 => ?_) (fun h4 => ?_)
      · try simp only [decide_eq_true_eq, decide_eq_false_iff_not, Bool.not_eq_true', Bool.not_eq_false', Bool.not_true, Bool.not_false, Bool.not_not, ne_eq, Decidable.not_not, Int.not_lt, Int.not_le, gt_iff_lt, ge_iff_le, bool_true_eq_, bool_false_eq_] at h4
        refine GC.skip (?_ : GC _ _ _ _)
        refine GC.cond rfl (fun h5 => ?_) (fun h5 => ?_)
        · try simp only [decide_eq_true_eq, decide_eq_false_iff_not, Bool.not_eq_true', Bool.not_eq_false', Bool.not_true, Bool.not_false, Bool.not_not, ne_eq, Decidable.not_not, Int.not_lt, Int.not_le, gt_iff_lt, ge_iff_le, bool_true_eq_, bool_false_eq_] at h5
          refine GC.region ?_
          refine GL.pure rfl (p_fieldAddr fo_29_1 rfl) ?_
          refine GL.step rfl (t_mem rfl (m_load (i := 0) rfl rfl ag_27 rfl)) ?_
          refine GL.pure rfl (p_len Try.underlying27 rfl) ?_
          refine GL.pure rfl (p_eql rfl rfl) ?_
          refine GL.pure rfl (p_assign rfl) ?_
          refine GL.nil (?_ : GC _ _ _ _)
          refine GC.seq' ?_
          refine GC.seq' ?_
          refine GC.region ?_
          refine GL.pure rfl (p_move rfl) ?_
          refine GL.pure rfl (p_not rfl) ?_
          refine GL.nil (?_ : GC _ _ _ _)
          refine GC.cond rfl (fun h6 => ?_) (fun h6 => ?_)
          · try simp only [decide_eq_true_eq, decide_eq_false_iff_not, Bool.not_eq_true', Bool.not_eq_false', Bool.not_true, Bool.not_false, Bool.not_not, ne_eq, Decidable.not_not, Int.not_lt, Int.not_le, gt_iff_lt, ge_iff_le, bool_true_eq_, bool_false_eq_] at h6
            refine GC.seq' ?_
            refine GC.region ?_
            refine GL.pure rfl (p_assign rfl) ?_
            refine GL.nil (?_ : GC _ _ _ _)
            refine GC.ret ?_
            refine fun a w h => Fin.back (rs := [.tmp 2]) (vs := [_]) (is := []) (js := []) rfl ⟨rfl, trivial⟩ rfl rfl ?_ h
            clear h
            refine ⟨congrArg (Value.int .i64) ?_, rfl, rfl⟩; first | (exfalso; omega) | (simp [resOk, *]; done) | (simp [resOk, *]; omega)
          · try simp only [decide_eq_true_eq, decide_eq_false_iff_not, Bool.not_eq_true', Bool.not_eq_false', Bool.not_true, Bool.not_false, Bool.not_not, ne_eq, Decidable.not_not, Int.not_lt, Int.not_le, gt_iff_lt, ge_iff_le, bool_true_eq_, bool_false_eq_] at h6
            refine GC.skip (?_ : GC _ _ _ _)
            refine GC.seq' ?_
            refine GC.region ?_
            refine GL.pure rfl (p_assign rfl) ?_
            refine GL.nil (?_ : GC _ _ _ _)
            refine GC.ret ?_
            refine fun a w h => Fin.back (rs := [.tmp 2]) (vs := [_]) (is := []) (js := []) rfl ⟨rfl, trivial⟩ rfl rfl ?_ h
            clear h
            refine ⟨congrArg (Value.int .i64) ?_, rfl, rfl⟩; first | (exfalso; omega) | (simp [resOk, *]; done) | (simp [resOk, *]; omega)
        · try simp only [decide_eq_true_eq, decide_eq_false_iff_not, Bool.not_eq_true', Bool.not_eq_false', Bool.not_true, Bool.not_false, Bool.not_not, ne_eq, Decidable.not_not, Int.not_lt, Int.not_le, gt_iff_lt, ge_iff_le, bool_true_eq_, bool_false_eq_] at h5
          refine GC.skip (?_ : GC _ _ _ _)
          refine GC.seq' ?_
          refine GC.seq' ?_
          refine GC.region ?_
          refine GL.pure rfl (p_move rfl) ?_
          refine GL.pure rfl (p_not rfl) ?_
          refine GL.nil (?_ : GC _ _ _ _)
          refine GC.cond_true rfl ?_
          refine GC.seq' ?_
          refine GC.region ?_
          refine GL.pure rfl (p_assign rfl) ?_
          refine GL.nil (?_ : GC _ _ _ _)
          refine GC.ret ?_
          refine fun a w h => Fin.back (rs := [.tmp 2]) (vs := [_]) (is := []) (js := []) rfl ⟨rfl, trivial⟩ rfl rfl ?_ h
          clear h
          refine ⟨congrArg (Value.int .i64) ?_, rfl, rfl⟩; first | (exfalso; omega) | (simp [resOk, *]; done) | (simp [resOk, *]; omega)
      · try simp only [decide_eq_true_eq, decide_eq_false_iff_not, Bool.not_eq_true', Bool.not_eq_false', Bool.not_true, Bool.not_false, Bool.not_not, ne_eq, Decidable.not_not, Int.not_lt, Int.not_le, gt_iff_lt, ge_iff_le, bool_true_eq_, bool_false_eq_] at h4
        refine GC.region ?_
        refine GL.pure rfl (p_eql rfl rfl) ?_
        refine GL.pure rfl (p_assign rfl) ?_
        refine GL.nil (?_ : GC _ _ _ _)
        refine GC.cond rfl (fun h7 => ?_) (fun h7 => ?_)
        · try simp only [decide_eq_true_eq, decide_eq_false_iff_not, Bool.not_eq_true', Bool.not_eq_false', Bool.not_true, Bool.not_false, Bool.not_not, ne_eq, Decidable.not_not, Int.not_lt, Int.not_le, gt_iff_lt, ge_iff_le, bool_true_eq_, bool_false_eq_] at h7
          refine GC.region ?_
          refine GL.pure rfl (p_fieldAddr fo_29_1 rfl) ?_
          refine GL.step rfl (t_mem rfl (m_load (i := 0) rfl rfl ag_27 rfl)) ?_
          refine GL.pure rfl (p_len Try.underlying27 rfl) ?_
          refine GL.pure rfl (p_eql rfl rfl) ?_
          refine GL.pure rfl (p_assign rfl) ?_
          refine GL.nil (?_ : GC _ _ _ _)
          refine GC.seq' ?_
          refine GC.seq' ?_
          refine GC.region ?_
          refine GL.pure rfl (p_move rfl) ?_
          refine GL.pure rfl (p_not rfl) ?_
          refine GL.nil (?_ : GC _ _ _ _)
          refine GC.cond rfl (fun h8 => ?_) (fun h8 => ?_)
          · try simp only [decide_eq_true_eq, decide_eq_false_iff_not, Bool.not_eq_true', Bool.not_eq_false', Bool.not_true, Bool.not_false, Bool.not_not, ne_eq, Decidable.not_not, Int.not_lt, Int.not_le, gt_iff_lt, ge_iff_le, bool_true_eq_, bool_false_eq_] at h8
            refine GC.seq' ?_
            refine GC.region ?_
            refine GL.pure rfl (p_assign rfl) ?_
            refine GL.nil (?_ : GC _ _ _ _)
            refine GC.ret ?_
            refine fun a w h => Fin.back (rs := [.tmp 2]) (vs := [_]) (is := []) (js := []) rfl ⟨rfl, trivial⟩ rfl rfl ?_ h
            clear h
            refine ⟨congrArg (Value.int .i64) ?_, rfl, rfl⟩; first | (exfalso; omega) | (simp [resOk, *]; done) | (simp [resOk, *]; omega)
          · try simp only [decide_eq_true_eq, decide_eq_false_iff_not, Bool.not_eq_true', Bool.not_eq_false', Bool.not_true, Bool.not_false, Bool.not_not, ne_eq, Decidable.not_not, Int.not_lt, Int.not_le, gt_iff_lt, ge_iff_le, bool_true_eq_, bool_false_eq_] at h8
            refine GC.skip (?_ : GC _ _ _ _)
            refine GC.seq' ?_
            refine GC.region ?_
            refine GL.pure rfl (p_assign rfl) ?_
            refine GL.nil (?_ : GC _ _ _ _)
            refine GC.ret ?_
            refine fun a w h => Fin.back (rs := [.tmp 2]) (vs := [_]) (is := []) (js := []) rfl ⟨rfl, trivial⟩ rfl rfl ?_ h
            clear h
            refine ⟨congrArg (Value.int .i64) ?_, rfl, rfl⟩; first | (exfalso; omega) | (simp [resOk, *]; done) | (simp [resOk, *]; omega)
        · try simp only [decide_eq_true_eq, decide_eq_false_iff_not, Bool.not_eq_true', Bool.not_eq_false', Bool.not_true, Bool.not_false, Bool.not_not, ne_eq, Decidable.not_not, Int.not_lt, Int.not_le, gt_iff_lt, ge_iff_le, bool_true_eq_, bool_false_eq_] at h7
          refine GC.skip (?_ : GC _ _ _ _)
          refine GC.seq' ?_
          refine GC.seq' ?_
          refine GC.region ?_
          refine GL.pure rfl (p_move rfl) ?_
          refine GL.pure rfl (p_not rfl) ?_
          refine GL.nil (?_ : GC _ _ _ _)
          refine GC.cond_true rfl ?_
          refine GC.seq' ?_
          refine GC.region ?_
          refine GL.pure rfl (p_assign rfl) ?_
          refine GL.nil (?_ : GC _ _ _ _)
          refine GC.ret ?_
          refine fun a w h => Fin.back (rs := [.tmp 2]) (vs := [_]) (is := []) (js := []) rfl ⟨rfl, trivial⟩ rfl rfl ?_ h
          clear h
          refine ⟨congrArg (Value.int .i64) ?_, rfl, rfl⟩; first | (exfalso; omega) | (simp [resOk, *]; done) | (simp [resOk, *]; omega)
  · try simp only [decide_eq_true_eq, decide_eq_false_iff_not, Bool.not_eq_true', Bool.not_eq_false', Bool.not_true, Bool.not_false, Bool.not_not, ne_eq, Decidable.not_not, Int.not_lt, Int.not_le, gt_iff_lt, ge_iff_le, bool_true_eq_, bool_false_eq_] at h1
    refine GC.region ?_
    refine GL.pure rfl (p_eql rfl rfl) ?_
    refine GL.pure rfl (p_assign rfl) ?_
    refine GL.nil (?_ : GC _ _ _ _)
    refine GC.cond rfl (fun h9 => ?_) (fun h9 => ?_)
    · try simp only [decide_eq_true_eq, decide_eq_false_iff_not, Bool.not_eq_true', Bool.not_eq_false', Bool.not_true, Bool.not_false, Bool.not_not, ne_eq, Decidable.not_not, Int.not_lt, Int.not_le, gt_iff_lt, ge_iff_le, bool_true_eq_, bool_false_eq_] at h9
      refine GC.region ?_
      refine GL.pure rfl (p_fieldAddr fo_29_1 rfl) ?_
      refine GL.step rfl (t_mem rfl (m_load (i := 0) rfl rfl ag_27 rfl)) ?_
      refine GL.pure rfl (p_len Try.underlying27 rfl) ?_
      refine GL.pure rfl (p_leq rfl rfl) ?_
      refine GL.pure rfl (p_assign rfl) ?_
      refine GL.nil (?_ : GC _ _ _ _)
      refine GC.seq' ?_
      refine GC.seq' ?_
      refine GC.region ?_
      refine GL.pure rfl (p_move rfl) ?_
      refine GL.pure rfl (p_not rfl) ?_
      refine GL.nil (?_ : GC _ _ _ _)
      refine GC.cond rfl (fun h10 => ?_) (fun h10 => ?_)
      · try simp only [decide_eq_true_eq, decide_eq_false_iff_not, Bool.not_eq_true', Bool.not_eq_false', Bool.not_true, Bool.not_false, Bool.not_not, ne_eq, Decidable.not_not, Int.not_lt, Int.not_le, gt_iff_lt, ge_iff_le, bool_true_eq_, bool_false_eq_] at h10
        refine GC.seq' ?_
        refine GC.region ?_
        refine GL.pure rfl (p_assign rfl) ?_
        refine GL.nil (?_ : GC _ _ _ _)
        refine GC.ret ?_
        refine fun a w h => Fin.back (rs := [.tmp 2]) (vs := [_]) (is := []) (js := []) rfl ⟨rfl, trivial⟩ rfl rfl ?_ h
        clear h
        refine ⟨congrArg (Value.int .i64) ?_, rfl, rfl⟩; first | (exfalso; omega) | (simp [resOk, *]; done) | (simp [resOk, *]; omega)
      · try simp only [decide_eq_true_eq, decide_eq_false_iff_not, Bool.not_eq_true', Bool.not_eq_false', Bool.not_true, Bool.not_false, Bool.not_not, ne_eq, Decidable.not_not, Int.not_lt, Int.not_le, gt_iff_lt, ge_iff_le, bool_true_eq_, bool_false_eq_] at h10
        refine GC.skip (?_ : GC _ _ _ _)
        refine GC.seq' ?_
        refine GC.region ?_
        refine GL.pure rfl (p_assign rfl) ?_
        refine GL.nil (?_ : GC _ _ _ _)
        refine GC.ret ?_
        refine fun a w h => Fin.back (rs := [.tmp 2]) (vs := [_]) (is := []) (js := []) rfl ⟨rfl, trivial⟩ rfl rfl ?_ h
        clear h
        refine ⟨congrArg (Value.int .i64) ?_, rfl, rfl⟩; first | (exfalso; omega) | (simp [resOk, *]; done) | (simp [resOk, *]; omega)
    · try simp only [decide_eq_true_eq, decide_eq_false_iff_not, Bool.not_eq_true', Bool.not_eq_false', Bool.not_true, Bool.not_false, Bool.not_not, ne_eq, Decidable.not_not, Int.not_lt, Int.not_le, gt_iff_lt, ge_iff_le, bool_true_eq_, bool_false_eq_] at h9
      refine GC.seq' ?_
      refine GC.seq' ?_
      refine GC.region ?_
      refine GL.pure rfl (p_eql rfl rfl) ?_
      refine GL.pure rfl (p_assign rfl) ?_
      refine GL.nil (?_ : GC _ _ _ _)
      refine GC.cond rfl (fun h11 => ?_) (fun h11 => ?_)
      · try simp only [decide_eq_true_eq, decide_eq_false_iff_not, Bool.not_eq_true', Bool.not_eq_false', Bool.not_true, Bool.not_false, Bool.not_not, ne_eq, Decidable.not_not, Int.not_lt, Int.not_le, gt_iff_lt, ge_iff_le, bool_true_eq_, bool_false_eq_] at h11
        refine GC.skip (?_ : GC _ _ _ _)
        refine GC.cond rfl (fun h12 => ?_) (fun h12 => ?_)
        · try simp only [decide_eq_true_eq, decide_eq_false_iff_not, Bool.not_eq_true', Bool.not_eq_false', Bool.not_true, Bool.not_false, Bool.not_not, ne_eq, Decidable.not_not, Int.not_lt, Int.not_le, gt_iff_lt, ge_iff_le, bool_true_eq_, bool_false_eq_] at h12
          refine GC.region ?_
          refine GL.pure rfl (p_fieldAddr fo_29_1 rfl) ?_
          refine GL.step rfl (t_mem rfl (m_load (i := 0) rfl rfl ag_27 rfl)) ?_
          refine GL.pure rfl (p_len Try.underlying27 rfl) ?_
          refine GL.pure rfl (p_eql rfl rfl) ?_
          refine GL.pure rfl (p_assign rfl) ?_
          refine GL.nil (?_ : GC _ _ _ _)
          refine GC.seq' ?_
          refine GC.seq' ?_
          refine GC.region ?_
          refine GL.pure rfl (p_move rfl) ?_
          refine GL.pure rfl (p_not rfl) ?_
          refine GL.nil (?_ : GC _ _ _ _)
          refine GC.cond rfl (fun h13 => ?_) (fun h13 => ?_)
          · try simp only [decide_eq_true_eq, decide_eq_false_iff_not, Bool.not_eq_true', Bool.not_eq_false', Bool.not_true, Bool.not_false, Bool.not_not, ne_eq, Decidable.not_not, Int.not_lt, Int.not_le, gt_iff_lt, ge_iff_le, bool_true_eq_, bool_false_eq_] at h13
            refine GC.seq' ?_
            refine GC.region ?_
            refine GL.pure rfl (p_assign rfl) ?_
            refine GL.nil (?_ : GC _ _ _ _)
            refine GC.ret ?_
            refine fun a w h => Fin.back (rs := [.tmp 2]) (vs := [_]) (is := []) (js := []) rfl ⟨rfl, trivial⟩ rfl rfl ?_ h
            clear h
            refine ⟨congrArg (Value.int .i64) ?_, rfl, rfl⟩; first | (exfalso; omega) | (simp [resOk, *]; done) | (simp [resOk, *]; omega)
          · try simp only [decide_eq_true_eq, decide_eq_false_iff_not, Bool.not_eq_true', Bool.not_eq_false', Bool.not_true, Bool.not_false, Bool.not_not, ne_eq, Decidable.not_not, Int.not_lt, Int.not_le, gt_iff_lt, ge_iff_le, bool_true_eq_, bool_false_eq_] at h13
            refine GC.skip (?_ : GC _ _ _ _)
            refine GC.seq' ?_
            refine GC.region ?_
            refine GL.pure rfl (p_assign rfl) ?_
            refine GL.nil (?_ : GC _ _ _ _)
            refine GC.ret ?_
            refine fun a w h => Fin.back (rs := [.tmp 2]) (vs := [_]) (is := []) (js := []) rfl ⟨rfl, trivial⟩ rfl rfl ?_ h
            clear h
            refine ⟨congrArg (Value.int .i64) ?_, rfl, rfl⟩; first | (exfalso; omega) | (simp [resOk, *]; done) | (simp [resOk, *]; omega)
        · try simp only [decide_eq_true_eq, decide_eq_false_iff_not, Bool.not_eq_true', Bool.not_eq_false', Bool.not_true, Bool.not_false, Bool.not_not, ne_eq, Decidable.not_not, Int.not_lt, Int.not_le, gt_iff_lt, ge_iff_le, bool_true_eq_, bool_false_eq_] at h12
          refine GC.skip (?_ : GC _ _ _ _)
          refine GC.seq' ?_
          refine GC.seq' ?_
          refine GC.region ?_
          refine GL.pure rfl (p_move rfl) ?_
          refine GL.pure rfl (p_not rfl) ?_
          refine GL.nil (?_ : GC _ _ _ _)
          refine GC.cond_true rfl ?_
          refine GC.seq' ?_
          refine GC.region ?_
          refine GL.pure rfl (p_assign rfl) ?_
          refine GL.nil (?_ : GC _ _ _ _)
          refine GC.ret ?_
          refine fun a w h => Fin.back (rs := [.tmp 2]) (vs := [_]) (is := []) (js := []) rfl ⟨rfl, trivial⟩ rfl rfl ?_ h
          clear h
          refine ⟨congrArg (Value.int .i64) ?_, rfl, rfl⟩; first | (exfalso; omega) | (simp [resOk, *]; done) | (simp [resOk, *]; omega)
      · try simp only [decide_eq_true_eq, decide_eq_false_iff_not, Bool.not_eq_true', Bool.not_eq_false', Bool.not_true, Bool.not_false, Bool.not_not, ne_eq, Decidable.not_not, Int.not_lt, Int.not_le, gt_iff_lt, ge_iff_le, bool_true_eq_, bool_false_eq_] at h11
        refine GC.region ?_
        refine GL.pure rfl (p_eql rfl rfl) ?_
        refine GL.pure rfl (p_assign rfl) ?_
        refine GL.nil (?_ : GC _ _ _ _)
        refine GC.cond rfl (fun h14 => ?_) (fun h14 => ?_)
        · try simp only [decide_eq_true_eq, decide_eq_false_iff_not, Bool.not_eq_true', Bool.not_eq_false', Bool.not_true, Bool.not_false, Bool.not_not, ne_eq, Decidable.not_not, Int.not_lt, Int.not_le, gt_iff_lt, ge_iff_le, bool_true_eq_, bool_false_eq_] at h14
          refine GC.region ?_
          refine GL.pure rfl (p_fieldAddr fo_29_1 rfl) ?_
          refine GL.step rfl (t_mem rfl (m_load (i := 0) rfl rfl ag_27 rfl)) ?_
          refine GL.pure rfl (p_len Try.underlying27 rfl) ?_
          refine GL.pure rfl (p_eql rfl rfl) ?_
          refine GL.pure rfl (p_assign rfl) ?_
          refine GL.nil (?_ : GC _ _ _ _)
          refine GC.seq' ?_
          refine GC.seq' ?_
          refine GC.region ?_
          refine GL.pure rfl (p_move rfl) ?_
          refine GL.pure rfl (p_not rfl) ?_
          refine GL.nil (?_ : GC _ _ _ _)
          refine GC.cond rfl (fun h15 => ?_) (fun h15 => ?_)
          · try simp only [decide_eq_true_eq, decide_eq_false_iff_not, Bool.not_eq_true', Bool.not_eq_false', Bool.not_true, Bool.not_false, Bool.not_not, ne_eq, Decidable.not_not, Int.not_lt, Int.not_le, gt_iff_lt, ge_iff_le, bool_true_eq_, bool_false_eq_] at h15
            refine GC.seq' ?_
            refine GC.region ?_
            refine GL.pure rfl (p_assign rfl) ?_
            refine GL.nil (?_ : GC _ _ _ _)
            refine GC.ret ?_
            refine fun a w h => Fin.back (rs := [.tmp 2]) (vs := [_]) (is := []) (js := []) rfl ⟨rfl, trivial⟩ rfl rfl ?_ h
            clear h
            refine ⟨congrArg (Value.int .i64) ?_, rfl, rfl⟩; first | (exfalso; omega) | (simp [resOk, *]; done) | (simp [resOk, *]; omega)
          · try simp only [decide_eq_true_eq, decide_eq_false_iff_not, Bool.not_eq_true', Bool.not_eq_false', Bool.not_true, Bool.not_false, Bool.not_not, ne_eq, Decidable.not_not, Int.not_lt, Int.not_le, gt_iff_lt, ge_iff_le, bool_true_eq_, bool_false_eq_] at h15
            refine GC.skip (?_ : GC _ _ _ _)
            refine GC.seq' ?_
            refine GC.region ?_
            refine GL.pure rfl (p_assign rfl) ?_
            refine GL.nil (?_ : GC _ _ _ _)
            refine GC.ret ?_
            refine fun a w h => Fin.back (rs := [.tmp 2]) (vs := [_]) (is := []) (js := []) rfl ⟨rfl, trivial⟩ rfl rfl ?_ h
            clear h
            refine ⟨congrArg (Value.int .i64) ?_, rfl, rfl⟩; first | (exfalso; omega) | (simp [resOk, *]; done) | (simp [resOk, *]; omega)
        · try simp only [decide_eq_true_eq, decide_eq_false_iff_not, Bool.not_eq_true', Bool.not_eq_false', Bool.not_true, Bool.not_false, Bool.not_not, ne_eq, Decidable.not_not, Int.not_lt, Int.not_le, gt_iff_lt, ge_iff_le, bool_true_eq_, bool_false_eq_] at h14
          refine GC.skip (?_ : GC _ _ _ _)
          refine GC.seq' ?_
          refine GC.seq' ?_
          refine GC.region ?_
          refine GL.pure rfl (p_move rfl) ?_
          refine GL.pure rfl (p_not rfl) ?_
          refine GL.nil (?_ : GC _ _ _ _)
          refine GC.cond_true rfl ?_
          refine GC.seq' ?_
          refine GC.region ?_
          refine GL.pure rfl (p_assign rfl) ?_
          refine GL.nil (?_ : GC _ _ _ _)
          refine GC.ret ?_
          refine fun a w h => Fin.back (rs := [.tmp 2]) (vs := [_]) (is := []) (js := []) rfl ⟨rfl, trivial⟩ rfl rfl ?_ h
          clear h
          refine ⟨congrArg (Value.int .i64) ?_, rfl, rfl⟩; first | (exfalso; omega) | (simp [resOk, *]; done) | (simp [resOk, *]; omega)

theorem resE_iff (b : Bool) : ((if b = true then (0 : Int) else 42) = 0) = (b = true) := by cases b <;> simp
def putF (T : List (Int × Last)) (c s : Int) (r : Res) : Int × List (Int × Last) :=
  if (askF T c s).2.2 ≠ 0 then ((askF T c s).2.2, T)
  else if resOk r.code r.data.length = false then (60, T)
  else if (askF T c s).1 = 4 then (3, T)
  else if (askF T c s).1 ≠ 1 then (1, T)
  else (0, mput T c ⟨s, r⟩)

theorem resOk_len {c : Int} {n : Nat} (h : resOk c n = true) : n ≤ 262144 := by
  simp [resOk] at h; omega

theorem put_ct (p m : Nat) (es : Array MapEntry) (ck : Nat) (T : List (Int × Last)) (cl se : Int) (r : Res) (A : Option Addr) (cp : Nat) (hT : TabOk T) :
    Ct Try.prog 10 [.pointer (some ⟨p, 0, none⟩), .int .i64 cl, .int .i64 se, .agg #[.int .u8 r.code, .slice A r.data.length cp]] (tabG p m es ck) [Pers.map kLast true T es ck, Pers.row Kd.u8 A r.data]
      (fun v G Q => ∃ es' ck', v = .int .i64 (putF T cl se r).1 ∧ G = tabG p m es' ck' ∧ Q = [Pers.map kLast true (putF T cl se r).2 es' ck']) := by
  refine Ct.intro Try.func10 rfl rfl rfl (fun c hc => ?_)
  refine GC.seq' ?_
  refine GC.region ?_
  refine GL.step rfl (t_box rfl rfl rfl) (GL.ex fun b_t7 => ?_)
  refine GL.pure rfl (p_assign rfl) ?_
  refine GL.nil (?_ : GC _ _ _ _)
  refine GC.seq' ?_
  refine GC.region ?_
  refine GL.pure rfl (p_move rfl) ?_
  refine GL.pure rfl (p_move rfl) ?_
  refine GL.pure rfl (p_move rfl) ?_
  refine GL.step rfl (t_call rfl fn_11 rfl (is := [1, 1]) (js := [0]) rfl rfl (by exact ask_ct _ _ _ _ _ _ _ hT)) (GL.ret ?_)
  rintro _ _ _ ⟨A16, cp16, l16, m16, rfl, rfl, rfl⟩
  refine GL.pure rfl (p_move rfl) ?_
  refine GL.pure rfl (p_extract rfl rfl) ?_
  refine GL.pure rfl (p_extract rfl rfl) ?_
  refine GL.pure rfl (p_extract rfl rfl) ?_
  refine GL.step rfl (t_alloc rfl ze_29) (GL.ex fun b_t10 => ?_)
  refine GL.pure rfl (p_assign rfl) ?_
  refine GL.step rfl (t_storeN (i := 0) rfl rfl rfl sz_29 rfl rfl rfl) ?_
  refine GL.pure rfl (p_assign rfl) ?_
  refine GL.nil (?_ : GC _ _ _ _)
  refine GC.seq' ?_
  refine GC.block ?_
  refine GC.seq' ?_
  refine GC.region ?_
  refine GL.pure rfl (p_move rfl) ?_
  refine GL.pure rfl (p_neq rfl rfl) ?_
  refine GL.pure rfl (p_assign rfl) ?_
  refine GL.nil (?_ : GC _ _ _ _)
  refine GC.cond rfl (fun h1 => ?_) (fun h1 => ?_)
  · try simp only [decide_eq_true_eq, decide_eq_false_iff_not, Bool.not_eq_true', Bool.not_eq_false', Bool.not_true, Bool.not_false, Bool.not_not, ne_eq, Decidable.not_not, Int.not_lt, Int.not_le, gt_iff_lt, ge_iff_le, bool_true_eq_, bool_false_eq_, resE_iff] at h1
    refine GC.seq' ?_
    refine GC.region ?_
    refine GL.pure rfl (p_move rfl) ?_
    refine GL.pure rfl (p_assign rfl) ?_
    refine GL.nil (?_ : GC _ _ _ _)
    refine GC.ret ?_
    refine fun a w h => Fin.back (rs := [.tmp 8]) (vs := [_]) (is := [1, 1]) (js := [1]) rfl ⟨rfl, trivial⟩ rfl rfl ?_ h
    clear h
    refine ⟨es, ck, congrArg (Value.int .i64) ?_, rfl, ?_⟩ <;> simp [putF, *]
  · try simp only [decide_eq_true_eq, decide_eq_false_iff_not, Bool.not_eq_true', Bool.not_eq_false', Bool.not_true, Bool.not_false, Bool.not_not, ne_eq, Decidable.not_not, Int.not_lt, Int.not_le, gt_iff_lt, ge_iff_le, bool_true_eq_, bool_false_eq_, resE_iff] at h1
    refine GC.seq' ?_
    refine GC.region ?_
    refine GL.step rfl (t_mem rfl (m_loadN (i := 3) rfl rfl ag_29 (vs := [_, _]) sz_29 ⟨rfl, rfl, trivial⟩)) ?_
    refine GL.step rfl (t_call rfl fn_23 rfl (is := []) (js := []) rfl rfl (by exact bres_ct _ _ _ _)) (GL.ret ?_)
    rintro _ _ _ ⟨rfl, rfl, rfl⟩
    refine GL.pure rfl (p_neq rfl rfl) ?_
    refine GL.pure rfl (p_assign rfl) ?_
    refine GL.nil (?_ : GC _ _ _ _)
    refine GC.cond rfl (fun h2 => ?_) (fun h2 => ?_)
    · try simp only [decide_eq_true_eq, decide_eq_false_iff_not, Bool.not_eq_true', Bool.not_eq_false', Bool.not_true, Bool.not_false, Bool.not_not, ne_eq, Decidable.not_not, Int.not_lt, Int.not_le, gt_iff_lt, ge_iff_le, bool_true_eq_, bool_false_eq_, resE_iff] at h2
      refine GC.seq' ?_
      refine GC.region ?_
      refine GL.pure rfl (p_assign rfl) ?_
      refine GL.nil (?_ : GC _ _ _ _)
      refine GC.ret ?_
      refine fun a w h => Fin.back (rs := [.tmp 8]) (vs := [_]) (is := [1, 1]) (js := [1]) rfl ⟨rfl, trivial⟩ rfl rfl ?_ h
      clear h
      refine ⟨es, ck, congrArg (Value.int .i64) ?_, rfl, ?_⟩ <;> simp [putF, *]
    · try simp only [decide_eq_true_eq, decide_eq_false_iff_not, Bool.not_eq_true', Bool.not_eq_false', Bool.not_true, Bool.not_false, Bool.not_not, ne_eq, Decidable.not_not, Int.not_lt, Int.not_le, gt_iff_lt, ge_iff_le, bool_true_eq_, bool_false_eq_, resE_iff] at h2
      refine GC.seq' ?_
      refine GC.region ?_
      refine GL.pure rfl (p_move rfl) ?_
      refine GL.pure rfl (p_eql rfl rfl) ?_
      refine GL.pure rfl (p_assign rfl) ?_
      refine GL.nil (?_ : GC _ _ _ _)
      refine GC.cond rfl (fun h3 => ?_) (fun h3 => ?_)
      · try simp only [decide_eq_true_eq, decide_eq_false_iff_not, Bool.not_eq_true', Bool.not_eq_false', Bool.not_true, Bool.not_false, Bool.not_not, ne_eq, Decidable.not_not, Int.not_lt, Int.not_le, gt_iff_lt, ge_iff_le, bool_true_eq_, bool_false_eq_, resE_iff] at h3
        refine GC.seq' ?_
        refine GC.region ?_
        refine GL.pure rfl (p_assign rfl) ?_
        refine GL.nil (?_ : GC _ _ _ _)
        refine GC.ret ?_
        refine fun a w h => Fin.back (rs := [.tmp 8]) (vs := [_]) (is := [1, 1]) (js := [1]) rfl ⟨rfl, trivial⟩ rfl rfl ?_ h
        clear h
        refine ⟨es, ck, congrArg (Value.int .i64) ?_, rfl, ?_⟩ <;> simp [putF, *]
      · try simp only [decide_eq_true_eq, decide_eq_false_iff_not, Bool.not_eq_true', Bool.not_eq_false', Bool.not_true, Bool.not_false, Bool.not_not, ne_eq, Decidable.not_not, Int.not_lt, Int.not_le, gt_iff_lt, ge_iff_le, bool_true_eq_, bool_false_eq_, resE_iff] at h3
        refine GC.seq' ?_
        refine GC.region ?_
        refine GL.pure rfl (p_move rfl) ?_
        refine GL.pure rfl (p_neq rfl rfl) ?_
        refine GL.pure rfl (p_assign rfl) ?_
        refine GL.nil (?_ : GC _ _ _ _)
        refine GC.cond rfl (fun h4 => ?_) (fun h4 => ?_)
        · try simp only [decide_eq_true_eq, decide_eq_false_iff_not, Bool.not_eq_true', Bool.not_eq_false', Bool.not_true, Bool.not_false, Bool.not_not, ne_eq, Decidable.not_not, Int.not_lt, Int.not_le, gt_iff_lt, ge_iff_le, bool_true_eq_, bool_false_eq_, resE_iff] at h4
          refine GC.seq' ?_
          refine GC.region ?_
          refine GL.pure rfl (p_assign rfl) ?_
          refine GL.nil (?_ : GC _ _ _ _)
          refine GC.ret ?_
          refine fun a w h => Fin.back (rs := [.tmp 8]) (vs := [_]) (is := [1, 1]) (js := [1]) rfl ⟨rfl, trivial⟩ rfl rfl ?_ h
          clear h
          refine ⟨es, ck, congrArg (Value.int .i64) ?_, rfl, ?_⟩ <;> simp [putF, *]
        · try simp only [decide_eq_true_eq, decide_eq_false_iff_not, Bool.not_eq_true', Bool.not_eq_false', Bool.not_true, Bool.not_false, Bool.not_not, ne_eq, Decidable.not_not, Int.not_lt, Int.not_le, gt_iff_lt, ge_iff_le, bool_true_eq_, bool_false_eq_, resE_iff] at h4
          refine GC.skip (?_ : GC _ _ _ _)
          refine GC.seq' ?_
          refine GC.regionM (m := 10) (M := fun a w => ∃ es2 : Array MapEntry, ∃ ck2 : Nat, St c 43 [] [.cells p [.map (some m)] 43, .blk m (.map es2 ck2)] [Pers.map kLast true (mput T cl ⟨se, r⟩) es2 ck2] a w) (is := [0, 0, 1]) (js := [0, 1, 2]) wide_ rfl rfl rfl ?_ ?_
          · refine GA.take 0 rfl (by kernel_rfl) (by kernel_rfl) (by kernel_rfl) rfl (fun a w h => h.mem (is := [0, 0, 1]) (js := [0, 1, 2]) rfl rfl) (i_pure (p_move rfl)) ?_
            refine GA.take 1 rfl (by kernel_rfl) (by kernel_rfl) (by kernel_rfl) rfl (fun a w h => h.mem (is := [0, 0, 1]) (js := [0, 1, 2]) rfl rfl) (i_pure (p_nilCheck rfl)) ?_
            refine GA.take 2 rfl (by kernel_rfl) (by kernel_rfl) (by kernel_rfl) rfl (fun a w h => h.mem (is := [0, 0, 1]) (js := [0, 1, 2]) rfl rfl) (i_pure (p_fieldAddr fo_43_0 rfl)) ?_
            refine GA.take 3 rfl (by kernel_rfl) (by kernel_rfl) (by kernel_rfl) rfl (fun a w h => h.mem (is := [0, 0, 1]) (js := [0, 1, 2]) rfl rfl) (i_mem (m_load (i := 1) rfl rfl ag_41 rfl)) ?_
            refine GA.take 4 rfl (by kernel_rfl) (by kernel_rfl) (by kernel_rfl) rfl (fun a w h => h.mem (is := [0, 0, 1]) (js := [0, 1, 2]) rfl rfl) (i_pure (p_move rfl)) ?_
            refine GA.take 5 rfl (by kernel_rfl) (by kernel_rfl) (by kernel_rfl) rfl (fun a w h => h.mem (is := [0, 0, 1]) (js := [0, 1, 2]) rfl rfl) (i_pure (p_move rfl)) ?_
            refine GA.take 6 rfl (by kernel_rfl) (by kernel_rfl) (by kernel_rfl) rfl (fun a w h => h.mem (is := [0, 0, 1]) (js := [0, 1, 2]) rfl rfl) (i_mem (m_loadN (i := 2) rfl rfl ag_29 (vs := [_, _]) sz_29 ⟨rfl, rfl, trivial⟩)) ?_
            have hlen : r.data.length ≤ 262144 := resOk_len h2
            refine GA.all (rs := [7]) (by kernel_rfl) (by simp) ?_
            refine GAs.cons (i := 7) rfl rfl (t_call rfl fn_24 rfl (is := []) (js := [2]) rfl rfl (by exact own_ct _ _ _ _ (by first | omega | exact Nat.le_trans hlen (by decide)))) (by rintro a w ⟨_, _, _, ⟨A41, cp41, l41, k41, rfl, rfl, rfl⟩, h⟩; exact h.mem (is := [1, 1, 2]) (js := [0, 1, 2]) rfl rfl) (GA.ret ?_) ?_
            · rintro _ _ _ ⟨A41, cp41, l41, k41, rfl, rfl, rfl⟩
              refine GA.take 8 rfl (by kernel_rfl) (by kernel_rfl) (by kernel_rfl) rfl (fun a w h => h.mem (is := [1, 1, 2]) (js := [0, 1, 2]) rfl rfl) (i_pure (p_build ze_64 of_64 rfl rfl)) ?_
              refine GA.freezeB (i := 0) rfl ?_
              refine GA.all (rs := [9]) (by kernel_rfl) (by simp) ?_
              refine GAs.cons (i := 9) rfl rfl (t_mapUpdate (i := 2) (j := 2) (u := (⟨se, r⟩ : Last)) (r := ((), ((), (A41, cp41)))) (js := [0]) rfl rfl rfl rfl rfl ⟨trivial, trivial, l41, k41⟩ rfl Try.underlying41 Try.underlying3 (fun _ _ => rfl)) (by rintro a w ⟨_, _, h⟩; exact h.mem (is := [0, 0, 1]) (js := [2, 3, 4]) rfl rfl) (GA.ex fun es_mu10 => GA.ex fun ck_mu10 => ?_) ?_
              · exact GA.done (by kernel_rfl) (fun a w h => ⟨_, _, h.cut (is := [1, 1]) (js := [0]) trivial rfl rfl⟩)
              exact GAs.nil
            exact GAs.nil
          · refine (?_ : GC _ _ _ _)
            refine GC.ex fun es2 => GC.ex fun ck2 => ?_
            refine GC.seq' ?_
            refine GC.region ?_
            refine GL.pure rfl (p_assign rfl) ?_
            refine GL.nil (?_ : GC _ _ _ _)
            refine GC.ret ?_
            refine fun a w h => Fin.back (rs := [.tmp 8]) (vs := [_]) (is := [0, 0]) (js := [0]) rfl ⟨rfl, trivial⟩ rfl rfl ?_ h
            clear h
            refine ⟨es2, ck2, congrArg (Value.int .i64) ?_, rfl, ?_⟩ <;> simp [putF, *]

theorem TabOk.put {T : List (Int × Last)} (h : TabOk T) (cl se : Int) (r : Res) : TabOk (putF T cl se r).2 := by
  unfold putF
  split
  · exact h
  · split
    · exact h
    · rename_i hr
      split
      · exact h
      · split
        · exact h
        · intro k l hl
          by_cases hk : k = cl
          · subst hk
            rw [mget_mput_same] at hl
            simp only [Option.some.injEq] at hl
            subst hl
            exact resOk_len (by simpa using hr)
          · rw [mget_mput_other _ _ hk] at hl
            exact h k l hl

theorem len_ct (p m : Nat) (es : Array MapEntry) (ck : Nat) (T : List (Int × Last)) :
    Ct Try.prog 13 [.pointer (some ⟨p, 0, none⟩)] (tabG p m es ck) [Pers.map kLast true T es ck] (fun v G Q => v = .int .i64 (T.length : Int) ∧ G = tabG p m es ck ∧ Q = []) := by
  refine Ct.intro Try.func13 rfl rfl rfl (fun c hc => ?_)
  refine GC.seq' ?_
  refine GC.region ?_
  refine GL.pure rfl (p_assign rfl) ?_
  refine GL.nil (?_ : GC _ _ _ _)
  refine GC.seq' ?_
  refine GC.seq' ?_
  refine GC.region ?_
  refine GL.pure rfl (p_move rfl) ?_
  refine GL.step rfl (t_call rfl fn_25 rfl (is := [0]) (js := []) rfl rfl (by exact made_ct _ _)) (GL.ret ?_)
  rintro _ _ _ ⟨rfl, rfl, rfl⟩
  refine GL.pure rfl (p_not rfl) ?_
  refine GL.nil (?_ : GC _ _ _ _)
  refine GC.cond_false rfl ?_
  refine GC.skip (?_ : GC _ _ _ _)
  refine GC.seq' ?_
  refine GC.region ?_
  refine GL.pure rfl (p_move rfl) ?_
  refine GL.pure rfl (p_nilCheck rfl) ?_
  refine GL.pure rfl (p_fieldAddr fo_43_0 rfl) ?_
  refine GL.step rfl (t_mem rfl (m_load (i := 0) rfl rfl ag_41 rfl)) ?_
  refine GL.step rfl (t_mem rfl (m_lenmap (i := 1) (j := 0) rfl rfl rfl Try.underlying41)) ?_
  refine GL.pure rfl (p_assign rfl) ?_
  refine GL.nil (?_ : GC _ _ _ _)
  refine GC.ret ?_
  refine fun a w h => Fin.back (rs := [.tmp 2]) (vs := [_]) (is := [0, 0]) (js := []) rfl ⟨rfl, trivial⟩ rfl rfl ?_ h
  clear h
  exact ⟨rfl, rfl, rfl⟩

theorem len_eq (p m : Nat) (es : Array MapEntry) (ck : Nat) (T : List (Int × Last)) (n : Int) (h : (T.length : Int) = n) :
    Ct Try.prog 13 [.pointer (some ⟨p, 0, none⟩)] (tabG p m es ck) [Pers.map kLast true T es ck] (fun v G Q => v = .int .i64 n ∧ G = tabG p m es ck ∧ Q = []) := by
  have := len_ct p m es ck T
  rw [h] at this
  exact this

theorem tnew_ct : Ct Try.prog 9 [] [] [] (fun v G Q => ∃ p m, v = .pointer (some ⟨p, 0, none⟩) ∧ G = tabG p m #[] 0 ∧ Q = [Pers.map kLast true [] #[] 0]) := by
  refine Ct.intro Try.func9 rfl rfl rfl (fun c hc => ?_)
  refine GC.seq' ?_
  refine GC.region ?_
  refine GL.pure rfl (p_assign rfl) ?_
  refine GL.nil (?_ : GC _ _ _ _)
  refine GC.seq' ?_
  refine GC.region ?_
  refine GL.step rfl (t_makeMap rfl) (GL.ex fun m_t1 => ?_)
  refine GL.pure rfl (p_build ze_43 of_43 rfl rfl) ?_
  refine GL.step rfl (t_box rfl rfl rfl) (GL.ex fun b_t3 => ?_)
  refine GL.pure rfl (p_assign rfl) ?_
  refine GL.nil (?_ : GC _ _ _ _)
  refine GC.know (q := Pers.map kLast true [] #[] 0) (fun _ _ _ => ⟨trivial, Stamped.nil⟩) ?_
  refine GC.ret ?_
  refine fun a w h => Fin.back (rs := [.tmp 0]) (vs := [_]) (is := [0, 0]) (js := [0]) rfl ⟨rfl, trivial⟩ rfl rfl ?_ h
  clear h
  exact ⟨_, _, rfl, rfl, rfl⟩

/-- Two results. -/
def sameRes (r s : Res) : Bool := decide (r.code = s.code) && decide (r.data = s.data)
theorem str_eq (x y : List UInt8) : ((⟨x.toArray⟩ : ByteArray) = ⟨y.toArray⟩) = (x = y) := by
  simp
theorem same_ct (r s : Res) (A B : Option Addr) (cp cq : Nat) : Ct Try.prog 12 [.agg #[.int .u8 r.code, .slice A r.data.length cp], .agg #[.int .u8 s.code, .slice B s.data.length cq]] [] [Pers.row Kd.u8 A r.data, Pers.row Kd.u8 B s.data]
    (fun v G Q => v = .bool (sameRes r s) ∧ G = [] ∧ Q = []) := by
  refine Ct.intro Try.func12 rfl rfl rfl (fun c hc => ?_)
  refine GC.seq' ?_
  refine GC.region ?_
  refine GL.step rfl (t_box rfl rfl rfl) (GL.ex fun b_t2 => ?_)
  refine GL.step rfl (t_box rfl rfl rfl) (GL.ex fun b_t3 => ?_)
  refine GL.pure rfl (p_assign rfl) ?_
  refine GL.nil (?_ : GC _ _ _ _)
  refine GC.seq' ?_
  refine GC.region ?_
  refine GL.pure rfl (p_fieldAddr fo_29_0 rfl) ?_
  refine GL.step rfl (t_mem rfl (m_load (i := 1) rfl rfl ag_26 rfl)) ?_
  refine GL.pure rfl (p_fieldAddr fo_29_0 rfl) ?_
  refine GL.step rfl (t_mem rfl (m_load (i := 0) rfl rfl ag_26 rfl)) ?_
  refine GL.pure rfl (p_eql rfl rfl) ?_
  refine GL.pure rfl (p_move rfl) ?_
  refine GL.split (i := 10) rfl (fun h1 => ?_) (fun h1 => ?_)
  · try simp only [decide_eq_true_eq, decide_eq_false_iff_not, Bool.not_eq_true', Bool.not_eq_false', Bool.not_true, Bool.not_false, Bool.not_not, ne_eq, Decidable.not_not, Int.not_lt, Int.not_le, gt_iff_lt, ge_iff_le, bool_true_eq_, bool_false_eq_] at h1
    refine GL.pureG (s := 10) rfl rfl rfl (p_fieldAddr fo_29_1 rfl) ?_
    refine GL.stepG rfl (s := 10) rfl rfl (t_mem rfl (m_load (i := 1) rfl rfl ag_27 rfl)) ?_
    refine GL.stepG rfl (s := 10) rfl rfl (t_mem rfl (m_str (i := 0) rfl rfl Try.underlying27 Try.underlying5 Try.underlying9)) ?_
    refine GL.pureG (s := 10) rfl rfl rfl (p_fieldAddr fo_29_1 rfl) ?_
    refine GL.stepG rfl (s := 10) rfl rfl (t_mem rfl (m_load (i := 0) rfl rfl ag_27 rfl)) ?_
    refine GL.stepG rfl (s := 10) rfl rfl (t_mem rfl (m_str (i := 1) rfl rfl Try.underlying27 Try.underlying5 Try.underlying9)) ?_
    refine GL.pureG (s := 10) rfl rfl rfl (p_seql rfl rfl) ?_
    refine GL.pure rfl (p_pick_true rfl rfl) ?_
    refine GL.pure rfl (p_assign rfl) ?_
    refine GL.nil (?_ : GC _ _ _ _)
    refine GC.ret ?_
    refine fun a w h => Fin.back (rs := [.tmp 4]) (vs := [_]) (is := []) (js := []) rfl ⟨rfl, trivial⟩ rfl rfl ?_ h
    clear h
    refine ⟨congrArg Value.bool ?_, rfl, rfl⟩; simp [sameRes, *]
  · try simp only [decide_eq_true_eq, decide_eq_false_iff_not, Bool.not_eq_true', Bool.not_eq_false', Bool.not_true, Bool.not_false, Bool.not_not, ne_eq, Decidable.not_not, Int.not_lt, Int.not_le, gt_iff_lt, ge_iff_le, bool_true_eq_, bool_false_eq_] at h1
    refine GL.pass (s := 10) rfl rfl rfl ?_
    refine GL.pass (s := 10) rfl rfl rfl ?_
    refine GL.pass (s := 10) rfl rfl rfl ?_
    refine GL.pass (s := 10) rfl rfl rfl ?_
    refine GL.pass (s := 10) rfl rfl rfl ?_
    refine GL.pass (s := 10) rfl rfl rfl ?_
    refine GL.pass (s := 10) rfl rfl rfl ?_
    refine GL.pure rfl (p_pick_false rfl rfl) ?_
    refine GL.pure rfl (p_assign rfl) ?_
    refine GL.nil (?_ : GC _ _ _ _)
    refine GC.ret ?_
    refine fun a w h => Fin.back (rs := [.tmp 4]) (vs := [_]) (is := []) (js := []) rfl ⟨rfl, trivial⟩ rfl rfl ?_ h
    clear h
    refine ⟨congrArg Value.bool ?_, rfl, rfl⟩; simp [sameRes, *]

theorem ask_eq (p m : Nat) (es : Array MapEntry) (ck : Nat) (T : List (Int × Last)) (cl se : Int) (hT : TabOk T) (v : Int) (r : Res) (e : Int) (he : askF T cl se = (v, r, e)) :
    Ct Try.prog 11 [.pointer (some ⟨p, 0, none⟩), .int .i64 cl, .int .i64 se] (tabG p m es ck) [Pers.map kLast true T es ck]
      (fun u G Q => ∃ A cp, r.data.length ≤ cp ∧ cp ≤ 9223372036854775807 ∧ u = resV' v r A cp e ∧ G = tabG p m es ck ∧ Q = [Pers.row Kd.u8 A r.data]) := by
  have := ask_ct p m es ck T cl se hT
  rw [he] at this
  exact this
theorem put_eq (p m : Nat) (es : Array MapEntry) (ck : Nat) (T : List (Int × Last)) (cl se : Int) (r : Res) (A : Option Addr) (cp : Nat) (hT : TabOk T) (e : Int) (T' : List (Int × Last)) (he : putF T cl se r = (e, T')) :
    Ct Try.prog 10 [.pointer (some ⟨p, 0, none⟩), .int .i64 cl, .int .i64 se, .agg #[.int .u8 r.code, .slice A r.data.length cp]] (tabG p m es ck) [Pers.map kLast true T es ck, Pers.row Kd.u8 A r.data]
      (fun v G Q => ∃ es' ck', v = .int .i64 e ∧ G = tabG p m es' ck' ∧ Q = [Pers.map kLast true T' es' ck']) := by
  have := put_ct p m es ck T cl se r A cp hT
  rw [he] at this
  exact this
theorem TabOk.nil : TabOk [] := fun k l h => by simp [mget] at h
theorem TabOk.one (c s : Int) (r : Res) (h : r.data.length ≤ 262144) : TabOk [(c, ⟨s, r⟩)] := fun k l hl => by
  simp only [mget] at hl
  split at hl
  · simp at hl; subst hl; exact h
  · cases hl

theorem awake_ct : Ct Try.prog 8 [] [] [] (fun v G Q => v = .bool true ∧ G = [] ∧ Q = []) := by
  refine Ct.intro Try.func8 rfl rfl rfl (fun c hc => ?_)
  refine GC.seq' ?_
  refine GC.region ?_
  refine GL.pure rfl (p_assign rfl) ?_
  refine GL.nil (?_ : GC _ _ _ _)
  refine GC.seq' ?_
  refine GC.region ?_
  refine GL.step rfl (t_call rfl fn_9 rfl (is := []) (js := []) rfl rfl (by exact tnew_ct)) (GL.ret ?_)
  rintro _ _ _ ⟨p9, m9, rfl, rfl, rfl⟩
  refine GL.pure rfl (p_assign rfl) ?_
  refine GL.nil (?_ : GC _ _ _ _)
  refine GC.seq' ?_
  refine GC.region ?_
  refine GL.pure rfl (p_move rfl) ?_
  refine GL.step rfl (t_buildSlice rfl Try.underlying27 sz_5 ze_5 rfl rfl rfl rfl rfl rfl) (GL.ex fun b_t11 => ?_)
  refine GL.step rfl (t_bytesLit (i := 0) (xs := [120]) rfl rfl rfl rfl Try.underlying27 Try.underlying5) ?_
  refine GL.pure rfl (p_build ze_29 of_29 rfl rfl) ?_
  refine GL.step rfl (t_call rfl fn_10 rfl (is := [0, 0]) (js := [1, 0]) rfl rfl (by exact put_eq _ _ _ _ _ _ _ (⟨1, [120]⟩ : Res) _ _ TabOk.nil 0 [(5, ⟨1, ⟨1, [120]⟩⟩)] rfl)) (GL.ret ?_)
  rintro _ _ _ ⟨es14, ck14, rfl, rfl, rfl⟩
  refine GL.pure rfl (p_assign rfl) ?_
  refine GL.nil (?_ : GC _ _ _ _)
  refine GC.seq' ?_
  refine GC.region ?_
  refine GL.pure rfl (p_move rfl) ?_
  refine GL.step rfl (t_call rfl fn_11 rfl (is := [0, 0]) (js := [0]) rfl rfl (by exact ask_eq _ _ _ _ [(5, ⟨1, ⟨1, [120]⟩⟩)] _ _ (TabOk.one _ _ _ (by decide)) 2 ⟨1, [120]⟩ 0 rfl)) (GL.ret ?_)
  rintro _ _ _ ⟨A17, cp17, l17, m17, rfl, rfl, rfl⟩
  refine GL.pure rfl (p_move rfl) ?_
  refine GL.pure rfl (p_extract rfl rfl) ?_
  refine GL.pure rfl (p_extract rfl rfl) ?_
  refine GL.pure rfl (p_extract rfl rfl) ?_
  refine GL.step rfl (t_alloc rfl ze_29) (GL.ex fun b_t4 => ?_)
  refine GL.pure rfl (p_assign rfl) ?_
  refine GL.step rfl (t_storeN (i := 0) rfl rfl rfl sz_29 rfl rfl rfl) ?_
  refine GL.pure rfl (p_assign rfl) ?_
  refine GL.nil (?_ : GC _ _ _ _)
  refine GC.seq' ?_
  refine GC.region ?_
  refine GL.pure rfl (p_move rfl) ?_
  refine GL.step rfl (t_call rfl fn_11 rfl (is := [1, 1]) (js := [1]) rfl rfl (by exact ask_eq _ _ _ _ [(5, ⟨1, ⟨1, [120]⟩⟩)] _ _ (TabOk.one _ _ _ (by decide)) 1 rz 0 rfl)) (GL.ret ?_)
  rintro _ _ _ ⟨A23, cp23, l23, m23, rfl, rfl, rfl⟩
  refine GL.pure rfl (p_move rfl) ?_
  refine GL.pure rfl (p_extract rfl rfl) ?_
  refine GL.pure rfl (p_extract rfl rfl) ?_
  refine GL.pure rfl (p_extract rfl rfl) ?_
  refine GL.step rfl (t_alloc rfl ze_29) (GL.ex fun b_t7 => ?_)
  refine GL.pure rfl (p_assign rfl) ?_
  refine GL.step rfl (t_storeN (i := 0) rfl rfl rfl sz_29 rfl rfl rfl) ?_
  refine GL.pure rfl (p_assign rfl) ?_
  refine GL.nil (?_ : GC _ _ _ _)
  refine GC.seq' ?_
  refine GC.region ?_
  refine GL.pure rfl (p_move rfl) ?_
  refine GL.pure rfl (p_eql rfl rfl) ?_
  refine GL.pure rfl (p_move rfl) ?_
  refine GL.pureG (s := 29) rfl rfl rfl (p_move rfl) ?_
  refine GL.pureG (s := 29) rfl rfl rfl (p_eql rfl rfl) ?_
  refine GL.pure rfl (p_pick_true rfl rfl) ?_
  refine GL.pure rfl (p_move rfl) ?_
  refine GL.pureG (s := 33) rfl rfl rfl (p_move rfl) ?_
  refine GL.pureG (s := 33) rfl rfl rfl (p_eql rfl rfl) ?_
  refine GL.pure rfl (p_pick_true rfl rfl) ?_
  refine GL.pure rfl (p_move rfl) ?_
  refine GL.pureG (s := 37) rfl rfl rfl (p_fieldAddr fo_29_1 rfl) ?_
  refine GL.stepG rfl (s := 37) rfl rfl (t_mem rfl (m_load (i := 3) rfl rfl ag_27 rfl)) ?_
  refine GL.stepG rfl (s := 37) rfl rfl (t_mem rfl (m_str (i := 1) rfl rfl Try.underlying27 Try.underlying5 Try.underlying9)) ?_
  refine GL.pureG (s := 37) rfl rfl rfl (p_seql rfl rfl) ?_
  refine GL.pure rfl (p_pick_true rfl rfl) ?_
  refine GL.pure rfl (p_move rfl) ?_
  refine GL.split (i := 43) rfl (fun h1 => ?_) (fun h1 => ?_)
  · try simp only [decide_eq_true_eq, decide_eq_false_iff_not, Bool.not_eq_true', Bool.not_eq_false', Bool.not_true, Bool.not_false, Bool.not_not, ne_eq, Decidable.not_not, Int.not_lt, Int.not_le, gt_iff_lt, ge_iff_le, bool_true_eq_, bool_false_eq_] at h1
    refine GL.pureG (s := 43) rfl rfl rfl (p_move rfl) ?_
    refine GL.pureG (s := 43) rfl rfl rfl (p_eql rfl rfl) ?_
    refine GL.pure rfl (p_pick_true rfl rfl) ?_
    refine GL.pure rfl (p_move rfl) ?_
    refine GL.pureG (s := 47) rfl rfl rfl (p_move rfl) ?_
    refine GL.stepG rfl (s := 47) rfl rfl (t_call rfl fn_13 rfl (is := [1, 1]) (js := [2]) rfl rfl (by exact len_ct _ _ _ _ [(5, ⟨1, ⟨1, [120]⟩⟩)])) (GL.ret ?_)
    rintro _ _ _ ⟨rfl, rfl, rfl⟩
    refine GL.pureG (s := 47) rfl rfl rfl (p_eql rfl rfl) ?_
    refine GL.pure rfl (p_pick_true rfl rfl) ?_
    refine GL.pure rfl (p_assign rfl) ?_
    refine GL.nil (?_ : GC _ _ _ _)
    refine GC.ret ?_
    refine fun a w h => Fin.back (rs := [.tmp 0]) (vs := [_]) (is := []) (js := []) rfl ⟨rfl, trivial⟩ rfl rfl ?_ h
    clear h
    exact ⟨rfl, rfl, rfl⟩
  · try simp only [decide_eq_true_eq, decide_eq_false_iff_not, Bool.not_eq_true', Bool.not_eq_false', Bool.not_true, Bool.not_false, Bool.not_not, ne_eq, Decidable.not_not, Int.not_lt, Int.not_le, gt_iff_lt, ge_iff_le, bool_true_eq_, bool_false_eq_] at h1
    exact absurd trivial h1
end Go.Proofs.Ytipjpgjahmadiaa
