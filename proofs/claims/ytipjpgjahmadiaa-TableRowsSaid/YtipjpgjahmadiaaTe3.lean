/- THE TABLE: of both: the last request, rows held against each other, tables out of rows. -/
import Derived.Test.YtipjpgjahmadiaaTe2
set_option linter.unusedVariables false
set_option linter.unusedSimpArgs false
set_option maxRecDepth 100000
namespace Go.Proofs.Ytipjpgjahmadiaa
open Go Go.Sx Go.Proofs
/-! ### the last request -/
def rlastF (L : List Row) (cl : Int) : Int × Bool := match findR L cl with | none => (0, false) | some r => (r.serial, true)
def lastF (T : List (Int × Last)) (cl : Int) : Int × Bool := match mget T cl with | none => (0, false) | some r => (r.serial, true)
theorem rlast_ct (p : Nat) (A : Option Addr) (L : List Row) (cp : Nat) (cl : Int) (hl : L.length ≤ 140737488355328) :
    Ct Try.prog 18 [.pointer (some ⟨p, 0, none⟩), .int .i64 cl] (rtG p A L.length cp) [Pers.row kRow A L]
      (fun u G Q => u = .tuple #[.int .i64 (rlastF L cl).1, .bool (rlastF L cl).2] ∧ G = rtG p A L.length cp ∧ Q = []) := by
  refine Ct.intro Try.func18 rfl rfl rfl (fun c hc => ?_)
  refine GC.seq' ?_
  refine GC.region ?_
  refine GL.pure rfl (p_assign rfl) ?_
  refine GL.pure rfl (p_assign rfl) ?_
  refine GL.nil (?_ : GC _ _ _ _)
  refine GC.seq' ?_
  refine GC.region ?_
  refine GL.pure rfl (p_move rfl) ?_
  refine GL.pure rfl (p_move rfl) ?_
  refine GL.step rfl (t_call rfl fn_33 rfl (is := [0]) (js := [0]) rfl rfl (by exact rfind_ct _ _ _ _ _ (by first | assumption | omega))) (GL.ret ?_)
  rintro _ _ _ ⟨i9, hi9, rfl, rfl, rfl⟩
  refine GL.pure rfl (p_assign rfl) ?_
  refine GL.nil (?_ : GC _ _ _ _)
  refine GC.seq' ?_
  refine GC.seq' ?_
  refine GC.region ?_
  refine GL.pure rfl (p_move rfl) ?_
  refine GL.pure rfl (p_lss rfl rfl) ?_
  refine GL.nil (?_ : GC _ _ _ _)
  refine GC.cond rfl (fun h1 => ?_) (fun h1 => ?_)
  · try simp only [decide_eq_true_eq, decide_eq_false_iff_not, Bool.not_eq_true', Bool.not_eq_false', Bool.not_true, Bool.not_false, Bool.not_not, ne_eq, Decidable.not_not, Int.not_lt, Int.not_le, gt_iff_lt, ge_iff_le, bool_true_eq_, bool_false_eq_] at h1
    first
    | (exfalso; omega)
    | (skip
       refine GC.seq' ?_
       refine GC.region ?_
       refine GL.pure rfl (p_assign rfl) ?_
       refine GL.pure rfl (p_assign rfl) ?_
       refine GL.nil (?_ : GC _ _ _ _)
       refine GC.ret ?_
       refine fun a w h => Fin.back (rs := [.tmp 4, .tmp 5]) (vs := [_, _]) (is := [0]) (js := []) rfl ⟨rfl, rfl, trivial⟩ rfl rfl ?_ h
       clear h
       have e : rlastF L cl = (0, false) := by rcases hi9 with ⟨g1, g2⟩ | ⟨g1, g2, g3⟩ <;> first | omega | (rw [rlastF, g2])
       rw [e]; exact ⟨rfl, rfl, rfl⟩)
  · try simp only [decide_eq_true_eq, decide_eq_false_iff_not, Bool.not_eq_true', Bool.not_eq_false', Bool.not_true, Bool.not_false, Bool.not_not, ne_eq, Decidable.not_not, Int.not_lt, Int.not_le, gt_iff_lt, ge_iff_le, bool_true_eq_, bool_false_eq_] at h1
    first
    | (exfalso; omega)
    | (skip
       refine GC.skip (?_ : GC _ _ _ _)
       refine GC.seq' ?_
       refine GC.region ?_
       refine GL.pure rfl (p_move rfl) ?_
       refine GL.pure rfl (p_nilCheck rfl) ?_
       refine GL.pure rfl (p_fieldAddr fo_55_0 rfl) ?_
       refine GL.step rfl (t_mem rfl (m_load (i := 0) rfl rfl ag_47 rfl)) ?_
       refine GL.pure rfl (p_move rfl) ?_
       refine GL.step rfl (t_index (i := 0) rfl rfl rfl rfl Try.underlying47 sz_68 (by omega) (gt_ok (by omega) (by omega))) (GL.ex fun p_x17 => GL.ex fun r_x17 => GL.and fun ok_x17 => ?_)
       rcases r_x17 with ⟨_, ⟨_, ⟨_, ⟨Ax17_0, cpx17_0⟩⟩⟩⟩
       refine GL.pure rfl (p_fieldAddr' fo_68_1 rfl) ?_
       refine GL.step rfl (t_mem rfl (m_loadP (i := 0) rfl rfl ag_3 rfl)) ?_
       refine GL.pure rfl (p_assign rfl) ?_
       refine GL.pure rfl (p_assign rfl) ?_
       refine GL.nil (?_ : GC _ _ _ _)
       refine GC.ret ?_
       refine fun a w h => Fin.back (rs := [.tmp 4, .tmp 5]) (vs := [_, _]) (is := [0]) (js := []) rfl ⟨rfl, rfl, trivial⟩ rfl rfl ?_ h
       clear h
       have e : rlastF L cl = ((gt L i9).serial, true) := by rcases hi9 with ⟨g1, g2⟩ | ⟨g1, g2, g3⟩ <;> first | omega | (rw [rlastF, g3])
       rw [e]; exact ⟨rfl, rfl, rfl⟩)
theorem lastF_none {T : List (Int × Last)} {cl : Int} (h : mget T cl = none) : lastF T cl = (0, false) := by unfold lastF; rw [h]
theorem lastF_some {T : List (Int × Last)} {cl : Int} {u : Last} (h : mget T cl = some u) : lastF T cl = (u.serial, true) := by unfold lastF; rw [h]
theorem last_ct (p m : Nat) (es : Array MapEntry) (ck : Nat) (T : List (Int × Last)) (cl : Int) :
    Ct Try.prog 14 [.pointer (some ⟨p, 0, none⟩), .int .i64 cl] (tabG p m es ck) [Pers.map kLast true T es ck]
      (fun u G Q => u = .tuple #[.int .i64 (lastF T cl).1, .bool (lastF T cl).2] ∧ G = tabG p m es ck ∧ Q = []) := by
  refine Ct.intro Try.func14 rfl rfl rfl (fun c hc => ?_)
  refine GC.seq' ?_
  refine GC.region ?_
  refine GL.pure rfl (p_assign rfl) ?_
  refine GL.pure rfl (p_assign rfl) ?_
  refine GL.nil (?_ : GC _ _ _ _)
  refine GC.seq' ?_
  refine GC.seq' ?_
  refine GC.region ?_
  refine GL.pure rfl (p_move rfl) ?_
  refine GL.step rfl (t_call rfl fn_25 rfl (is := [0]) (js := []) rfl rfl (by exact made_ct _ _)) (GL.ret ?_)
  rintro _ _ _ ⟨rfl, rfl, rfl⟩
  refine GL.pure rfl (p_not rfl) ?_
  refine GL.nil (?_ : GC _ _ _ _)
  refine GC.cond_false rfl ?_
  refine GC.skip (?_ : GC _ _ _ _)
  refine GC.seq' ?_
  refine GC.region ?_
  refine GL.pure rfl (p_move rfl) ?_
  refine GL.pure rfl (p_nilCheck rfl) ?_
  refine GL.pure rfl (p_fieldAddr fo_43_0 rfl) ?_
  refine GL.step rfl (t_mem rfl (m_load (i := 0) rfl rfl ag_41 rfl)) ?_
  refine GL.pure rfl (p_move rfl) ?_
  refine GL.step rfl (t_lookup (i := 1) (j := 0) rfl rfl rfl rfl rfl Try.underlying41 Try.underlying3 ze_64 zb_64) (GL.or (GL.and fun n_m17 => ?_) (GL.ex fun u_m17 => GL.ex fun r_m17 => GL.and fun s_m17 => GL.and fun ok_m17 => ?_))
  · refine GL.pure rfl (p_move rfl) ?_
    refine GL.pure rfl (p_extract rfl rfl) ?_
    refine GL.pure rfl (p_extract rfl rfl) ?_
    refine GL.step rfl (t_alloc rfl ze_64) (GL.ex fun b_t6 => ?_)
    refine GL.step rfl (t_storeN (i := 0) rfl rfl rfl sz_64 rfl rfl rfl) ?_
    refine GL.pure rfl (p_assign rfl) ?_
    refine GL.nil (?_ : GC _ _ _ _)
    refine GC.seq' ?_
    refine GC.region ?_
    refine GL.pure rfl (p_fieldAddr fo_64_0 rfl) ?_
    refine GL.step rfl (t_mem rfl (m_load (i := 0) rfl rfl ag_3 rfl)) ?_
    refine GL.pure rfl (p_move rfl) ?_
    refine GL.pure rfl (p_assign rfl) ?_
    refine GL.pure rfl (p_assign rfl) ?_
    refine GL.nil (?_ : GC _ _ _ _)
    refine GC.ret ?_
    refine fun a w h => Fin.back (rs := [.tmp 4, .tmp 5]) (vs := [_, _]) (is := [1, 1]) (js := []) rfl ⟨rfl, rfl, trivial⟩ rfl rfl ?_ h
    clear h
    first | rw [lastF_none n_m17] | rw [lastF_some s_m17]
    exact ⟨rfl, rfl, rfl⟩
  · rcases r_m17 with ⟨_, ⟨_, ⟨Am17_0, cpm17_0⟩⟩⟩
    refine GL.pure rfl (p_move rfl) ?_
    refine GL.pure rfl (p_extract rfl rfl) ?_
    refine GL.pure rfl (p_extract rfl rfl) ?_
    refine GL.step rfl (t_alloc rfl ze_64) (GL.ex fun b_t6 => ?_)
    refine GL.step rfl (t_storeN (i := 0) rfl rfl rfl sz_64 rfl rfl rfl) ?_
    refine GL.pure rfl (p_assign rfl) ?_
    refine GL.nil (?_ : GC _ _ _ _)
    refine GC.seq' ?_
    refine GC.region ?_
    refine GL.pure rfl (p_fieldAddr fo_64_0 rfl) ?_
    refine GL.step rfl (t_mem rfl (m_load (i := 0) rfl rfl ag_3 rfl)) ?_
    refine GL.pure rfl (p_move rfl) ?_
    refine GL.pure rfl (p_assign rfl) ?_
    refine GL.pure rfl (p_assign rfl) ?_
    refine GL.nil (?_ : GC _ _ _ _)
    refine GC.ret ?_
    refine fun a w h => Fin.back (rs := [.tmp 4, .tmp 5]) (vs := [_, _]) (is := [1, 1]) (js := []) rfl ⟨rfl, rfl, trivial⟩ rfl rfl ?_ h
    clear h
    first | rw [lastF_none n_m17] | rw [lastF_some s_m17]
    exact ⟨rfl, rfl, rfl⟩
/-! ### rows held against each other -/
theorem sameRes_iff (r s : Res) : sameRes r s = decide (r = s) := by
  cases r; cases s; simp [sameRes]
theorem row_ext {r s : Row} (h1 : r.client = s.client) (h2 : r.serial = s.serial) (h3 : r.result = s.result) : r = s := by
  cases r; cases s; simp_all
theorem gt_ne {α : Type} [Inhabited α] {a b : List α} {k : Int} (h : gt a k ≠ gt b k) : a ≠ b := fun e => h (by rw [e])
theorem list_ext_gt {α : Type} [Inhabited α] {a b : List α} (hl : a.length = b.length) (h : ∀ j : Nat, j < a.length → gt a (j : Int) = gt b (j : Int)) : a = b := by
  apply List.ext_getElem hl
  intro i h1 h2
  have g1 := gt_ok (xs := a) (i := (i : Int)) (by omega) (by omega)
  have g2 := gt_ok (xs := b) (i := (i : Int)) (by omega) (by omega)
  simp only [Int.toNat_natCast, List.getElem?_eq_getElem h1, List.getElem?_eq_getElem h2, Option.some.injEq] at g1 g2
  rw [g1, g2, h i h1]
theorem rsame_ct (A : Option Addr) (a_ : List Row) (cp : Nat) (B : Option Addr) (b_ : List Row) (cq : Nat) (hl : a_.length ≤ 140737488355328) : Ct Try.prog 19 [.slice A a_.length cp, .slice B b_.length cq] [] [Pers.row kRow A a_, Pers.row kRow B b_] (fun u G Q => u = .bool (decide (a_ = b_)) ∧ G = [] ∧ Q = []) := by
  refine Ct.intro Try.func19 rfl rfl rfl (fun c hc => ?_)
  refine GC.seq' ?_
  refine GC.region ?_
  refine GL.pure rfl (p_assign rfl) ?_
  refine GL.nil (?_ : GC _ _ _ _)
  refine GC.seq' ?_
  refine GC.seq' ?_
  refine GC.region ?_
  refine GL.pure rfl (p_move rfl) ?_
  refine GL.pure rfl (p_len Try.underlying47 rfl) ?_
  refine GL.pure rfl (p_move rfl) ?_
  refine GL.pure rfl (p_len Try.underlying47 rfl) ?_
  refine GL.pure rfl (p_neq rfl rfl) ?_
  refine GL.nil (?_ : GC _ _ _ _)
  refine GC.cond rfl (fun h1 => ?_) (fun h1 => ?_)
  · try simp only [decide_eq_true_eq, decide_eq_false_iff_not, Bool.not_eq_true', Bool.not_eq_false', Bool.not_true, Bool.not_false, Bool.not_not, ne_eq, Decidable.not_not, Int.not_lt, Int.not_le, gt_iff_lt, ge_iff_le, bool_true_eq_, bool_false_eq_, sameRes_iff] at h1
    first
    | (exfalso; omega)
    | (skip
       refine GC.seq' ?_
       refine GC.region ?_
       refine GL.pure rfl (p_assign rfl) ?_
       refine GL.nil (?_ : GC _ _ _ _)
       refine GC.ret ?_
       refine fun a w h => Fin.back (rs := [.tmp 4]) (vs := [_]) (is := []) (js := []) rfl ⟨rfl, trivial⟩ rfl rfl ?_ h
       clear h
       exact ⟨congrArg Value.bool (decide_eq_false fun e => by subst e; omega).symm, rfl, rfl⟩)
  · try simp only [decide_eq_true_eq, decide_eq_false_iff_not, Bool.not_eq_true', Bool.not_eq_false', Bool.not_true, Bool.not_false, Bool.not_not, ne_eq, Decidable.not_not, Int.not_lt, Int.not_le, gt_iff_lt, ge_iff_le, bool_true_eq_, bool_false_eq_, sameRes_iff] at h1
    first
    | (exfalso; omega)
    | (skip
       refine GC.skip (?_ : GC _ _ _ _)
       refine GC.seq' ?_
       refine GC.seq' ?_
       refine GC.region ?_
       refine GL.pure rfl (p_assign rfl) ?_
       refine GL.nil (?_ : GC _ _ _ _)
       refine GC.block ?_
       refine GC.loopK1 (ks := [0, 1]) (is := []) (js := [0, 1]) (fun (k : Nat) => k ≤ a_.length ∧ ∀ j : Nat, j < k → gt a_ (j : Int) = gt b_ (j : Int)) (fun (k : Nat) => [(5, .int .i64 (k : Int))]) (fun (k : Nat) => []) (fun (k : Nat) => []) (fun (k : Nat) => a_.length - k) (0) rfl rfl rfl (fun a w h => ⟨⟨by omega, fun j hj => by omega⟩, h.cutK (is := []) (js := [0, 1]) (ks := [0, 1]) (by exact ⟨rfl, trivial⟩) rfl rfl rfl⟩) ?_
       intro k hk
       try dsimp only [List.cons_append, List.nil_append] at hk ⊢
       obtain ⟨hk, he⟩ := hk
       refine GC.seq' ?_
       refine GC.seq' ?_
       refine GC.region ?_
       refine GL.pure rfl (p_move rfl) ?_
       refine GL.pure rfl (p_move rfl) ?_
       refine GL.pure rfl (p_len Try.underlying47 rfl) ?_
       refine GL.pure rfl (p_lss rfl rfl) ?_
       refine GL.nil (?_ : GC _ _ _ _)
       refine GC.cond rfl (fun h2 => ?_) (fun h2 => ?_)
       · try simp only [decide_eq_true_eq, decide_eq_false_iff_not, Bool.not_eq_true', Bool.not_eq_false', Bool.not_true, Bool.not_false, Bool.not_not, ne_eq, Decidable.not_not, Int.not_lt, Int.not_le, gt_iff_lt, ge_iff_le, bool_true_eq_, bool_false_eq_, sameRes_iff] at h2
         first
         | (exfalso; omega)
         | (skip
            refine GC.skip (?_ : GC _ _ _ _)
            refine GC.seq' ?_
            refine GC.block ?_
            refine GC.seq' ?_
            refine GC.lay (x := .tmp 0) (y := .tmp 5) (j := 0) rfl rfl rfl (by omega) (gt_ok (by omega) (by omega)) (fun p_x19 r_x19 hA_x19 ok_x19 => ?_)
            rcases r_x19 with ⟨_, ⟨_, ⟨_, ⟨Ax19_0, cpx19_0⟩⟩⟩⟩
            refine GC.lay (x := .tmp 1) (y := .tmp 5) (j := 3) rfl rfl rfl (by omega) (gt_ok (by omega) (by omega)) (fun p_x24 r_x24 hA_x24 ok_x24 => ?_)
            rcases r_x24 with ⟨_, ⟨_, ⟨_, ⟨Ax24_0, cpx24_0⟩⟩⟩⟩
            refine GC.lay (x := .tmp 0) (y := .tmp 5) (j := 4) rfl rfl rfl (by omega) (gt_ok (by omega) (by omega)) (fun p_x31 r_x31 hA_x31 ok_x31 => ?_)
            rcases r_x31 with ⟨_, ⟨_, ⟨_, ⟨Ax31_0, cpx31_0⟩⟩⟩⟩
            refine GC.lay (x := .tmp 1) (y := .tmp 5) (j := 7) rfl rfl rfl (by omega) (gt_ok (by omega) (by omega)) (fun p_x36 r_x36 hA_x36 ok_x36 => ?_)
            rcases r_x36 with ⟨_, ⟨_, ⟨_, ⟨Ax36_0, cpx36_0⟩⟩⟩⟩
            refine GC.lay (x := .tmp 0) (y := .tmp 5) (j := 8) rfl rfl rfl (by omega) (gt_ok (by omega) (by omega)) (fun p_x44 r_x44 hA_x44 ok_x44 => ?_)
            rcases r_x44 with ⟨_, ⟨_, ⟨_, ⟨Ax44_0, cpx44_0⟩⟩⟩⟩
            refine GC.lay (x := .tmp 1) (y := .tmp 5) (j := 11) rfl rfl rfl (by omega) (gt_ok (by omega) (by omega)) (fun p_x49 r_x49 hA_x49 ok_x49 => ?_)
            rcases r_x49 with ⟨_, ⟨_, ⟨_, ⟨Ax49_0, cpx49_0⟩⟩⟩⟩
            refine GC.regionQ wide_ (by kernel_rfl) ?_
            refine GQ.step rfl (q_pure (p_move rfl)) ?_
            refine GQ.step rfl (q_pure (p_move rfl)) ?_
            refine GQ.step rfl (q_pure (p_indexL hA_x19 rfl rfl Try.underlying47 sz_68 (by omega) (by omega))) ?_
            refine GQ.step rfl (q_pure (p_fieldAddr' fo_68_0 rfl)) ?_
            refine GQ.step rfl (q_mem (m_loadP (i := 10) rfl rfl ag_3 rfl)) ?_
            refine GQ.step rfl (q_pure (p_move rfl)) ?_
            refine GQ.step rfl (q_pure (p_move rfl)) ?_
            refine GQ.step rfl (q_pure (p_indexL hA_x24 rfl rfl Try.underlying47 sz_68 (by omega) (by omega))) ?_
            refine GQ.step rfl (q_pure (p_fieldAddr' fo_68_0 rfl)) ?_
            refine GQ.step rfl (q_mem (m_loadP (i := 8) rfl rfl ag_3 rfl)) ?_
            refine GQ.step rfl (q_pure (p_neq rfl rfl)) ?_
            refine GQ.step rfl (q_pure (p_move rfl)) ?_
            refine GQ.split (i := 28) rfl (fun h3 => ?_) (fun h3 => ?_)
            · try simp only [decide_eq_true_eq, decide_eq_false_iff_not, Bool.not_eq_true', Bool.not_eq_false', Bool.not_true, Bool.not_false, Bool.not_not, ne_eq, Decidable.not_not, Int.not_lt, Int.not_le, gt_iff_lt, ge_iff_le, bool_true_eq_, bool_false_eq_, sameRes_iff] at h3
              first
              | (exfalso; omega)
              | (skip
                 refine GQ.pass (s := 28) rfl rfl rfl ?_
                 refine GQ.pass (s := 28) rfl rfl rfl ?_
                 refine GQ.pass (s := 28) rfl rfl rfl ?_
                 refine GQ.pass (s := 28) rfl rfl rfl ?_
                 refine GQ.pass (s := 28) rfl rfl rfl ?_
                 refine GQ.pass (s := 28) rfl rfl rfl ?_
                 refine GQ.pass (s := 28) rfl rfl rfl ?_
                 refine GQ.pass (s := 28) rfl rfl rfl ?_
                 refine GQ.pass (s := 28) rfl rfl rfl ?_
                 refine GQ.pass (s := 28) rfl rfl rfl ?_
                 refine GQ.pass (s := 28) rfl rfl rfl ?_
                 refine GQ.step rfl (q_pure (p_pick_true rfl rfl)) ?_
                 refine GQ.step rfl (q_pure (p_move rfl)) ?_
                 refine GQ.pass (s := 41) rfl rfl rfl ?_
                 refine GQ.pass (s := 41) rfl rfl rfl ?_
                 refine GQ.pass (s := 41) rfl rfl rfl ?_
                 refine GQ.pass (s := 41) rfl rfl rfl ?_
                 refine GQ.pass (s := 41) rfl rfl rfl ?_
                 refine GQ.pass (s := 41) rfl rfl rfl ?_
                 refine GQ.pass (s := 41) rfl rfl rfl ?_
                 refine GQ.pass (s := 41) rfl rfl rfl ?_
                 refine GQ.pass (s := 41) rfl rfl rfl ?_
                 refine GQ.pass (s := 41) rfl rfl rfl ?_
                 refine GQ.pass (s := 41) rfl rfl rfl ?_
                 refine GQ.pass (s := 41) rfl rfl rfl ?_
                 refine GQ.step rfl (q_pure (p_pick_true rfl rfl)) ?_
                 refine GQ.nil (?_ : GC _ _ _ _)
                 refine GC.cond_true rfl ?_
                 refine GC.seq' ?_
                 refine GC.region ?_
                 refine GL.pure rfl (p_assign rfl) ?_
                 refine GL.nil (?_ : GC _ _ _ _)
                 refine GC.ret ?_
                 refine fun a w h => Fin.back (rs := [.tmp 4]) (vs := [_]) (is := []) (js := []) rfl ⟨rfl, trivial⟩ rfl rfl ?_ h
                 clear h
                 exact ⟨congrArg Value.bool (decide_eq_false (gt_ne (k := (k : Int)) fun e => by simp_all)).symm, rfl, rfl⟩)
            · try simp only [decide_eq_true_eq, decide_eq_false_iff_not, Bool.not_eq_true', Bool.not_eq_false', Bool.not_true, Bool.not_false, Bool.not_not, ne_eq, Decidable.not_not, Int.not_lt, Int.not_le, gt_iff_lt, ge_iff_le, bool_true_eq_, bool_false_eq_, sameRes_iff] at h3
              first
              | (exfalso; omega)
              | (skip
                 refine GQ.stepG (s := 28) rfl rfl rfl (q_pure (p_move rfl)) ?_
                 refine GQ.stepG (s := 28) rfl rfl rfl (q_pure (p_move rfl)) ?_
                 refine GQ.stepG (s := 28) rfl rfl rfl (q_pure (p_indexL hA_x31 rfl rfl Try.underlying47 sz_68 (by omega) (by omega))) ?_
                 refine GQ.stepG (s := 28) rfl rfl rfl (q_pure (p_fieldAddr' fo_68_1 rfl)) ?_
                 refine GQ.stepG (s := 28) rfl rfl rfl (q_mem (m_loadP (i := 6) rfl rfl ag_3 rfl)) ?_
                 refine GQ.stepG (s := 28) rfl rfl rfl (q_pure (p_move rfl)) ?_
                 refine GQ.stepG (s := 28) rfl rfl rfl (q_pure (p_move rfl)) ?_
                 refine GQ.stepG (s := 28) rfl rfl rfl (q_pure (p_indexL hA_x36 rfl rfl Try.underlying47 sz_68 (by omega) (by omega))) ?_
                 refine GQ.stepG (s := 28) rfl rfl rfl (q_pure (p_fieldAddr' fo_68_1 rfl)) ?_
                 refine GQ.stepG (s := 28) rfl rfl rfl (q_mem (m_loadP (i := 4) rfl rfl ag_3 rfl)) ?_
                 refine GQ.stepG (s := 28) rfl rfl rfl (q_pure (p_neq rfl rfl)) ?_
                 refine GQ.step rfl (q_pure (p_pick_false rfl rfl)) ?_
                 refine GQ.step rfl (q_pure (p_move rfl)) ?_
                 refine GQ.split (i := 41) rfl (fun h4 => ?_) (fun h4 => ?_)
                 · try simp only [decide_eq_true_eq, decide_eq_false_iff_not, Bool.not_eq_true', Bool.not_eq_false', Bool.not_true, Bool.not_false, Bool.not_not, ne_eq, Decidable.not_not, Int.not_lt, Int.not_le, gt_iff_lt, ge_iff_le, bool_true_eq_, bool_false_eq_, sameRes_iff] at h4
                   first
                   | (exfalso; omega)
                   | (skip
                      refine GQ.pass (s := 41) rfl rfl rfl ?_
                      refine GQ.pass (s := 41) rfl rfl rfl ?_
                      refine GQ.pass (s := 41) rfl rfl rfl ?_
                      refine GQ.pass (s := 41) rfl rfl rfl ?_
                      refine GQ.pass (s := 41) rfl rfl rfl ?_
                      refine GQ.pass (s := 41) rfl rfl rfl ?_
                      refine GQ.pass (s := 41) rfl rfl rfl ?_
                      refine GQ.pass (s := 41) rfl rfl rfl ?_
                      refine GQ.pass (s := 41) rfl rfl rfl ?_
                      refine GQ.pass (s := 41) rfl rfl rfl ?_
                      refine GQ.pass (s := 41) rfl rfl rfl ?_
                      refine GQ.pass (s := 41) rfl rfl rfl ?_
                      refine GQ.step rfl (q_pure (p_pick_true rfl rfl)) ?_
                      refine GQ.nil (?_ : GC _ _ _ _)
                      refine GC.cond_true rfl ?_
                      refine GC.seq' ?_
                      refine GC.region ?_
                      refine GL.pure rfl (p_assign rfl) ?_
                      refine GL.nil (?_ : GC _ _ _ _)
                      refine GC.ret ?_
                      refine fun a w h => Fin.back (rs := [.tmp 4]) (vs := [_]) (is := []) (js := []) rfl ⟨rfl, trivial⟩ rfl rfl ?_ h
                      clear h
                      exact ⟨congrArg Value.bool (decide_eq_false (gt_ne (k := (k : Int)) fun e => by simp_all)).symm, rfl, rfl⟩)
                 · try simp only [decide_eq_true_eq, decide_eq_false_iff_not, Bool.not_eq_true', Bool.not_eq_false', Bool.not_true, Bool.not_false, Bool.not_not, ne_eq, Decidable.not_not, Int.not_lt, Int.not_le, gt_iff_lt, ge_iff_le, bool_true_eq_, bool_false_eq_, sameRes_iff] at h4
                   first
                   | (exfalso; omega)
                   | (skip
                      refine GQ.stepG (s := 41) rfl rfl rfl (q_pure (p_move rfl)) ?_
                      refine GQ.stepG (s := 41) rfl rfl rfl (q_pure (p_move rfl)) ?_
                      refine GQ.stepG (s := 41) rfl rfl rfl (q_pure (p_indexL hA_x44 rfl rfl Try.underlying47 sz_68 (by omega) (by omega))) ?_
                      refine GQ.stepG (s := 41) rfl rfl rfl (q_pure (p_fieldAddr' fo_68_2 rfl)) ?_
                      refine GQ.stepG (s := 41) rfl rfl rfl (q_mem (m_loadPN (i := 2) rfl rfl ag_29 (vs := [_, _]) sz_29 ⟨rfl, rfl, trivial⟩)) ?_
                      refine GQ.stepG (s := 41) rfl rfl rfl (q_pure (p_move rfl)) ?_
                      refine GQ.stepG (s := 41) rfl rfl rfl (q_pure (p_move rfl)) ?_
                      refine GQ.stepG (s := 41) rfl rfl rfl (q_pure (p_indexL hA_x49 rfl rfl Try.underlying47 sz_68 (by omega) (by omega))) ?_
                      refine GQ.stepG (s := 41) rfl rfl rfl (q_pure (p_fieldAddr' fo_68_2 rfl)) ?_
                      refine GQ.stepG (s := 41) rfl rfl rfl (q_mem (m_loadPN (i := 0) rfl rfl ag_29 (vs := [_, _]) sz_29 ⟨rfl, rfl, trivial⟩)) ?_
                      refine GQ.stepG (s := 41) rfl rfl rfl (q_call fn_12 rfl (js := [3, 1]) rfl (by exact same_ct _ _ _ _ _ _)) ?_
                      refine GQ.stepG (s := 41) rfl rfl rfl (q_pure (p_not rfl)) ?_
                      refine GQ.step rfl (q_pure (p_pick_false rfl rfl)) ?_
                      refine GQ.nil (?_ : GC _ _ _ _)
                      refine GC.cond rfl (fun h5 => ?_) (fun h5 => ?_)
                      · try simp only [decide_eq_true_eq, decide_eq_false_iff_not, Bool.not_eq_true', Bool.not_eq_false', Bool.not_true, Bool.not_false, Bool.not_not, ne_eq, Decidable.not_not, Int.not_lt, Int.not_le, gt_iff_lt, ge_iff_le, bool_true_eq_, bool_false_eq_, sameRes_iff] at h5
                        first
                        | (exfalso; omega)
                        | (skip
                           refine GC.seq' ?_
                           refine GC.region ?_
                           refine GL.pure rfl (p_assign rfl) ?_
                           refine GL.nil (?_ : GC _ _ _ _)
                           refine GC.ret ?_
                           refine fun a w h => Fin.back (rs := [.tmp 4]) (vs := [_]) (is := []) (js := []) rfl ⟨rfl, trivial⟩ rfl rfl ?_ h
                           clear h
                           exact ⟨congrArg Value.bool (decide_eq_false (gt_ne (k := (k : Int)) fun e => by simp_all)).symm, rfl, rfl⟩)
                      · try simp only [decide_eq_true_eq, decide_eq_false_iff_not, Bool.not_eq_true', Bool.not_eq_false', Bool.not_true, Bool.not_false, Bool.not_not, ne_eq, Decidable.not_not, Int.not_lt, Int.not_le, gt_iff_lt, ge_iff_le, bool_true_eq_, bool_false_eq_, sameRes_iff] at h5
                        first
                        | (exfalso; omega)
                        | (skip
                           refine GC.skip (?_ : GC _ _ _ _)
                           refine GC.region ?_
                           refine GL.pure rfl (p_move rfl) ?_
                           refine GL.pure rfl (p_add rfl rfl (w64 (by omega) (by omega))) ?_
                           refine GL.pure rfl (p_assign rfl) ?_
                           refine GL.nil ?_
                           exact fun a w h => ⟨(k + 1), (by omega), ⟨by omega, fun j hj => (Nat.lt_succ_iff_lt_or_eq.1 hj).elim (he j) (fun e => by subst e; exact row_ext (by assumption) (by assumption) (by assumption))⟩, h.cut (is := []) (js := [12, 13]) ⟨rfl, rfl, rfl, trivial⟩ rfl rfl⟩))))
       · try simp only [decide_eq_true_eq, decide_eq_false_iff_not, Bool.not_eq_true', Bool.not_eq_false', Bool.not_true, Bool.not_false, Bool.not_not, ne_eq, Decidable.not_not, Int.not_lt, Int.not_le, gt_iff_lt, ge_iff_le, bool_true_eq_, bool_false_eq_, sameRes_iff] at h2
         first
         | (exfalso; omega)
         | (skip
            refine GC.exit (?_ : GC _ _ _ _)
            refine GC.seq' ?_
            refine GC.region ?_
            refine GL.pure rfl (p_assign rfl) ?_
            refine GL.nil (?_ : GC _ _ _ _)
            refine GC.ret ?_
            refine fun a w h => Fin.back (rs := [.tmp 4]) (vs := [_]) (is := []) (js := []) rfl ⟨rfl, trivial⟩ rfl rfl ?_ h
            clear h
            exact ⟨congrArg Value.bool (decide_eq_true (list_ext_gt (by omega) fun j hj => he j (by omega))).symm, rfl, rfl⟩))
theorem equal_ct (A : Option Addr) (xs : List UInt8) (cp : Nat) (B : Option Addr) (ys : List UInt8) (cq : Nat) : Ct Try.prog 36 [.slice A xs.length cp, .slice B ys.length cq] [] [Pers.row Kd.u8 A xs, Pers.row Kd.u8 B ys]
    (fun v G Q => v = .bool (decide (xs = ys)) ∧ G = [] ∧ Q = []) := by
  refine Ct.intro Try.func36 rfl rfl rfl (fun c hc => ?_)
  refine GC.seq' ?_
  refine GC.region ?_
  refine GL.pure rfl (p_assign rfl) ?_
  refine GL.nil (?_ : GC _ _ _ _)
  refine GC.seq' ?_
  refine GC.region ?_
  refine GL.pure rfl (p_move rfl) ?_
  refine GL.step rfl (t_mem rfl (m_str (i := 0) rfl rfl Try.underlying27 Try.underlying5 Try.underlying9)) ?_
  refine GL.pure rfl (p_move rfl) ?_
  refine GL.step rfl (t_mem rfl (m_str (i := 1) rfl rfl Try.underlying27 Try.underlying5 Try.underlying9)) ?_
  refine GL.pure rfl (p_seql rfl rfl) ?_
  refine GL.pure rfl (p_assign rfl) ?_
  refine GL.nil (?_ : GC _ _ _ _)
  refine GC.ret ?_
  refine fun a w h => Fin.back (rs := [.tmp 4]) (vs := [_]) (is := []) (js := []) rfl ⟨rfl, trivial⟩ rfl rfl ?_ h
  clear h
  refine ⟨congrArg Value.bool ?_, rfl, rfl⟩; simp
theorem samec_ct (r s : Row) (A : Option Addr) (cp : Nat) (B : Option Addr) (cq : Nat) : Ct Try.prog 35 [.agg #[.int .i64 r.client, .int .i64 r.serial, .int .u8 r.result.code, .slice A r.result.data.length cp], .agg #[.int .i64 s.client, .int .i64 s.serial, .int .u8 s.result.code, .slice B s.result.data.length cq]] [] [Pers.row Kd.u8 A r.result.data, Pers.row Kd.u8 B s.result.data] (fun u G Q => u = .bool (decide (r = s)) ∧ G = [] ∧ Q = []) := by
  refine Ct.intro Try.func35 rfl rfl rfl (fun c hc => ?_)
  refine GC.seq' ?_
  refine GC.region ?_
  refine GL.step rfl (t_box rfl rfl rfl) (GL.ex fun b_t2 => ?_)
  refine GL.step rfl (t_box rfl rfl rfl) (GL.ex fun b_t3 => ?_)
  refine GL.pure rfl (p_assign rfl) ?_
  refine GL.nil (?_ : GC _ _ _ _)
  refine GC.seq' ?_
  refine GC.region ?_
  refine GL.pure rfl (p_fieldAddr fo_68_0 rfl) ?_
  refine GL.step rfl (t_mem rfl (m_load (i := 1) rfl rfl ag_3 rfl)) ?_
  refine GL.pure rfl (p_fieldAddr fo_68_0 rfl) ?_
  refine GL.step rfl (t_mem rfl (m_load (i := 0) rfl rfl ag_3 rfl)) ?_
  refine GL.pure rfl (p_eql rfl rfl) ?_
  refine GL.pure rfl (p_move rfl) ?_
  refine GL.split (i := 10) rfl (fun h1 => ?_) (fun h1 => ?_)
  · try simp only [decide_eq_true_eq, decide_eq_false_iff_not, Bool.not_eq_true', Bool.not_eq_false', Bool.not_true, Bool.not_false, Bool.not_not, ne_eq, Decidable.not_not, Int.not_lt, Int.not_le, gt_iff_lt, ge_iff_le, bool_true_eq_, bool_false_eq_] at h1
    refine GL.pureG (s := 10) rfl rfl rfl (p_fieldAddr fo_68_1 rfl) ?_
    refine GL.stepG rfl (s := 10) rfl rfl (t_mem rfl (m_load (i := 1) rfl rfl ag_3 rfl)) ?_
    refine GL.pureG (s := 10) rfl rfl rfl (p_fieldAddr fo_68_1 rfl) ?_
    refine GL.stepG rfl (s := 10) rfl rfl (t_mem rfl (m_load (i := 0) rfl rfl ag_3 rfl)) ?_
    refine GL.pureG (s := 10) rfl rfl rfl (p_eql rfl rfl) ?_
    refine GL.pure rfl (p_pick_true rfl rfl) ?_
    refine GL.pure rfl (p_move rfl) ?_
    refine GL.split (i := 17) rfl (fun h2 => ?_) (fun h2 => ?_)
    · try simp only [decide_eq_true_eq, decide_eq_false_iff_not, Bool.not_eq_true', Bool.not_eq_false', Bool.not_true, Bool.not_false, Bool.not_not, ne_eq, Decidable.not_not, Int.not_lt, Int.not_le, gt_iff_lt, ge_iff_le, bool_true_eq_, bool_false_eq_] at h2
      refine GL.pureG (s := 17) rfl rfl rfl (p_fieldAddr fo_68_2 rfl) ?_
      refine GL.pureG (s := 17) rfl rfl rfl (p_fieldAddr fo_29_0 rfl) ?_
      refine GL.stepG rfl (s := 17) rfl rfl (t_mem rfl (m_load (i := 1) rfl rfl ag_26 rfl)) ?_
      refine GL.pureG (s := 17) rfl rfl rfl (p_fieldAddr fo_68_2 rfl) ?_
      refine GL.pureG (s := 17) rfl rfl rfl (p_fieldAddr fo_29_0 rfl) ?_
      refine GL.stepG rfl (s := 17) rfl rfl (t_mem rfl (m_load (i := 0) rfl rfl ag_26 rfl)) ?_
      refine GL.pureG (s := 17) rfl rfl rfl (p_eql rfl rfl) ?_
      refine GL.pure rfl (p_pick_true rfl rfl) ?_
      refine GL.pure rfl (p_move rfl) ?_
      refine GL.split (i := 26) rfl (fun h3 => ?_) (fun h3 => ?_)
      · try simp only [decide_eq_true_eq, decide_eq_false_iff_not, Bool.not_eq_true', Bool.not_eq_false', Bool.not_true, Bool.not_false, Bool.not_not, ne_eq, Decidable.not_not, Int.not_lt, Int.not_le, gt_iff_lt, ge_iff_le, bool_true_eq_, bool_false_eq_] at h3
        refine GL.pureG (s := 26) rfl rfl rfl (p_fieldAddr fo_68_2 rfl) ?_
        refine GL.pureG (s := 26) rfl rfl rfl (p_fieldAddr fo_29_1 rfl) ?_
        refine GL.stepG rfl (s := 26) rfl rfl (t_mem rfl (m_load (i := 1) rfl rfl ag_27 rfl)) ?_
        refine GL.pureG (s := 26) rfl rfl rfl (p_fieldAddr fo_68_2 rfl) ?_
        refine GL.pureG (s := 26) rfl rfl rfl (p_fieldAddr fo_29_1 rfl) ?_
        refine GL.stepG rfl (s := 26) rfl rfl (t_mem rfl (m_load (i := 0) rfl rfl ag_27 rfl)) ?_
        refine GL.stepG rfl (s := 26) rfl rfl (t_call rfl fn_36 rfl (is := []) (js := [0, 1]) rfl rfl (by exact equal_ct _ _ _ _ _ _)) (GL.ret ?_)
        rintro _ _ _ ⟨rfl, rfl, rfl⟩
        refine GL.pure rfl (p_pick_true rfl rfl) ?_
        refine GL.pure rfl (p_assign rfl) ?_
        refine GL.nil (?_ : GC _ _ _ _)
        refine GC.ret ?_
        refine fun a w h => Fin.back (rs := [.tmp 4]) (vs := [_]) (is := []) (js := []) rfl ⟨rfl, trivial⟩ rfl rfl ?_ h
        clear h
        refine ⟨congrArg Value.bool ?_, rfl, rfl⟩; obtain ⟨r1, r2, r3, r4⟩ := r; obtain ⟨s1, s2, s3, s4⟩ := s; simp_all
      · try simp only [decide_eq_true_eq, decide_eq_false_iff_not, Bool.not_eq_true', Bool.not_eq_false', Bool.not_true, Bool.not_false, Bool.not_not, ne_eq, Decidable.not_not, Int.not_lt, Int.not_le, gt_iff_lt, ge_iff_le, bool_true_eq_, bool_false_eq_] at h3
        refine GL.pass (s := 26) rfl rfl rfl ?_
        refine GL.pass (s := 26) rfl rfl rfl ?_
        refine GL.pass (s := 26) rfl rfl rfl ?_
        refine GL.pass (s := 26) rfl rfl rfl ?_
        refine GL.pass (s := 26) rfl rfl rfl ?_
        refine GL.pass (s := 26) rfl rfl rfl ?_
        refine GL.pass (s := 26) rfl rfl rfl ?_
        refine GL.pure rfl (p_pick_false rfl rfl) ?_
        refine GL.pure rfl (p_assign rfl) ?_
        refine GL.nil (?_ : GC _ _ _ _)
        refine GC.ret ?_
        refine fun a w h => Fin.back (rs := [.tmp 4]) (vs := [_]) (is := []) (js := []) rfl ⟨rfl, trivial⟩ rfl rfl ?_ h
        clear h
        refine ⟨congrArg Value.bool ?_, rfl, rfl⟩; obtain ⟨r1, r2, r3, r4⟩ := r; obtain ⟨s1, s2, s3, s4⟩ := s; simp_all
    · try simp only [decide_eq_true_eq, decide_eq_false_iff_not, Bool.not_eq_true', Bool.not_eq_false', Bool.not_true, Bool.not_false, Bool.not_not, ne_eq, Decidable.not_not, Int.not_lt, Int.not_le, gt_iff_lt, ge_iff_le, bool_true_eq_, bool_false_eq_] at h2
      refine GL.pass (s := 17) rfl rfl rfl ?_
      refine GL.pass (s := 17) rfl rfl rfl ?_
      refine GL.pass (s := 17) rfl rfl rfl ?_
      refine GL.pass (s := 17) rfl rfl rfl ?_
      refine GL.pass (s := 17) rfl rfl rfl ?_
      refine GL.pass (s := 17) rfl rfl rfl ?_
      refine GL.pass (s := 17) rfl rfl rfl ?_
      refine GL.pure rfl (p_pick_false rfl rfl) ?_
      refine GL.pure rfl (p_move rfl) ?_
      refine GL.pass (s := 26) rfl rfl rfl ?_
      refine GL.pass (s := 26) rfl rfl rfl ?_
      refine GL.pass (s := 26) rfl rfl rfl ?_
      refine GL.pass (s := 26) rfl rfl rfl ?_
      refine GL.pass (s := 26) rfl rfl rfl ?_
      refine GL.pass (s := 26) rfl rfl rfl ?_
      refine GL.pass (s := 26) rfl rfl rfl ?_
      refine GL.pure rfl (p_pick_false rfl rfl) ?_
      refine GL.pure rfl (p_assign rfl) ?_
      refine GL.nil (?_ : GC _ _ _ _)
      refine GC.ret ?_
      refine fun a w h => Fin.back (rs := [.tmp 4]) (vs := [_]) (is := []) (js := []) rfl ⟨rfl, trivial⟩ rfl rfl ?_ h
      clear h
      refine ⟨congrArg Value.bool ?_, rfl, rfl⟩; obtain ⟨r1, r2, r3, r4⟩ := r; obtain ⟨s1, s2, s3, s4⟩ := s; simp_all
  · try simp only [decide_eq_true_eq, decide_eq_false_iff_not, Bool.not_eq_true', Bool.not_eq_false', Bool.not_true, Bool.not_false, Bool.not_not, ne_eq, Decidable.not_not, Int.not_lt, Int.not_le, gt_iff_lt, ge_iff_le, bool_true_eq_, bool_false_eq_] at h1
    refine GL.pass (s := 10) rfl rfl rfl ?_
    refine GL.pass (s := 10) rfl rfl rfl ?_
    refine GL.pass (s := 10) rfl rfl rfl ?_
    refine GL.pass (s := 10) rfl rfl rfl ?_
    refine GL.pass (s := 10) rfl rfl rfl ?_
    refine GL.pure rfl (p_pick_false rfl rfl) ?_
    refine GL.pure rfl (p_move rfl) ?_
    refine GL.pass (s := 17) rfl rfl rfl ?_
    refine GL.pass (s := 17) rfl rfl rfl ?_
    refine GL.pass (s := 17) rfl rfl rfl ?_
    refine GL.pass (s := 17) rfl rfl rfl ?_
    refine GL.pass (s := 17) rfl rfl rfl ?_
    refine GL.pass (s := 17) rfl rfl rfl ?_
    refine GL.pass (s := 17) rfl rfl rfl ?_
    refine GL.pure rfl (p_pick_false rfl rfl) ?_
    refine GL.pure rfl (p_move rfl) ?_
    refine GL.pass (s := 26) rfl rfl rfl ?_
    refine GL.pass (s := 26) rfl rfl rfl ?_
    refine GL.pass (s := 26) rfl rfl rfl ?_
    refine GL.pass (s := 26) rfl rfl rfl ?_
    refine GL.pass (s := 26) rfl rfl rfl ?_
    refine GL.pass (s := 26) rfl rfl rfl ?_
    refine GL.pass (s := 26) rfl rfl rfl ?_
    refine GL.pure rfl (p_pick_false rfl rfl) ?_
    refine GL.pure rfl (p_assign rfl) ?_
    refine GL.nil (?_ : GC _ _ _ _)
    refine GC.ret ?_
    refine fun a w h => Fin.back (rs := [.tmp 4]) (vs := [_]) (is := []) (js := []) rfl ⟨rfl, trivial⟩ rfl rfl ?_ h
    clear h
    refine ⟨congrArg Value.bool ?_, rfl, rfl⟩; obtain ⟨r1, r2, r3, r4⟩ := r; obtain ⟨s1, s2, s3, s4⟩ := s; simp_all
theorem eqfunc_ct (A : Option Addr) (a_ : List Row) (cp : Nat) (B : Option Addr) (b_ : List Row) (cq : Nat) (hl : a_.length ≤ 140737488355328) : Ct Try.prog 34 [.slice A a_.length cp, .slice B b_.length cq, .func (.func 35) #[] #[]] [] [Pers.row kRow A a_, Pers.row kRow B b_] (fun u G Q => u = .bool (decide (a_ = b_)) ∧ G = [] ∧ Q = []) := by
  refine Ct.intro Try.func34 rfl rfl rfl (fun c hc => ?_)
  refine GC.seq' ?_
  refine GC.region ?_
  refine GL.pure rfl (p_assign rfl) ?_
  refine GL.nil (?_ : GC _ _ _ _)
  refine GC.seq' ?_
  refine GC.seq' ?_
  refine GC.region ?_
  refine GL.pure rfl (p_move rfl) ?_
  refine GL.pure rfl (p_len Try.underlying47 rfl) ?_
  refine GL.pure rfl (p_move rfl) ?_
  refine GL.pure rfl (p_len Try.underlying47 rfl) ?_
  refine GL.pure rfl (p_neq rfl rfl) ?_
  refine GL.nil (?_ : GC _ _ _ _)
  refine GC.cond rfl (fun h1 => ?_) (fun h1 => ?_)
  · try simp only [decide_eq_true_eq, decide_eq_false_iff_not, Bool.not_eq_true', Bool.not_eq_false', Bool.not_true, Bool.not_false, Bool.not_not, ne_eq, Decidable.not_not, Int.not_lt, Int.not_le, gt_iff_lt, ge_iff_le, bool_true_eq_, bool_false_eq_] at h1
    first
    | (exfalso; omega)
    | (skip
       refine GC.seq' ?_
       refine GC.region ?_
       refine GL.pure rfl (p_assign rfl) ?_
       refine GL.nil (?_ : GC _ _ _ _)
       refine GC.ret ?_
       refine fun a w h => Fin.back (rs := [.tmp 6]) (vs := [_]) (is := []) (js := []) rfl ⟨rfl, trivial⟩ rfl rfl ?_ h
       clear h
       exact ⟨congrArg Value.bool (decide_eq_false fun e => by subst e; omega).symm, rfl, rfl⟩)
  · try simp only [decide_eq_true_eq, decide_eq_false_iff_not, Bool.not_eq_true', Bool.not_eq_false', Bool.not_true, Bool.not_false, Bool.not_not, ne_eq, Decidable.not_not, Int.not_lt, Int.not_le, gt_iff_lt, ge_iff_le, bool_true_eq_, bool_false_eq_] at h1
    first
    | (exfalso; omega)
    | (skip
       refine GC.skip (?_ : GC _ _ _ _)
       refine GC.seq' ?_
       refine GC.seq' ?_
       refine GC.region ?_
       refine GL.pure rfl (p_move rfl) ?_
       refine GL.pure rfl (p_len Try.underlying47 rfl) ?_
       refine GL.pure rfl (p_move rfl) ?_
       refine GL.nil (?_ : GC _ _ _ _)
       refine GC.block ?_
       refine GC.loopK1 (ks := [1, 2, 15, 16]) (is := []) (js := [0, 1]) (fun (k : Nat) => k ≤ a_.length ∧ ∀ j : Nat, j < k → gt a_ (j : Int) = gt b_ (j : Int)) (fun (k : Nat) => [(17, .int .i64 (k : Int))]) (fun (k : Nat) => []) (fun (k : Nat) => []) (fun (k : Nat) => a_.length - k) (0) rfl rfl rfl (fun a w h => ⟨⟨by omega, fun j hj => by omega⟩, h.cutK (is := []) (js := [0, 1]) (ks := [1, 2, 15, 16]) (by exact ⟨rfl, trivial⟩) rfl rfl rfl⟩) ?_
       intro k hk
       try dsimp only [List.cons_append, List.nil_append] at hk ⊢
       obtain ⟨hk, he⟩ := hk
       refine GC.seq' ?_
       refine GC.region ?_
       refine GL.pure rfl (p_lss rfl rfl) ?_
       refine GL.nil (?_ : GC _ _ _ _)
       refine GC.seq' ?_
       refine GC.cond rfl (fun h2 => ?_) (fun h2 => ?_)
       · try simp only [decide_eq_true_eq, decide_eq_false_iff_not, Bool.not_eq_true', Bool.not_eq_false', Bool.not_true, Bool.not_false, Bool.not_not, ne_eq, Decidable.not_not, Int.not_lt, Int.not_le, gt_iff_lt, ge_iff_le, bool_true_eq_, bool_false_eq_] at h2
         first
         | (exfalso; omega)
         | (skip
            refine GC.skip (?_ : GC _ _ _ _)
            refine GC.seq' ?_
            refine GC.block ?_
            refine GC.seq' ?_
            refine GC.region ?_
            refine GL.pure rfl (p_move rfl) ?_
            refine GL.step rfl (t_index (i := 0) rfl rfl rfl rfl Try.underlying47 sz_68 (by omega) (gt_ok (by omega) (by omega))) (GL.ex fun p_x20 => GL.ex fun r_x20 => GL.and fun ok_x20 => ?_)
            rcases r_x20 with ⟨_, ⟨_, ⟨_, ⟨Ax20_0, cpx20_0⟩⟩⟩⟩
            refine GL.step rfl (t_mem rfl (m_loadPN (i := 0) rfl rfl ag_68 (vs := [_, _, _, _]) sz_68 ⟨rfl, rfl, rfl, rfl, trivial⟩)) ?_
            refine GL.step rfl (t_alloc rfl ze_68) (GL.ex fun b_t8 => ?_)
            refine GL.pure rfl (p_assign rfl) ?_
            refine GL.step rfl (t_storeN (i := 0) rfl rfl rfl sz_68 rfl rfl rfl) ?_
            refine GL.nil (?_ : GC _ _ _ _)
            refine GC.seq' ?_
            refine GC.region ?_
            refine GL.pure rfl (p_move rfl) ?_
            refine GL.pure rfl (p_move rfl) ?_
            refine GL.step rfl (t_index (i := 3) rfl rfl rfl rfl Try.underlying47 sz_68 (by omega) (gt_ok (by omega) (by omega))) (GL.ex fun p_x24 => GL.ex fun r_x24 => GL.and fun ok_x24 => ?_)
            rcases r_x24 with ⟨_, ⟨_, ⟨_, ⟨Ax24_0, cpx24_0⟩⟩⟩⟩
            refine GL.step rfl (t_mem rfl (m_loadPN (i := 0) rfl rfl ag_68 (vs := [_, _, _, _]) sz_68 ⟨rfl, rfl, rfl, rfl, trivial⟩)) ?_
            refine GL.step rfl (t_alloc rfl ze_68) (GL.ex fun b_t9 => ?_)
            refine GL.step rfl (t_storeN (i := 0) rfl rfl rfl sz_68 rfl rfl rfl) ?_
            refine GL.nil (?_ : GC _ _ _ _)
            refine GC.seq' ?_
            refine GC.region ?_
            refine GL.pure rfl (p_move rfl) ?_
            refine GL.step rfl (t_mem rfl (m_loadN (i := 1) rfl rfl ag_68 (vs := [_, _, _, _]) sz_68 ⟨rfl, rfl, rfl, rfl, trivial⟩)) ?_
            refine GL.step rfl (t_mem rfl (m_loadN (i := 0) rfl rfl ag_68 (vs := [_, _, _, _]) sz_68 ⟨rfl, rfl, rfl, rfl, trivial⟩)) ?_
            refine GL.step rfl (t_callv rfl fn_35 rfl rfl (is := []) (js := [3, 1]) rfl rfl (by exact samec_ct _ _ _ _ _ _)) (GL.ret ?_)
            rintro _ _ _ ⟨rfl, rfl, rfl⟩
            refine GL.pure rfl (p_not rfl) ?_
            refine GL.nil (?_ : GC _ _ _ _)
            refine GC.cond rfl (fun h3 => ?_) (fun h3 => ?_)
            · try simp only [decide_eq_true_eq, decide_eq_false_iff_not, Bool.not_eq_true', Bool.not_eq_false', Bool.not_true, Bool.not_false, Bool.not_not, ne_eq, Decidable.not_not, Int.not_lt, Int.not_le, gt_iff_lt, ge_iff_le, bool_true_eq_, bool_false_eq_] at h3
              first
              | (exfalso; omega)
              | (skip
                 refine GC.seq' ?_
                 refine GC.region ?_
                 refine GL.pure rfl (p_assign rfl) ?_
                 refine GL.nil (?_ : GC _ _ _ _)
                 refine GC.ret ?_
                 refine fun a w h => Fin.back (rs := [.tmp 6]) (vs := [_]) (is := []) (js := []) rfl ⟨rfl, trivial⟩ rfl rfl ?_ h
                 clear h
                 exact ⟨congrArg Value.bool (decide_eq_false (gt_ne (k := (k : Int)) (by assumption))).symm, rfl, rfl⟩)
            · try simp only [decide_eq_true_eq, decide_eq_false_iff_not, Bool.not_eq_true', Bool.not_eq_false', Bool.not_true, Bool.not_false, Bool.not_not, ne_eq, Decidable.not_not, Int.not_lt, Int.not_le, gt_iff_lt, ge_iff_le, bool_true_eq_, bool_false_eq_] at h3
              first
              | (exfalso; omega)
              | (skip
                 refine GC.skip (?_ : GC _ _ _ _)
                 refine GC.region ?_
                 refine GL.pure rfl (p_add rfl rfl (w64 (by omega) (by omega))) ?_
                 refine GL.pure rfl (p_move rfl) ?_
                 refine GL.nil ?_
                 exact fun a w h => ⟨(k + 1), (by omega), ⟨by omega, fun j hj => (Nat.lt_succ_iff_lt_or_eq.1 hj).elim (he j) (fun e => by subst e; assumption)⟩, h.cut (is := []) (js := [4, 5]) ⟨rfl, rfl, rfl, rfl, rfl, trivial⟩ rfl rfl⟩))
       · try simp only [decide_eq_true_eq, decide_eq_false_iff_not, Bool.not_eq_true', Bool.not_eq_false', Bool.not_true, Bool.not_false, Bool.not_not, ne_eq, Decidable.not_not, Int.not_lt, Int.not_le, gt_iff_lt, ge_iff_le, bool_true_eq_, bool_false_eq_] at h2
         first
         | (exfalso; omega)
         | (skip
            refine GC.exit (?_ : GC _ _ _ _)
            refine GC.seq' ?_
            refine GC.region ?_
            refine GL.pure rfl (p_assign rfl) ?_
            refine GL.nil (?_ : GC _ _ _ _)
            refine GC.ret ?_
            refine fun a w h => Fin.back (rs := [.tmp 6]) (vs := [_]) (is := []) (js := []) rfl ⟨rfl, trivial⟩ rfl rfl ?_ h
            clear h
            exact ⟨congrArg Value.bool (decide_eq_true (list_ext_gt (by omega) fun j hj => he j (by omega))).symm, rfl, rfl⟩))
theorem tsame_ct (A : Option Addr) (a_ : List Row) (cp : Nat) (B : Option Addr) (b_ : List Row) (cq : Nat) (hl : a_.length ≤ 140737488355328) : Ct Try.prog 20 [.slice A a_.length cp, .slice B b_.length cq] [] [Pers.row kRow A a_, Pers.row kRow B b_] (fun u G Q => u = .bool (decide (a_ = b_)) ∧ G = [] ∧ Q = []) := by
  refine Ct.intro Try.func20 rfl rfl rfl (fun c hc => ?_)
  refine GC.seq' ?_
  refine GC.region ?_
  refine GL.pure rfl (p_assign rfl) ?_
  refine GL.nil (?_ : GC _ _ _ _)
  refine GC.seq' ?_
  refine GC.region ?_
  refine GL.pure rfl (p_move rfl) ?_
  refine GL.pure rfl (p_move rfl) ?_
  refine GL.step rfl (t_call rfl fn_34 rfl (is := []) (js := [0, 1]) rfl rfl (by exact eqfunc_ct _ _ _ _ _ _ (by first | assumption | omega))) (GL.ret ?_)
  rintro _ _ _ ⟨rfl, rfl, rfl⟩
  refine GL.pure rfl (p_assign rfl) ?_
  refine GL.nil (?_ : GC _ _ _ _)
  refine GC.ret ?_
  refine fun a w h => Fin.back (rs := [.tmp 4]) (vs := [_]) (is := []) (js := []) rfl ⟨rfl, trivial⟩ rfl rfl ?_ h
  clear h
  exact ⟨rfl, rfl, rfl⟩
/-! ### tables out of rows -/
theorem right_no (A : Option Addr) (l : List Row) (cp : Nat) (hl : l.length ≤ 140737488355328) (hr : rightF l = false) : Ct Try.prog 22 [.slice A l.length cp] [] [Pers.row kRow A l] (fun u G Q => u = .bool false ∧ G = [] ∧ Q = []) := by rw [← hr]; exact right_ct A l cp hl
theorem right_yes (A : Option Addr) (l : List Row) (cp : Nat) (hl : l.length ≤ 140737488355328) (hr : rightF l = true) : Ct Try.prog 22 [.slice A l.length cp] [] [Pers.row kRow A l] (fun u G Q => u = .bool true ∧ G = [] ∧ Q = []) := by rw [← hr]; exact right_ct A l cp hl
theorem rload_bad (A : Option Addr) (l : List Row) (cp : Nat) (hl : l.length ≤ 140737488355328) (hr : rightF l = false) : Ct Try.prog 30 [.slice A l.length cp] [] [Pers.row kRow A l] (fun u G Q => u = .tuple #[.pointer none, .int .i64 60] ∧ G = [] ∧ Q = []) := by
  refine Ct.intro Try.func30 rfl rfl rfl (fun c hc => ?_)
  refine GC.seq' ?_
  refine GC.region ?_
  refine GL.pure rfl (p_assign rfl) ?_
  refine GL.pure rfl (p_assign rfl) ?_
  refine GL.nil (?_ : GC _ _ _ _)
  refine GC.seq' ?_
  refine GC.seq' ?_
  refine GC.region ?_
  refine GL.pure rfl (p_move rfl) ?_
  refine GL.step rfl (t_call rfl fn_22 rfl (is := []) (js := [0]) rfl rfl (by exact right_no _ _ _ (by omega) hr)) (GL.ret ?_)
  rintro _ _ _ ⟨rfl, rfl, rfl⟩
  refine GL.pure rfl (p_not rfl) ?_
  refine GL.nil (?_ : GC _ _ _ _)
  refine GC.cond_true rfl ?_
  refine GC.seq' ?_
  refine GC.region ?_
  refine GL.pure rfl (p_assign rfl) ?_
  refine GL.pure rfl (p_assign rfl) ?_
  refine GL.nil (?_ : GC _ _ _ _)
  refine GC.ret ?_
  refine fun a w h => Fin.back (rs := [.tmp 2, .tmp 3]) (vs := [_, _]) (is := []) (js := []) rfl ⟨rfl, rfl, trivial⟩ rfl rfl ?_ h
  clear h
  exact ⟨rfl, rfl, rfl⟩
theorem rload_ok (A : Option Addr) (l : List Row) (cp : Nat) (hl : l.length ≤ 140737488355328) (hr : rightF l = true) : Ct Try.prog 30 [.slice A l.length cp] [] [Pers.row kRow A l] (fun u G Q => ∃ p B cq, l.length ≤ cq ∧ cq ≤ 9223372036854775807 ∧ u = .tuple #[.pointer (some ⟨p, 0, none⟩), .int .i64 0] ∧ G = rtG p B l.length cq ∧ Q = [Pers.row kRow B l]) := by
  have h64 : l.length ≤ 64 := by simp [rightF] at hr; exact hr.1
  refine Ct.intro Try.func30 rfl rfl rfl (fun c hc => ?_)
  refine GC.seq' ?_
  refine GC.region ?_
  refine GL.pure rfl (p_assign rfl) ?_
  refine GL.pure rfl (p_assign rfl) ?_
  refine GL.nil (?_ : GC _ _ _ _)
  refine GC.seq' ?_
  refine GC.seq' ?_
  refine GC.region ?_
  refine GL.pure rfl (p_move rfl) ?_
  refine GL.step rfl (t_call rfl fn_22 rfl (is := []) (js := [0]) rfl rfl (by exact right_yes _ _ _ (by omega) hr)) (GL.ret ?_)
  rintro _ _ _ ⟨rfl, rfl, rfl⟩
  refine GL.pure rfl (p_not rfl) ?_
  refine GL.nil (?_ : GC _ _ _ _)
  refine GC.cond_false rfl ?_
  refine GC.skip (?_ : GC _ _ _ _)
  refine GC.seq' ?_
  refine GC.region ?_
  refine GL.step rfl (t_buildSlice rfl Try.underlying47 sz_68 ze_68 rfl rfl rfl rfl rfl rfl) (GL.ex fun b_t7 => ?_)
  refine GL.pure rfl (p_move rfl) ?_
  refine GL.torow (i := 0) (m := 0) (sz := 4) rfl rfl (by decide) rfl ?_
  refine GL.step rfl (t_appendR (i := 0) (k := 0) rfl el_47 rfl rfl rfl rfl (by simp; omega) (fun _ _ => rfl)) (GL.ex fun v9 => GL.ex fun nw_9 => ?_)
  refine GL.shape (i := 0) rfl (fun A_t7 c_t7 e_t7 l_t7 k_t7 => ?_)
  subst e_t7
  refine GL.freezeR (i := 0) (j := 0) rfl rfl (by decide) ?_
  simp only [Nat.zero_add] at l_t7 ⊢
  refine GL.pure rfl (p_build ze_55 of_55 rfl rfl) ?_
  refine GL.step rfl (t_box rfl rfl rfl) (GL.ex fun b_t11 => ?_)
  refine GL.pure rfl (p_assign rfl) ?_
  refine GL.pure rfl (p_assign rfl) ?_
  refine GL.nil (?_ : GC _ _ _ _)
  refine GC.ret ?_
  refine fun a w h => Fin.back (rs := [.tmp 2, .tmp 3]) (vs := [_, _]) (is := [0]) (js := [0]) rfl ⟨rfl, rfl, trivial⟩ rfl rfl ?_ h
  clear h
  exact ⟨_, _, _, l_t7, k_t7, rfl, rfl, rfl⟩
end Go.Proofs.Ytipjpgjahmadiaa
