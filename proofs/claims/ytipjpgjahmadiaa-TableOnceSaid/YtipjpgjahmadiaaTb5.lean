/- THE TABLE: no request that was done is new again: the walk of the law. -/
import Derived.Test.YtipjpgjahmadiaaTb4
set_option linter.unusedVariables false
set_option linter.unusedSimpArgs false
set_option maxRecDepth 100000
namespace Go.Proofs.Ytipjpgjahmadiaa
open Go Go.Sx Go.Proofs

theorem tableOnce_ct (Ac : Option Addr) (calls : List TCall) (cpc : Nat) (hl : calls.length ≤ 140737488351232) : Ct Try.prog 3 [.slice Ac calls.length cpc] [] [Pers.row kTCall Ac calls] (fun v G Q => v = .bool true ∧ G = [] ∧ Q = []) := by
  refine Ct.intro Try.func3 rfl rfl rfl (fun c hc => ?_)
  refine GC.seq' ?_
  refine GC.region ?_
  refine GL.pure rfl (p_assign rfl) ?_
  refine GL.nil (?_ : GC _ _ _ _)
  refine GC.seq' ?_
  refine GC.seq' ?_
  refine GC.region ?_
  refine GL.step rfl (t_call rfl fn_8 rfl (is := []) (js := []) rfl rfl (by exact awake_ct)) (GL.ret ?_)
  rintro _ _ _ ⟨rfl, rfl, rfl⟩
  refine GL.pure rfl (p_not rfl) ?_
  refine GL.nil (?_ : GC _ _ _ _)
  refine GC.cond_false rfl ?_
  refine GC.skip (?_ : GC _ _ _ _)
  refine GC.seq' ?_
  refine GC.region ?_
  refine GL.step rfl (t_call rfl fn_9 rfl (is := []) (js := []) rfl rfl (by exact tnew_ct)) (GL.ret ?_)
  rintro _ _ _ ⟨p15, m15, rfl, rfl, rfl⟩
  refine GL.pure rfl (p_assign rfl) ?_
  refine GL.nil (?_ : GC _ _ _ _)
  refine GC.seq' ?_
  refine GC.region ?_
  refine GL.pure rfl (p_assign rfl) ?_
  refine GL.nil (?_ : GC _ _ _ _)
  refine GC.seq' ?_
  refine GC.seq' ?_
  refine GC.region ?_
  refine GL.nilrow 31 5 ?_
  refine GL.know (q := Pers.reps kTCall [] []) (fun _ _ _ => rfl) ?_
  refine GL.pure rfl (p_assign rfl) ?_
  refine GL.nil (?_ : GC _ _ _ _)
  refine GC.block ?_
  refine GC.imp (fun a w h => (⟨⟨by simp, by simp, by simp, OnceInv.nil⟩, h.cut (is := [1, 1, 0]) (js := [2, 1, 0]) ⟨rfl, rfl, rfl, rfl, trivial⟩ rfl rfl⟩ : (fun (y : Nat × List (Int × Last) × List TCall × Nat × Array MapEntry × Nat × Value × List Value) (a : Act) (w : World) => (y.1 ≤ 200 ∧ y.2.2.2.1 = y.2.2.1.length ∧ y.2.2.1.length ≤ y.1 ∧ OnceInv y.2.1 y.2.2.1) ∧ St c 114 [(0, .slice Ac calls.length cpc), (3, .pointer (some ⟨p15, 0, none⟩)), (4, y.2.2.2.2.2.2.1), (5, .int .i64 (y.1 : Int))] [.cells p15 [.map (some m15)] 43, .blk m15 (.map y.2.2.2.2.1 y.2.2.2.2.2.1), .row y.2.2.2.2.2.2.1 31 5 y.2.2.2.1 y.2.2.2.2.2.2.2] [Pers.row kTCall Ac calls, Pers.map kLast true y.2.1 y.2.2.2.2.1, Pers.reps kTCall y.2.2.1 y.2.2.2.2.2.2.2] a w) (0, [], [], 0, _, _, _, []) a w)) (GC.loop (fun (y : Nat × List (Int × Last) × List TCall × Nat × Array MapEntry × Nat × Value × List Value) (a : Act) (w : World) => (y.1 ≤ 200 ∧ y.2.2.2.1 = y.2.2.1.length ∧ y.2.2.1.length ≤ y.1 ∧ OnceInv y.2.1 y.2.2.1) ∧ St c 114 [(0, .slice Ac calls.length cpc), (3, .pointer (some ⟨p15, 0, none⟩)), (4, y.2.2.2.2.2.2.1), (5, .int .i64 (y.1 : Int))] [.cells p15 [.map (some m15)] 43, .blk m15 (.map y.2.2.2.2.1 y.2.2.2.2.2.1), .row y.2.2.2.2.2.2.1 31 5 y.2.2.2.1 y.2.2.2.2.2.2.2] [Pers.row kTCall Ac calls, Pers.map kLast true y.2.1 y.2.2.2.2.1, Pers.reps kTCall y.2.2.1 y.2.2.2.2.2.2.2] a w) (fun y => 200 - y.1) (0, [], [], 0, _, _, _, []) ?_)
  intro y
  refine GC.and fun hk => ?_
  obtain ⟨i, T, D, nD, es, ck, v, cs⟩ := y
  dsimp only at hk ⊢
  obtain ⟨hi, hn, hd, hinv⟩ := hk
  subst hn
  refine GC.seq' ?_
  refine GC.seq' ?_
  refine GC.region ?_
  refine GL.pure rfl (p_move rfl) ?_
  refine GL.pure rfl (p_move rfl) ?_
  refine GL.pure rfl (p_len Try.underlying22 rfl) ?_
  refine GL.pure rfl (p_lss rfl rfl) ?_
  refine GL.pure rfl (p_move rfl) ?_
  refine GL.split (i := 20) rfl (fun h1 => ?_) (fun h1 => ?_)
  · try simp only [decide_eq_true_eq, decide_eq_false_iff_not, Bool.not_eq_true', Bool.not_eq_false', Bool.not_true, Bool.not_false, Bool.not_not, ne_eq, Decidable.not_not, Int.not_lt, Int.not_le, gt_iff_lt, ge_iff_le, bool_true_eq_, bool_false_eq_] at h1
    first
    | (exfalso; first | omega | (simp [*, sameRes] at h1; done))
    | (skip
       refine GL.pureG (s := 20) rfl rfl rfl (p_move rfl) ?_
       refine GL.pureG (s := 20) rfl rfl rfl (p_lss rfl rfl) ?_
       refine GL.pure rfl (p_pick_true rfl rfl) ?_
       refine GL.nil (?_ : GC _ _ _ _)
       refine GC.cond rfl (fun h2 => ?_) (fun h2 => ?_)
       · try simp only [decide_eq_true_eq, decide_eq_false_iff_not, Bool.not_eq_true', Bool.not_eq_false', Bool.not_true, Bool.not_false, Bool.not_not, ne_eq, Decidable.not_not, Int.not_lt, Int.not_le, gt_iff_lt, ge_iff_le, bool_true_eq_, bool_false_eq_] at h2
         first
         | (exfalso; first | omega | (simp [*, sameRes] at h2; done))
         | (skip
            refine GC.skip (?_ : GC _ _ _ _)
            refine GC.seq' ?_
            refine GC.block ?_
            refine GC.seq' ?_
            refine GC.region ?_
            refine GL.pure rfl (p_move rfl) ?_
            refine GL.pure rfl (p_move rfl) ?_
            refine GL.step rfl (t_index (i := 0) rfl rfl rfl rfl Try.underlying22 sz_31 (by omega) (gt_ok (by omega) (by omega))) (GL.ex fun p_x28 => GL.ex fun r_x28 => GL.and fun ok_x28 => ?_)
            rcases r_x28 with ⟨_, ⟨_, ⟨_, ⟨_, ⟨Ax28_0, cpx28_0⟩⟩⟩⟩⟩
            refine GL.step rfl (t_mem rfl (m_loadPN (i := 0) rfl rfl ag_31 (vs := [_, _, _, _, _]) sz_31 ⟨rfl, rfl, rfl, rfl, rfl, trivial⟩)) ?_
            refine GL.step rfl (t_alloc rfl ze_31) (GL.ex fun b_t6 => ?_)
            refine GL.step rfl (t_storeN (i := 0) rfl rfl rfl sz_31 rfl rfl rfl) ?_
            refine GL.nil (?_ : GC _ _ _ _)
            refine GC.seq' ?_
            refine GC.region ?_
            refine GL.pure rfl (p_move rfl) ?_
            refine GL.pure rfl (p_fieldAddr fo_31_1 rfl) ?_
            refine GL.step rfl (t_mem rfl (m_load (i := 0) rfl rfl ag_3 rfl)) ?_
            refine GL.pure rfl (p_fieldAddr fo_31_2 rfl) ?_
            refine GL.step rfl (t_mem rfl (m_load (i := 0) rfl rfl ag_3 rfl)) ?_
            refine GL.pure rfl (p_fieldAddr fo_31_3 rfl) ?_
            refine GL.step rfl (t_mem rfl (m_loadN (i := 0) rfl rfl ag_29 (vs := [_, _]) sz_29 ⟨rfl, rfl, trivial⟩)) ?_
            refine GL.step rfl (t_call rfl fn_10 rfl (is := [1, 1]) (js := [3, 1]) rfl rfl (by exact put_ct _ _ _ _ T _ _ (gt calls (i : Int)).r _ _ hinv.1)) (GL.ret ?_)
            rintro _ _ _ ⟨es37, ck37, rfl, rfl, rfl⟩
            refine GL.pure rfl (p_eql rfl rfl) ?_
            refine GL.nil (?_ : GC _ _ _ _)
            refine GC.cond rfl (fun h3 => ?_) (fun h3 => ?_)
            · try simp only [decide_eq_true_eq, decide_eq_false_iff_not, Bool.not_eq_true', Bool.not_eq_false', Bool.not_true, Bool.not_false, Bool.not_not, ne_eq, Decidable.not_not, Int.not_lt, Int.not_le, gt_iff_lt, ge_iff_le, bool_true_eq_, bool_false_eq_] at h3
              first
              | (exfalso; first | omega | (simp [*, sameRes] at h3; done))
              | (skip
                 refine GC.region ?_
                 refine GL.pure rfl (p_move rfl) ?_
                 refine GL.step rfl (t_mem rfl (m_loadN (i := 2) rfl rfl ag_31 (vs := [_, _, _, _, _]) sz_31 ⟨rfl, rfl, rfl, rfl, rfl, trivial⟩)) ?_
                 refine GL.step rfl (t_buildSlice rfl Try.underlying22 sz_31 ze_31 rfl rfl rfl rfl rfl rfl) (GL.ex fun b_t41 => ?_)
                 refine GL.step rfl (t_append (i := 4) (k := 0) rfl el_22 rfl rfl rfl rfl rfl (allOne_mem rfl) (by omega) (fun _ => rfl)) (GL.ex fun v42 => ?_)
                 refine GL.snoc (j := 5) (js := [2]) (gt calls (i : Int)) ((), ((), ((), ((), (Ax28_0, cpx28_0))))) rfl rfl ok_x28 ?_
                 refine GL.pure rfl (p_assign rfl) ?_
                 refine GL.nil (?_ : GC _ _ _ _)
                 refine GC.region ?_
                 refine GL.pure rfl (p_move rfl) ?_
                 refine GL.pure rfl (p_add rfl rfl (w64 (by omega) (by omega))) ?_
                 refine GL.pure rfl (p_assign rfl) ?_
                 refine GL.nil ?_
                 exact fun a w h => ⟨(i + 1, (putF T (gt calls (i : Int)).client (gt calls (i : Int)).serial (gt calls (i : Int)).r).2, D ++ [gt calls (i : Int)], D.length + 1, es37, ck37, v42, cs ++ kTCall.cells (gt calls (i : Int)) ((), ((), ((), ((), (Ax28_0, cpx28_0)))))), (by simp only; omega), ⟨by simp only; omega, by simp, by simp; omega, hinv.put h3⟩, h.cut (is := [1, 1, 2]) (js := [4, 1, 0]) ⟨rfl, rfl, rfl, rfl, trivial⟩ rfl rfl⟩)
            · try simp only [decide_eq_true_eq, decide_eq_false_iff_not, Bool.not_eq_true', Bool.not_eq_false', Bool.not_true, Bool.not_false, Bool.not_not, ne_eq, Decidable.not_not, Int.not_lt, Int.not_le, gt_iff_lt, ge_iff_le, bool_true_eq_, bool_false_eq_] at h3
              first
              | (exfalso; first | omega | (simp [*, sameRes] at h3; done))
              | (skip
                 refine GC.skip (?_ : GC _ _ _ _)
                 refine GC.region ?_
                 refine GL.pure rfl (p_move rfl) ?_
                 refine GL.pure rfl (p_add rfl rfl (w64 (by omega) (by omega))) ?_
                 refine GL.pure rfl (p_assign rfl) ?_
                 refine GL.nil ?_
                 exact fun a w h => ⟨(i + 1, (putF T (gt calls (i : Int)).client (gt calls (i : Int)).serial (gt calls (i : Int)).r).2, D, D.length, es37, ck37, v, cs), (by simp only; omega), ⟨by simp only; omega, rfl, by simp only; omega, hinv.skip h3⟩, h.cut (is := [0, 0, 1]) (js := [3, 0, 5]) ⟨rfl, rfl, rfl, rfl, trivial⟩ rfl rfl⟩))
       · try simp only [decide_eq_true_eq, decide_eq_false_iff_not, Bool.not_eq_true', Bool.not_eq_false', Bool.not_true, Bool.not_false, Bool.not_not, ne_eq, Decidable.not_not, Int.not_lt, Int.not_le, gt_iff_lt, ge_iff_le, bool_true_eq_, bool_false_eq_] at h2
         first
         | (exfalso; first | omega | (simp [*, sameRes] at h2; done))
         | (skip
            refine GC.exit (?_ : GC _ _ _ _)
            refine GC.seq' ?_
            refine GC.seq' ?_
            refine GC.region ?_
            refine GL.shape (i := 2) rfl (fun A_D4 c_D4 e_D4 l_D4 k_D4 => ?_)
            subst e_D4
            refine GL.freezeR (i := 2) (j := 2) rfl rfl (by decide) ?_
            refine GL.pure rfl (p_assign rfl) ?_
            refine GL.nil (?_ : GC _ _ _ _)
            refine GC.block ?_
            refine GC.imp (fun a w h => (⟨by omega, h.cut (is := [0, 0]) (js := [2, 0]) ⟨rfl, rfl, rfl, trivial⟩ rfl rfl⟩ : (fun (z : Nat) (a : Act) (w : World) => z ≤ D.length ∧ St c 114 [(3, .pointer (some ⟨p15, 0, none⟩)), (4, .slice A_D4 D.length c_D4), (7, .int .i64 (z : Int))] [.cells p15 [.map (some m15)] 43, .blk m15 (.map es ck)] [Pers.map kLast true T es, Pers.row kTCall A_D4 D] a w) 0 a w)) (GC.loop (fun (z : Nat) (a : Act) (w : World) => z ≤ D.length ∧ St c 114 [(3, .pointer (some ⟨p15, 0, none⟩)), (4, .slice A_D4 D.length c_D4), (7, .int .i64 (z : Int))] [.cells p15 [.map (some m15)] 43, .blk m15 (.map es ck)] [Pers.map kLast true T es, Pers.row kTCall A_D4 D] a w) (fun z => D.length - z) 0 ?_)
            intro z
            refine GC.and fun hz0 => ?_
            refine GC.seq' ?_
            refine GC.seq' ?_
            refine GC.region ?_
            refine GL.pure rfl (p_move rfl) ?_
            refine GL.pure rfl (p_move rfl) ?_
            refine GL.pure rfl (p_len Try.underlying22 rfl) ?_
            refine GL.pure rfl (p_lss rfl rfl) ?_
            refine GL.nil (?_ : GC _ _ _ _)
            refine GC.cond rfl (fun h4 => ?_) (fun h4 => ?_)
            · try simp only [decide_eq_true_eq, decide_eq_false_iff_not, Bool.not_eq_true', Bool.not_eq_false', Bool.not_true, Bool.not_false, Bool.not_not, ne_eq, Decidable.not_not, Int.not_lt, Int.not_le, gt_iff_lt, ge_iff_le, bool_true_eq_, bool_false_eq_] at h4
              first
              | (exfalso; first | omega | (simp [*, sameRes] at h4; done))
              | (skip
                 refine GC.skip (?_ : GC _ _ _ _)
                 refine GC.seq' ?_
                 refine GC.block ?_
                 refine GC.seq' ?_
                 have hz : z < D.length := by omega
                 refine GC.lay (x := .tmp 4) (y := .tmp 7) (j := 1) rfl rfl rfl (by omega) (gt_ok (by omega) (by omega)) (fun p_x53 r_x53 hA_x53 ok_x53 => ?_)
                 rcases r_x53 with ⟨_, ⟨_, ⟨_, ⟨_, ⟨Ax53_0, cpx53_0⟩⟩⟩⟩⟩
                 refine GC.lay (x := .tmp 4) (y := .tmp 7) (j := 3) rfl rfl rfl (by omega) (gt_ok (by omega) (by omega)) (fun p_x58 r_x58 hA_x58 ok_x58 => ?_)
                 rcases r_x58 with ⟨_, ⟨_, ⟨_, ⟨_, ⟨Ax58_0, cpx58_0⟩⟩⟩⟩⟩
                 refine GC.regionM (m := 20) (M := fun a w => ∃ b9 : Nat, ∃ A9 : Option Addr, ∃ c9 : Nat, St c 114 [(3, .pointer (some ⟨p15, 0, none⟩)), (4, .slice A_D4 D.length c_D4), (7, .int .i64 (z : Int)), (8, .int .i64 (if lastB D z = true then 2 else 3)), (9, .pointer (some ⟨b9, 0, none⟩)), (10, .int .i64 0)] [.cells p15 [.map (some m15)] 43, .blk m15 (.map es ck), .cells b9 [.int .u8 (if lastB D z = true then (gt D z).r else rz).code, .slice A9 (if lastB D z = true then (gt D z).r else rz).data.length c9] 29] [Pers.map kLast true T es, Pers.row kTCall A_D4 D, Pers.row Kd.u8 A9 (if lastB D z = true then (gt D z).r else rz).data] a w) (is := [0, 0]) (js := [0, 1, 2, 3, 4, 5]) wide_ rfl rfl rfl ?_ ?_
                 · refine GA.take 0 rfl (by kernel_rfl) (by kernel_rfl) (by kernel_rfl) rfl (fun a w h => h.mem (is := [0, 0]) (js := [0, 1, 2, 3, 4, 5]) rfl rfl) (i_pure (p_move rfl)) ?_
                   refine GA.take 1 rfl (by kernel_rfl) (by kernel_rfl) (by kernel_rfl) rfl (fun a w h => h.mem (is := [0, 0]) (js := [0, 1, 2, 3, 4, 5]) rfl rfl) (i_pure (p_move rfl)) ?_
                   refine GA.take 2 rfl (by kernel_rfl) (by kernel_rfl) (by kernel_rfl) rfl (fun a w h => h.mem (is := [0, 0]) (js := [0, 1, 2, 3, 4, 5]) rfl rfl) (i_pure (p_move rfl)) ?_
                   refine GA.take 3 rfl (by kernel_rfl) (by kernel_rfl) (by kernel_rfl) rfl (fun a w h => h.mem (is := [0, 0]) (js := [0, 1, 2, 3, 4, 5]) rfl rfl) (i_pure (p_indexL hA_x53 rfl rfl Try.underlying22 sz_31 (by omega) (by omega))) ?_
                   refine GA.take 4 rfl (by kernel_rfl) (by kernel_rfl) (by kernel_rfl) rfl (fun a w h => h.mem (is := [0, 0]) (js := [0, 1, 2, 3, 4, 5]) rfl rfl) (i_pure (p_fieldAddr' fo_31_1 rfl)) ?_
                   refine GA.take 5 rfl (by kernel_rfl) (by kernel_rfl) (by kernel_rfl) rfl (fun a w h => h.mem (is := [0, 0]) (js := [0, 1, 2, 3, 4, 5]) rfl rfl) (i_mem (m_loadP (i := 2) rfl rfl ag_3 rfl)) ?_
                   refine GA.take 6 rfl (by kernel_rfl) (by kernel_rfl) (by kernel_rfl) rfl (fun a w h => h.mem (is := [0, 0]) (js := [0, 1, 2, 3, 4, 5]) rfl rfl) (i_pure (p_move rfl)) ?_
                   refine GA.take 7 rfl (by kernel_rfl) (by kernel_rfl) (by kernel_rfl) rfl (fun a w h => h.mem (is := [0, 0]) (js := [0, 1, 2, 3, 4, 5]) rfl rfl) (i_pure (p_move rfl)) ?_
                   refine GA.take 8 rfl (by kernel_rfl) (by kernel_rfl) (by kernel_rfl) rfl (fun a w h => h.mem (is := [0, 0]) (js := [0, 1, 2, 3, 4, 5]) rfl rfl) (i_pure (p_indexL hA_x58 rfl rfl Try.underlying22 sz_31 (by omega) (by omega))) ?_
                   refine GA.take 9 rfl (by kernel_rfl) (by kernel_rfl) (by kernel_rfl) rfl (fun a w h => h.mem (is := [0, 0]) (js := [0, 1, 2, 3, 4, 5]) rfl rfl) (i_pure (p_fieldAddr' fo_31_2 rfl)) ?_
                   refine GA.take 10 rfl (by kernel_rfl) (by kernel_rfl) (by kernel_rfl) rfl (fun a w h => h.mem (is := [0, 0]) (js := [0, 1, 2, 3, 4, 5]) rfl rfl) (i_mem (m_loadP (i := 0) rfl rfl ag_3 rfl)) ?_
                   refine GA.all (rs := [11, 16]) (by kernel_rfl) (by simp) ?_
                   refine GAs.cons (i := 11) rfl rfl (t_call rfl fn_11 rfl (is := [0, 0]) (js := [4]) rfl rfl (by exact ask_eq _ _ _ _ T _ _ hinv.1 _ _ _ (hinv.ask hz))) (by rintro a w ⟨_, _, _, ⟨A61, cp61, l61, m61, rfl, rfl, rfl⟩, h⟩; exact h.mem (is := [0, 0]) (js := [1, 2, 3, 4, 5, 6]) rfl rfl) (GA.ret ?_) ?_
                   · rintro _ _ _ ⟨A61, cp61, l61, m61, rfl, rfl, rfl⟩
                     refine GA.take 12 rfl (by kernel_rfl) (by kernel_rfl) (by kernel_rfl) rfl (fun a w h => h.mem (is := [0, 0]) (js := [1, 2, 3, 4, 5, 6]) rfl rfl) (i_pure (p_move rfl)) ?_
                     refine GA.take 13 rfl (by kernel_rfl) (by kernel_rfl) (by kernel_rfl) rfl (fun a w h => h.mem (is := [0, 0]) (js := [1, 2, 3, 4, 5, 6]) rfl rfl) (i_pure (p_extract rfl rfl)) ?_
                     refine GA.take 14 rfl (by kernel_rfl) (by kernel_rfl) (by kernel_rfl) rfl (fun a w h => h.mem (is := [0, 0]) (js := [1, 2, 3, 4, 5, 6]) rfl rfl) (i_pure (p_extract rfl rfl)) ?_
                     refine GA.take 15 rfl (by kernel_rfl) (by kernel_rfl) (by kernel_rfl) rfl (fun a w h => h.mem (is := [0, 0]) (js := [1, 2, 3, 4, 5, 6]) rfl rfl) (i_pure (p_extract rfl rfl)) ?_
                     refine GA.all (rs := [16]) (by kernel_rfl) (by simp) ?_
                     refine GAs.cons (i := 16) rfl rfl (t_alloc rfl ze_29) (by rintro a w ⟨_, h⟩; exact h.mem (is := [1, 1]) (js := [1, 2, 3, 4, 5, 6]) rfl rfl) (GA.ex fun b_t9 => ?_) ?_
                     · refine GA.take 17 rfl (by kernel_rfl) (by kernel_rfl) (by kernel_rfl) rfl (fun a w h => h.mem (is := [1, 1]) (js := [1, 2, 3, 4, 5, 6]) rfl rfl) (i_pure (p_assign rfl)) ?_
                       refine GA.all (rs := [18]) (by kernel_rfl) (by simp) ?_
                       refine GAs.cons (i := 18) rfl rfl (t_storeN (i := 0) rfl rfl rfl sz_29 rfl rfl rfl) (by rintro a w h; exact h.mem (is := [1, 1]) (js := [1, 2, 3, 4, 5, 6]) rfl rfl) ?_ ?_
                       · refine GA.take 19 rfl (by kernel_rfl) (by kernel_rfl) (by kernel_rfl) rfl (fun a w h => h.mem (is := [1, 1]) (js := [1, 2, 3, 4, 5, 6]) rfl rfl) (i_pure (p_assign rfl)) ?_
                         exact GA.done (by kernel_rfl) (fun a w h => ⟨b_t9, A61, cp61, h.cut (is := [1, 1, 0]) (js := [5, 6, 0]) ⟨rfl, rfl, rfl, rfl, rfl, rfl, trivial⟩ rfl rfl⟩)
                       exact GAs.nil
                     exact GAs.nil
                   refine GAs.cons (i := 16) rfl rfl (t_alloc rfl ze_29) (by rintro a w ⟨_, h⟩; exact h.mem (is := [1, 1]) (js := [0, 1, 2, 3, 4, 5]) rfl rfl) (GA.ex fun b_t9 => ?_) ?_
                   · refine GA.all (rs := [11]) (by kernel_rfl) (by simp) ?_
                     refine GAs.cons (i := 11) rfl rfl (t_call rfl fn_11 rfl (is := [1, 1]) (js := [4]) rfl rfl (by exact ask_eq _ _ _ _ T _ _ hinv.1 _ _ _ (hinv.ask hz))) (by rintro a w ⟨_, _, _, ⟨A61, cp61, l61, m61, rfl, rfl, rfl⟩, h⟩; exact h.mem (is := [0, 0]) (js := [1, 2, 3, 4, 5, 6]) rfl rfl) (GA.ret ?_) ?_
                     · rintro _ _ _ ⟨A61, cp61, l61, m61, rfl, rfl, rfl⟩
                       refine GA.take 12 rfl (by kernel_rfl) (by kernel_rfl) (by kernel_rfl) rfl (fun a w h => h.mem (is := [0, 0]) (js := [1, 2, 3, 4, 5, 6]) rfl rfl) (i_pure (p_move rfl)) ?_
                       refine GA.take 13 rfl (by kernel_rfl) (by kernel_rfl) (by kernel_rfl) rfl (fun a w h => h.mem (is := [0, 0]) (js := [1, 2, 3, 4, 5, 6]) rfl rfl) (i_pure (p_extract rfl rfl)) ?_
                       refine GA.take 14 rfl (by kernel_rfl) (by kernel_rfl) (by kernel_rfl) rfl (fun a w h => h.mem (is := [0, 0]) (js := [1, 2, 3, 4, 5, 6]) rfl rfl) (i_pure (p_extract rfl rfl)) ?_
                       refine GA.take 15 rfl (by kernel_rfl) (by kernel_rfl) (by kernel_rfl) rfl (fun a w h => h.mem (is := [0, 0]) (js := [1, 2, 3, 4, 5, 6]) rfl rfl) (i_pure (p_extract rfl rfl)) ?_
                       refine GA.take 17 rfl (by kernel_rfl) (by kernel_rfl) (by kernel_rfl) rfl (fun a w h => h.mem (is := [0, 0]) (js := [1, 2, 3, 4, 5, 6]) rfl rfl) (i_pure (p_assign rfl)) ?_
                       refine GA.all (rs := [18]) (by kernel_rfl) (by simp) ?_
                       refine GAs.cons (i := 18) rfl rfl (t_storeN (i := 2) rfl rfl rfl sz_29 rfl rfl rfl) (by rintro a w h; exact h.mem (is := [0, 0]) (js := [1, 2, 3, 4, 5, 6]) rfl rfl) ?_ ?_
                       · refine GA.take 19 rfl (by kernel_rfl) (by kernel_rfl) (by kernel_rfl) rfl (fun a w h => h.mem (is := [0, 0]) (js := [1, 2, 3, 4, 5, 6]) rfl rfl) (i_pure (p_assign rfl)) ?_
                         exact GA.done (by kernel_rfl) (fun a w h => ⟨b_t9, A61, cp61, h.cut (is := [0, 0, 0]) (js := [5, 6, 0]) ⟨rfl, rfl, rfl, rfl, rfl, rfl, trivial⟩ rfl rfl⟩)
                       exact GAs.nil
                     exact GAs.nil
                   exact GAs.nil
                 · refine (?_ : GC _ _ _ _)
                   refine GC.ex fun b9 => GC.ex fun A9 => GC.ex fun c9 => ?_
                   refine GC.seq' ?_
                   refine GC.region ?_
                   refine GL.pure rfl (p_assign rfl) ?_
                   refine GL.nil (?_ : GC _ _ _ _)
                   refine GC.seq' ?_
                   refine GC.seq' ?_
                   refine GC.region ?_
                   refine GL.pure rfl (p_move rfl) ?_
                   refine GL.pure rfl (p_add rfl rfl (w64 (by omega) (by omega))) ?_
                   refine GL.pure rfl (p_assign rfl) ?_
                   refine GL.nil (?_ : GC _ _ _ _)
                   refine GC.block ?_
                   refine GC.imp (fun a w h => (⟨by omega, by rw [allNe_nil]; exact h.cut (is := [0, 0, 0]) (js := [0, 1, 2]) ⟨rfl, rfl, rfl, rfl, rfl, rfl, rfl, rfl, trivial⟩ rfl rfl⟩ : (fun (k : Nat) (a : Act) (w : World) => (z + 1 ≤ k ∧ k ≤ D.length) ∧ St c 114 [(3, .pointer (some ⟨p15, 0, none⟩)), (4, .slice A_D4 D.length c_D4), (7, .int .i64 (z : Int)), (8, .int .i64 (if lastB D z = true then 2 else 3)), (9, .pointer (some ⟨b9, 0, none⟩)), (10, .int .i64 0), (11, .bool (allNe ((D.drop (z + 1)).take (k - (z + 1))) (gt D z).client)), (12, .int .i64 (k : Int))] [.cells p15 [.map (some m15)] 43, .blk m15 (.map es ck), .cells b9 [.int .u8 (if lastB D z = true then (gt D z).r else rz).code, .slice A9 (if lastB D z = true then (gt D z).r else rz).data.length c9] 29] [Pers.map kLast true T es, Pers.row kTCall A_D4 D, Pers.row Kd.u8 A9 (if lastB D z = true then (gt D z).r else rz).data] a w) (z + 1) a w)) (GC.loop (fun (k : Nat) (a : Act) (w : World) => (z + 1 ≤ k ∧ k ≤ D.length) ∧ St c 114 [(3, .pointer (some ⟨p15, 0, none⟩)), (4, .slice A_D4 D.length c_D4), (7, .int .i64 (z : Int)), (8, .int .i64 (if lastB D z = true then 2 else 3)), (9, .pointer (some ⟨b9, 0, none⟩)), (10, .int .i64 0), (11, .bool (allNe ((D.drop (z + 1)).take (k - (z + 1))) (gt D z).client)), (12, .int .i64 (k : Int))] [.cells p15 [.map (some m15)] 43, .blk m15 (.map es ck), .cells b9 [.int .u8 (if lastB D z = true then (gt D z).r else rz).code, .slice A9 (if lastB D z = true then (gt D z).r else rz).data.length c9] 29] [Pers.map kLast true T es, Pers.row kTCall A_D4 D, Pers.row Kd.u8 A9 (if lastB D z = true then (gt D z).r else rz).data] a w) (fun k => D.length - k) (z + 1) ?_)
                   intro k
                   refine GC.and fun hk1 => ?_
                   refine GC.seq' ?_
                   refine GC.seq' ?_
                   refine GC.region ?_
                   refine GL.pure rfl (p_move rfl) ?_
                   refine GL.pure rfl (p_move rfl) ?_
                   refine GL.pure rfl (p_len Try.underlying22 rfl) ?_
                   refine GL.pure rfl (p_lss rfl rfl) ?_
                   refine GL.nil (?_ : GC _ _ _ _)
                   refine GC.cond rfl (fun h5 => ?_) (fun h5 => ?_)
                   · try simp only [decide_eq_true_eq, decide_eq_false_iff_not, Bool.not_eq_true', Bool.not_eq_false', Bool.not_true, Bool.not_false, Bool.not_not, ne_eq, Decidable.not_not, Int.not_lt, Int.not_le, gt_iff_lt, ge_iff_le, bool_true_eq_, bool_false_eq_] at h5
                     first
                     | (exfalso; first | omega | (simp [*, sameRes] at h5; done))
                     | (skip
                        refine GC.skip (?_ : GC _ _ _ _)
                        refine GC.seq' ?_
                        refine GC.block ?_
                        refine GC.lay (x := .tmp 4) (y := .tmp 12) (j := 1) rfl rfl rfl (by omega) (gt_ok (by omega) (by omega)) (fun p_x77 r_x77 hA_x77 ok_x77 => ?_)
                        rcases r_x77 with ⟨_, ⟨_, ⟨_, ⟨_, ⟨Ax77_0, cpx77_0⟩⟩⟩⟩⟩
                        refine GC.lay (x := .tmp 4) (y := .tmp 7) (j := 3) rfl rfl rfl (by omega) (gt_ok (by omega) (by omega)) (fun p_x82 r_x82 hA_x82 ok_x82 => ?_)
                        rcases r_x82 with ⟨_, ⟨_, ⟨_, ⟨_, ⟨Ax82_0, cpx82_0⟩⟩⟩⟩⟩
                        refine GC.regionQ wide_ (by kernel_rfl) ?_
                        refine GQ.step rfl (q_pure (p_move rfl)) ?_
                        refine GQ.step rfl (q_pure (p_move rfl)) ?_
                        refine GQ.split (i := 74) rfl (fun h6 => ?_) (fun h6 => ?_)
                        · try simp only [decide_eq_true_eq, decide_eq_false_iff_not, Bool.not_eq_true', Bool.not_eq_false', Bool.not_true, Bool.not_false, Bool.not_not, ne_eq, Decidable.not_not, Int.not_lt, Int.not_le, gt_iff_lt, ge_iff_le, bool_true_eq_, bool_false_eq_] at h6
                          first
                          | (exfalso; first | omega | (simp [*, sameRes] at h6; done))
                          | (skip
                             refine GQ.stepG (s := 74) rfl rfl rfl (q_pure (p_move rfl)) ?_
                             refine GQ.stepG (s := 74) rfl rfl rfl (q_pure (p_move rfl)) ?_
                             refine GQ.stepG (s := 74) rfl rfl rfl (q_pure (p_indexL hA_x77 rfl rfl Try.underlying22 sz_31 (by omega) (by omega))) ?_
                             refine GQ.stepG (s := 74) rfl rfl rfl (q_pure (p_fieldAddr' fo_31_1 rfl)) ?_
                             refine GQ.stepG (s := 74) rfl rfl rfl (q_mem (m_loadP (i := 2) rfl rfl ag_3 rfl)) ?_
                             refine GQ.stepG (s := 74) rfl rfl rfl (q_pure (p_move rfl)) ?_
                             refine GQ.stepG (s := 74) rfl rfl rfl (q_pure (p_move rfl)) ?_
                             refine GQ.stepG (s := 74) rfl rfl rfl (q_pure (p_indexL hA_x82 rfl rfl Try.underlying22 sz_31 (by omega) (by omega))) ?_
                             refine GQ.stepG (s := 74) rfl rfl rfl (q_pure (p_fieldAddr' fo_31_1 rfl)) ?_
                             refine GQ.stepG (s := 74) rfl rfl rfl (q_mem (m_loadP (i := 0) rfl rfl ag_3 rfl)) ?_
                             refine GQ.stepG (s := 74) rfl rfl rfl (q_pure (p_neq rfl rfl)) ?_
                             refine GQ.step rfl (q_pure (p_pick_true rfl rfl)) ?_
                             refine GQ.step rfl (q_pure (p_assign rfl)) ?_
                             refine GQ.nil (?_ : GC _ _ _ _)
                             refine GC.region ?_
                             refine GL.pure rfl (p_move rfl) ?_
                             refine GL.pure rfl (p_add rfl rfl (w64 (by omega) (by omega))) ?_
                             refine GL.pure rfl (p_assign rfl) ?_
                             refine GL.nil ?_
                             exact fun a w h => ⟨(k + 1), (by omega), (by omega), by rw [allNe_step (by omega) (by omega), (by assumption : allNe ((D.drop (z + 1)).take (k - (z + 1))) (gt D z).client = true), Bool.true_and]; exact h.cut (is := [0, 0, 0]) (js := [4, 5, 6]) ⟨rfl, rfl, rfl, rfl, rfl, rfl, rfl, rfl, trivial⟩ rfl rfl⟩)
                        · try simp only [decide_eq_true_eq, decide_eq_false_iff_not, Bool.not_eq_true', Bool.not_eq_false', Bool.not_true, Bool.not_false, Bool.not_not, ne_eq, Decidable.not_not, Int.not_lt, Int.not_le, gt_iff_lt, ge_iff_le, bool_true_eq_, bool_false_eq_] at h6
                          first
                          | (exfalso; first | omega | (simp [*, sameRes] at h6; done))
                          | (skip
                             refine GQ.pass (s := 74) rfl rfl rfl ?_
                             refine GQ.pass (s := 74) rfl rfl rfl ?_
                             refine GQ.pass (s := 74) rfl rfl rfl ?_
                             refine GQ.pass (s := 74) rfl rfl rfl ?_
                             refine GQ.pass (s := 74) rfl rfl rfl ?_
                             refine GQ.pass (s := 74) rfl rfl rfl ?_
                             refine GQ.pass (s := 74) rfl rfl rfl ?_
                             refine GQ.pass (s := 74) rfl rfl rfl ?_
                             refine GQ.pass (s := 74) rfl rfl rfl ?_
                             refine GQ.pass (s := 74) rfl rfl rfl ?_
                             refine GQ.pass (s := 74) rfl rfl rfl ?_
                             refine GQ.step rfl (q_pure (p_pick_false rfl rfl)) ?_
                             refine GQ.step rfl (q_pure (p_assign rfl)) ?_
                             refine GQ.nil (?_ : GC _ _ _ _)
                             refine GC.region ?_
                             refine GL.pure rfl (p_move rfl) ?_
                             refine GL.pure rfl (p_add rfl rfl (w64 (by omega) (by omega))) ?_
                             refine GL.pure rfl (p_assign rfl) ?_
                             refine GL.nil ?_
                             exact fun a w h => ⟨(k + 1), (by omega), (by omega), by rw [allNe_step (by omega) (by omega), (by assumption : allNe ((D.drop (z + 1)).take (k - (z + 1))) (gt D z).client = false), Bool.false_and]; exact h.cut (is := [0, 0, 0]) (js := [4, 5, 6]) ⟨rfl, rfl, rfl, rfl, rfl, rfl, rfl, rfl, trivial⟩ rfl rfl⟩))
                   · try simp only [decide_eq_true_eq, decide_eq_false_iff_not, Bool.not_eq_true', Bool.not_eq_false', Bool.not_true, Bool.not_false, Bool.not_not, ne_eq, Decidable.not_not, Int.not_lt, Int.not_le, gt_iff_lt, ge_iff_le, bool_true_eq_, bool_false_eq_] at h5
                     first
                     | (exfalso; first | omega | (simp [*, sameRes] at h5; done))
                     | (skip
                        refine GC.exit (?_ : GC _ _ _ _)
                        refine GC.seq' ?_
                        rw [allNe_all (by omega)]
                        refine GC.lay (x := .tmp 4) (y := .tmp 7) (j := 1) rfl rfl rfl (by omega) (gt_ok (by omega) (by omega)) (fun p_x98 r_x98 hA_x98 ok_x98 => ?_)
                        rcases r_x98 with ⟨_, ⟨_, ⟨_, ⟨_, ⟨Ax98_0, cpx98_0⟩⟩⟩⟩⟩
                        refine GC.regionQ wide_ (by kernel_rfl) ?_
                        refine GQ.step rfl (q_pure (p_move rfl)) ?_
                        refine GQ.step rfl (q_pure (p_neq rfl rfl)) ?_
                        refine GQ.step rfl (q_pure (p_move rfl)) ?_
                        refine GQ.stepG (s := 89) rfl rfl rfl (q_pure (p_move rfl)) ?_
                        refine GQ.stepG (s := 89) rfl rfl rfl (q_pure (p_move rfl)) ?_
                        refine GQ.split (i := 91) rfl (fun h7 => ?_) (fun h7 => ?_)
                        · try simp only [decide_eq_true_eq, decide_eq_false_iff_not, Bool.not_eq_true', Bool.not_eq_false', Bool.not_true, Bool.not_false, Bool.not_not, ne_eq, Decidable.not_not, Int.not_lt, Int.not_le, gt_iff_lt, ge_iff_le, bool_true_eq_, bool_false_eq_] at h7
                          first
                          | (exfalso; first | omega | (simp [*, sameRes] at h7; done))
                          | (skip
                             refine GQ.stepG (s := 91) rfl rfl rfl (q_pure (p_move rfl)) ?_
                             refine GQ.stepG (s := 91) rfl rfl rfl (q_pure (p_neq rfl rfl)) ?_
                             refine GQ.stepG (s := 91) rfl rfl rfl (q_pure (p_move rfl)) ?_
                             refine GQ.split (i := 94) rfl (fun h8 => ?_) (fun h8 => ?_)
                             · try simp only [decide_eq_true_eq, decide_eq_false_iff_not, Bool.not_eq_true', Bool.not_eq_false', Bool.not_true, Bool.not_false, Bool.not_not, ne_eq, Decidable.not_not, Int.not_lt, Int.not_le, gt_iff_lt, ge_iff_le, bool_true_eq_, bool_false_eq_] at h8
                               first
                               | (exfalso; first | omega | (simp [*, sameRes] at h8; done))
                               | (skip
                                  refine GQ.pass (s := 94) rfl rfl rfl ?_
                                  refine GQ.pass (s := 94) rfl rfl rfl ?_
                                  refine GQ.pass (s := 94) rfl rfl rfl ?_
                                  refine GQ.pass (s := 94) rfl rfl rfl ?_
                                  refine GQ.pass (s := 94) rfl rfl rfl ?_
                                  refine GQ.pass (s := 94) rfl rfl rfl ?_
                                  refine GQ.pass (s := 94) rfl rfl rfl ?_
                                  refine GQ.pass (s := 94) rfl rfl rfl ?_
                                  refine GQ.stepG (s := 91) rfl rfl rfl (q_pure (p_pick_true rfl rfl)) ?_
                                  refine GQ.stepG (s := 89) rfl rfl rfl (q_pure (p_pick_true rfl rfl)) ?_
                                  refine GQ.step rfl (q_pure (p_pick_false rfl rfl)) ?_
                                  refine GQ.step rfl (q_pure (p_move rfl)) ?_
                                  refine GQ.pass (s := 106) rfl rfl rfl ?_
                                  refine GQ.pass (s := 106) rfl rfl rfl ?_
                                  refine GQ.pass (s := 106) rfl rfl rfl ?_
                                  refine GQ.passU (s := 109) rfl rfl rfl ?_
                                  refine GQ.passU (s := 109) rfl rfl rfl ?_
                                  refine GQ.pass (s := 106) rfl rfl rfl ?_
                                  refine GQ.step rfl (q_pure (p_pick_true rfl rfl)) ?_
                                  refine GQ.nil (?_ : GC _ _ _ _)
                                  refine GC.cond_true rfl ?_
                                  refine GC.seq' ?_
                                  refine GC.region ?_
                                  refine GL.pure rfl (p_assign rfl) ?_
                                  refine GL.nil (?_ : GC _ _ _ _)
                                  refine GC.ret ?_
                                  refine fun a w h => Fin.back (rs := [.tmp 2]) (vs := [_]) (is := []) (js := []) rfl ⟨rfl, trivial⟩ rfl rfl ?_ h
                                  clear h
                                  exact ⟨rfl, rfl, rfl⟩)
                             · try simp only [decide_eq_true_eq, decide_eq_false_iff_not, Bool.not_eq_true', Bool.not_eq_false', Bool.not_true, Bool.not_false, Bool.not_not, ne_eq, Decidable.not_not, Int.not_lt, Int.not_le, gt_iff_lt, ge_iff_le, bool_true_eq_, bool_false_eq_] at h8
                               first
                               | (exfalso; first | omega | (simp [*, sameRes] at h8; done))
                               | (skip
                                  refine GQ.stepG (s := 94) rfl rfl rfl (q_mem (m_loadN (i := 2) rfl rfl ag_29 (vs := [_, _]) sz_29 ⟨rfl, rfl, trivial⟩)) ?_
                                  refine GQ.stepG (s := 94) rfl rfl rfl (q_pure (p_move rfl)) ?_
                                  refine GQ.stepG (s := 94) rfl rfl rfl (q_pure (p_move rfl)) ?_
                                  refine GQ.stepG (s := 94) rfl rfl rfl (q_pure (p_indexL hA_x98 rfl rfl Try.underlying22 sz_31 (by omega) (by omega))) ?_
                                  refine GQ.stepG (s := 94) rfl rfl rfl (q_pure (p_fieldAddr' fo_31_3 rfl)) ?_
                                  refine GQ.stepG (s := 94) rfl rfl rfl (q_mem (m_loadPN (i := 0) rfl rfl ag_29 (vs := [_, _]) sz_29 ⟨rfl, rfl, trivial⟩)) ?_
                                  refine GQ.stepG (s := 94) rfl rfl rfl (q_call fn_12 rfl (js := [4, 1]) rfl (by exact same_ct _ _ _ _ _ _)) ?_
                                  refine GQ.stepG (s := 94) rfl rfl rfl (q_pure (p_not rfl)) ?_
                                  refine GQ.stepG (s := 91) rfl rfl rfl (q_pure (p_pick_false rfl rfl)) ?_
                                  refine GQ.stepG (s := 89) rfl rfl rfl (q_pure (p_pick_true rfl rfl)) ?_
                                  refine GQ.step rfl (q_pure (p_pick_false rfl rfl)) ?_
                                  refine GQ.step rfl (q_pure (p_move rfl)) ?_
                                  refine GQ.split (i := 106) rfl (fun h9 => ?_) (fun h9 => ?_)
                                  · try simp only [decide_eq_true_eq, decide_eq_false_iff_not, Bool.not_eq_true', Bool.not_eq_false', Bool.not_true, Bool.not_false, Bool.not_not, ne_eq, Decidable.not_not, Int.not_lt, Int.not_le, gt_iff_lt, ge_iff_le, bool_true_eq_, bool_false_eq_] at h9
                                    first
                                    | (exfalso; first | omega | (simp [*, sameRes] at h9; done))
                                    | (skip
                                       refine GQ.pass (s := 106) rfl rfl rfl ?_
                                       refine GQ.pass (s := 106) rfl rfl rfl ?_
                                       refine GQ.pass (s := 106) rfl rfl rfl ?_
                                       refine GQ.passU (s := 109) rfl rfl rfl ?_
                                       refine GQ.passU (s := 109) rfl rfl rfl ?_
                                       refine GQ.pass (s := 106) rfl rfl rfl ?_
                                       refine GQ.step rfl (q_pure (p_pick_true rfl rfl)) ?_
                                       refine GQ.nil (?_ : GC _ _ _ _)
                                       refine GC.cond_true rfl ?_
                                       refine GC.seq' ?_
                                       refine GC.region ?_
                                       refine GL.pure rfl (p_assign rfl) ?_
                                       refine GL.nil (?_ : GC _ _ _ _)
                                       refine GC.ret ?_
                                       refine fun a w h => Fin.back (rs := [.tmp 2]) (vs := [_]) (is := []) (js := []) rfl ⟨rfl, trivial⟩ rfl rfl ?_ h
                                       clear h
                                       exact ⟨rfl, rfl, rfl⟩)
                                  · try simp only [decide_eq_true_eq, decide_eq_false_iff_not, Bool.not_eq_true', Bool.not_eq_false', Bool.not_true, Bool.not_false, Bool.not_not, ne_eq, Decidable.not_not, Int.not_lt, Int.not_le, gt_iff_lt, ge_iff_le, bool_true_eq_, bool_false_eq_] at h9
                                    first
                                    | (exfalso; first | omega | (simp [*, sameRes] at h9; done))
                                    | (skip
                                       refine GQ.stepG (s := 106) rfl rfl rfl (q_pure (p_move rfl)) ?_
                                       refine GQ.stepG (s := 106) rfl rfl rfl (q_pure (p_not rfl)) ?_
                                       refine GQ.stepG (s := 106) rfl rfl rfl (q_pure (p_move rfl)) ?_
                                       refine GQ.split (i := 109) rfl (fun h10 => ?_) (fun h10 => ?_)
                                       · try simp only [decide_eq_true_eq, decide_eq_false_iff_not, Bool.not_eq_true', Bool.not_eq_false', Bool.not_true, Bool.not_false, Bool.not_not, ne_eq, Decidable.not_not, Int.not_lt, Int.not_le, gt_iff_lt, ge_iff_le, bool_true_eq_, bool_false_eq_] at h10
                                         first
                                         | (exfalso; first | omega | (simp [*, sameRes] at h10; done))
                                         | (skip
                                            refine GQ.stepG (s := 109) rfl rfl rfl (q_pure (p_move rfl)) ?_
                                            refine GQ.stepG (s := 109) rfl rfl rfl (q_pure (p_neq rfl rfl)) ?_
                                            refine GQ.stepG (s := 106) rfl rfl rfl (q_pure (p_pick_true rfl rfl)) ?_
                                            refine GQ.step rfl (q_pure (p_pick_false rfl rfl)) ?_
                                            refine GQ.nil (?_ : GC _ _ _ _)
                                            refine GC.cond rfl (fun h11 => ?_) (fun h11 => ?_)
                                            · try simp only [decide_eq_true_eq, decide_eq_false_iff_not, Bool.not_eq_true', Bool.not_eq_false', Bool.not_true, Bool.not_false, Bool.not_not, ne_eq, Decidable.not_not, Int.not_lt, Int.not_le, gt_iff_lt, ge_iff_le, bool_true_eq_, bool_false_eq_] at h11
                                              first
                                              | (exfalso; first | omega | (simp [*, sameRes] at h11; done))
                                              | (skip
                                                 refine GC.seq' ?_
                                                 refine GC.region ?_
                                                 refine GL.pure rfl (p_assign rfl) ?_
                                                 refine GL.nil (?_ : GC _ _ _ _)
                                                 refine GC.ret ?_
                                                 refine fun a w h => Fin.back (rs := [.tmp 2]) (vs := [_]) (is := []) (js := []) rfl ⟨rfl, trivial⟩ rfl rfl ?_ h
                                                 clear h
                                                 exact ⟨rfl, rfl, rfl⟩)
                                            · try simp only [decide_eq_true_eq, decide_eq_false_iff_not, Bool.not_eq_true', Bool.not_eq_false', Bool.not_true, Bool.not_false, Bool.not_not, ne_eq, Decidable.not_not, Int.not_lt, Int.not_le, gt_iff_lt, ge_iff_le, bool_true_eq_, bool_false_eq_] at h11
                                              first
                                              | (exfalso; first | omega | (simp [*, sameRes] at h11; done))
                                              | (skip
                                                 refine GC.skip (?_ : GC _ _ _ _)
                                                 refine GC.region ?_
                                                 refine GL.pure rfl (p_move rfl) ?_
                                                 refine GL.pure rfl (p_add rfl rfl (w64 (by omega) (by omega))) ?_
                                                 refine GL.pure rfl (p_assign rfl) ?_
                                                 refine GL.nil ?_
                                                 exact fun a w h => ⟨z + 1, (by omega), (by omega), h.cut (is := [0, 0]) (js := [2, 3]) ⟨rfl, rfl, rfl, trivial⟩ rfl rfl⟩))
                                       · try simp only [decide_eq_true_eq, decide_eq_false_iff_not, Bool.not_eq_true', Bool.not_eq_false', Bool.not_true, Bool.not_false, Bool.not_not, ne_eq, Decidable.not_not, Int.not_lt, Int.not_le, gt_iff_lt, ge_iff_le, bool_true_eq_, bool_false_eq_] at h10
                                         first
                                         | (exfalso; first | omega | (simp [*, sameRes] at h10; done))
                                         | (skip
                                            refine GQ.pass (s := 109) rfl rfl rfl ?_
                                            refine GQ.pass (s := 109) rfl rfl rfl ?_
                                            refine GQ.stepG (s := 106) rfl rfl rfl (q_pure (p_pick_false rfl rfl)) ?_
                                            refine GQ.step rfl (q_pure (p_pick_false rfl rfl)) ?_
                                            refine GQ.nil (?_ : GC _ _ _ _)
                                            refine GC.cond_false rfl ?_
                                            refine GC.skip (?_ : GC _ _ _ _)
                                            refine GC.region ?_
                                            refine GL.pure rfl (p_move rfl) ?_
                                            refine GL.pure rfl (p_add rfl rfl (w64 (by omega) (by omega))) ?_
                                            refine GL.pure rfl (p_assign rfl) ?_
                                            refine GL.nil ?_
                                            exact fun a w h => ⟨z + 1, (by omega), (by omega), h.cut (is := [0, 0]) (js := [2, 3]) ⟨rfl, rfl, rfl, trivial⟩ rfl rfl⟩))))
                        · try simp only [decide_eq_true_eq, decide_eq_false_iff_not, Bool.not_eq_true', Bool.not_eq_false', Bool.not_true, Bool.not_false, Bool.not_not, ne_eq, Decidable.not_not, Int.not_lt, Int.not_le, gt_iff_lt, ge_iff_le, bool_true_eq_, bool_false_eq_] at h7
                          first
                          | (exfalso; first | omega | (simp [*, sameRes] at h7; done))
                          | (skip
                             refine GQ.pass (s := 91) rfl rfl rfl ?_
                             refine GQ.pass (s := 91) rfl rfl rfl ?_
                             refine GQ.pass (s := 91) rfl rfl rfl ?_
                             refine GQ.passU (s := 94) rfl rfl rfl ?_
                             refine GQ.passU (s := 94) rfl rfl rfl ?_
                             refine GQ.passU (s := 94) rfl rfl rfl ?_
                             refine GQ.passU (s := 94) rfl rfl rfl ?_
                             refine GQ.passU (s := 94) rfl rfl rfl ?_
                             refine GQ.passU (s := 94) rfl rfl rfl ?_
                             refine GQ.passU (s := 94) rfl rfl rfl ?_
                             refine GQ.passU (s := 94) rfl rfl rfl ?_
                             refine GQ.pass (s := 91) rfl rfl rfl ?_
                             refine GQ.stepG (s := 89) rfl rfl rfl (q_pure (p_pick_false rfl rfl)) ?_
                             refine GQ.step rfl (q_pure (p_pick_false rfl rfl)) ?_
                             refine GQ.step rfl (q_pure (p_move rfl)) ?_
                             refine GQ.stepG (s := 106) rfl rfl rfl (q_pure (p_move rfl)) ?_
                             refine GQ.stepG (s := 106) rfl rfl rfl (q_pure (p_not rfl)) ?_
                             refine GQ.stepG (s := 106) rfl rfl rfl (q_pure (p_move rfl)) ?_
                             refine GQ.split (i := 109) rfl (fun h12 => ?_) (fun h12 => ?_)
                             · try simp only [decide_eq_true_eq, decide_eq_false_iff_not, Bool.not_eq_true', Bool.not_eq_false', Bool.not_true, Bool.not_false, Bool.not_not, ne_eq, Decidable.not_not, Int.not_lt, Int.not_le, gt_iff_lt, ge_iff_le, bool_true_eq_, bool_false_eq_] at h12
                               first
                               | (exfalso; first | omega | (simp [*, sameRes] at h12; done))
                               | (skip
                                  refine GQ.stepG (s := 109) rfl rfl rfl (q_pure (p_move rfl)) ?_
                                  refine GQ.stepG (s := 109) rfl rfl rfl (q_pure (p_neq rfl rfl)) ?_
                                  refine GQ.stepG (s := 106) rfl rfl rfl (q_pure (p_pick_true rfl rfl)) ?_
                                  refine GQ.step rfl (q_pure (p_pick_false rfl rfl)) ?_
                                  refine GQ.nil (?_ : GC _ _ _ _)
                                  refine GC.cond rfl (fun h13 => ?_) (fun h13 => ?_)
                                  · try simp only [decide_eq_true_eq, decide_eq_false_iff_not, Bool.not_eq_true', Bool.not_eq_false', Bool.not_true, Bool.not_false, Bool.not_not, ne_eq, Decidable.not_not, Int.not_lt, Int.not_le, gt_iff_lt, ge_iff_le, bool_true_eq_, bool_false_eq_] at h13
                                    first
                                    | (exfalso; first | omega | (simp [*, sameRes] at h13; done))
                                    | (skip
                                       refine GC.seq' ?_
                                       refine GC.region ?_
                                       refine GL.pure rfl (p_assign rfl) ?_
                                       refine GL.nil (?_ : GC _ _ _ _)
                                       refine GC.ret ?_
                                       refine fun a w h => Fin.back (rs := [.tmp 2]) (vs := [_]) (is := []) (js := []) rfl ⟨rfl, trivial⟩ rfl rfl ?_ h
                                       clear h
                                       exact ⟨rfl, rfl, rfl⟩)
                                  · try simp only [decide_eq_true_eq, decide_eq_false_iff_not, Bool.not_eq_true', Bool.not_eq_false', Bool.not_true, Bool.not_false, Bool.not_not, ne_eq, Decidable.not_not, Int.not_lt, Int.not_le, gt_iff_lt, ge_iff_le, bool_true_eq_, bool_false_eq_] at h13
                                    first
                                    | (exfalso; first | omega | (simp [*, sameRes] at h13; done))
                                    | (skip
                                       refine GC.skip (?_ : GC _ _ _ _)
                                       refine GC.region ?_
                                       refine GL.pure rfl (p_move rfl) ?_
                                       refine GL.pure rfl (p_add rfl rfl (w64 (by omega) (by omega))) ?_
                                       refine GL.pure rfl (p_assign rfl) ?_
                                       refine GL.nil ?_
                                       exact fun a w h => ⟨z + 1, (by omega), (by omega), h.cut (is := [0, 0]) (js := [2, 3]) ⟨rfl, rfl, rfl, trivial⟩ rfl rfl⟩))
                             · try simp only [decide_eq_true_eq, decide_eq_false_iff_not, Bool.not_eq_true', Bool.not_eq_false', Bool.not_true, Bool.not_false, Bool.not_not, ne_eq, Decidable.not_not, Int.not_lt, Int.not_le, gt_iff_lt, ge_iff_le, bool_true_eq_, bool_false_eq_] at h12
                               first
                               | (exfalso; first | omega | (simp [*, sameRes] at h12; done))
                               | (skip
                                  refine GQ.pass (s := 109) rfl rfl rfl ?_
                                  refine GQ.pass (s := 109) rfl rfl rfl ?_
                                  refine GQ.stepG (s := 106) rfl rfl rfl (q_pure (p_pick_false rfl rfl)) ?_
                                  refine GQ.step rfl (q_pure (p_pick_false rfl rfl)) ?_
                                  refine GQ.nil (?_ : GC _ _ _ _)
                                  refine GC.cond_false rfl ?_
                                  refine GC.skip (?_ : GC _ _ _ _)
                                  refine GC.region ?_
                                  refine GL.pure rfl (p_move rfl) ?_
                                  refine GL.pure rfl (p_add rfl rfl (w64 (by omega) (by omega))) ?_
                                  refine GL.pure rfl (p_assign rfl) ?_
                                  refine GL.nil ?_
                                  exact fun a w h => ⟨z + 1, (by omega), (by omega), h.cut (is := [0, 0]) (js := [2, 3]) ⟨rfl, rfl, rfl, trivial⟩ rfl rfl⟩))))
            · try simp only [decide_eq_true_eq, decide_eq_false_iff_not, Bool.not_eq_true', Bool.not_eq_false', Bool.not_true, Bool.not_false, Bool.not_not, ne_eq, Decidable.not_not, Int.not_lt, Int.not_le, gt_iff_lt, ge_iff_le, bool_true_eq_, bool_false_eq_] at h4
              first
              | (exfalso; first | omega | (simp [*, sameRes] at h4; done))
              | (skip
                 refine GC.exit (?_ : GC _ _ _ _)
                 refine GC.seq' ?_
                 refine GC.region ?_
                 refine GL.pure rfl (p_assign rfl) ?_
                 refine GL.nil (?_ : GC _ _ _ _)
                 refine GC.ret ?_
                 refine fun a w h => Fin.back (rs := [.tmp 2]) (vs := [_]) (is := []) (js := []) rfl ⟨rfl, trivial⟩ rfl rfl ?_ h
                 clear h
                 exact ⟨rfl, rfl, rfl⟩)))
  · try simp only [decide_eq_true_eq, decide_eq_false_iff_not, Bool.not_eq_true', Bool.not_eq_false', Bool.not_true, Bool.not_false, Bool.not_not, ne_eq, Decidable.not_not, Int.not_lt, Int.not_le, gt_iff_lt, ge_iff_le, bool_true_eq_, bool_false_eq_] at h1
    first
    | (exfalso; first | omega | (simp [*, sameRes] at h1; done))
    | (skip
       refine GL.pass (s := 20) rfl rfl rfl ?_
       refine GL.pass (s := 20) rfl rfl rfl ?_
       refine GL.pure rfl (p_pick_false rfl rfl) ?_
       refine GL.nil (?_ : GC _ _ _ _)
       refine GC.cond_false rfl ?_
       refine GC.exit (?_ : GC _ _ _ _)
       refine GC.seq' ?_
       refine GC.seq' ?_
       refine GC.region ?_
       refine GL.shape (i := 2) rfl (fun A_D4 c_D4 e_D4 l_D4 k_D4 => ?_)
       subst e_D4
       refine GL.freezeR (i := 2) (j := 2) rfl rfl (by decide) ?_
       refine GL.pure rfl (p_assign rfl) ?_
       refine GL.nil (?_ : GC _ _ _ _)
       refine GC.block ?_
       refine GC.imp (fun a w h => (⟨by omega, h.cut (is := [0, 0]) (js := [2, 0]) ⟨rfl, rfl, rfl, trivial⟩ rfl rfl⟩ : (fun (z : Nat) (a : Act) (w : World) => z ≤ D.length ∧ St c 114 [(3, .pointer (some ⟨p15, 0, none⟩)), (4, .slice A_D4 D.length c_D4), (7, .int .i64 (z : Int))] [.cells p15 [.map (some m15)] 43, .blk m15 (.map es ck)] [Pers.map kLast true T es, Pers.row kTCall A_D4 D] a w) 0 a w)) (GC.loop (fun (z : Nat) (a : Act) (w : World) => z ≤ D.length ∧ St c 114 [(3, .pointer (some ⟨p15, 0, none⟩)), (4, .slice A_D4 D.length c_D4), (7, .int .i64 (z : Int))] [.cells p15 [.map (some m15)] 43, .blk m15 (.map es ck)] [Pers.map kLast true T es, Pers.row kTCall A_D4 D] a w) (fun z => D.length - z) 0 ?_)
       intro z
       refine GC.and fun hz0 => ?_
       refine GC.seq' ?_
       refine GC.seq' ?_
       refine GC.region ?_
       refine GL.pure rfl (p_move rfl) ?_
       refine GL.pure rfl (p_move rfl) ?_
       refine GL.pure rfl (p_len Try.underlying22 rfl) ?_
       refine GL.pure rfl (p_lss rfl rfl) ?_
       refine GL.nil (?_ : GC _ _ _ _)
       refine GC.cond rfl (fun h14 => ?_) (fun h14 => ?_)
       · try simp only [decide_eq_true_eq, decide_eq_false_iff_not, Bool.not_eq_true', Bool.not_eq_false', Bool.not_true, Bool.not_false, Bool.not_not, ne_eq, Decidable.not_not, Int.not_lt, Int.not_le, gt_iff_lt, ge_iff_le, bool_true_eq_, bool_false_eq_] at h14
         first
         | (exfalso; first | omega | (simp [*, sameRes] at h14; done))
         | (skip
            refine GC.skip (?_ : GC _ _ _ _)
            refine GC.seq' ?_
            refine GC.block ?_
            refine GC.seq' ?_
            have hz : z < D.length := by omega
            refine GC.lay (x := .tmp 4) (y := .tmp 7) (j := 1) rfl rfl rfl (by omega) (gt_ok (by omega) (by omega)) (fun p_x53 r_x53 hA_x53 ok_x53 => ?_)
            rcases r_x53 with ⟨_, ⟨_, ⟨_, ⟨_, ⟨Ax53_0, cpx53_0⟩⟩⟩⟩⟩
            refine GC.lay (x := .tmp 4) (y := .tmp 7) (j := 3) rfl rfl rfl (by omega) (gt_ok (by omega) (by omega)) (fun p_x58 r_x58 hA_x58 ok_x58 => ?_)
            rcases r_x58 with ⟨_, ⟨_, ⟨_, ⟨_, ⟨Ax58_0, cpx58_0⟩⟩⟩⟩⟩
            refine GC.regionM (m := 20) (M := fun a w => ∃ b9 : Nat, ∃ A9 : Option Addr, ∃ c9 : Nat, St c 114 [(3, .pointer (some ⟨p15, 0, none⟩)), (4, .slice A_D4 D.length c_D4), (7, .int .i64 (z : Int)), (8, .int .i64 (if lastB D z = true then 2 else 3)), (9, .pointer (some ⟨b9, 0, none⟩)), (10, .int .i64 0)] [.cells p15 [.map (some m15)] 43, .blk m15 (.map es ck), .cells b9 [.int .u8 (if lastB D z = true then (gt D z).r else rz).code, .slice A9 (if lastB D z = true then (gt D z).r else rz).data.length c9] 29] [Pers.map kLast true T es, Pers.row kTCall A_D4 D, Pers.row Kd.u8 A9 (if lastB D z = true then (gt D z).r else rz).data] a w) (is := [0, 0]) (js := [0, 1, 2, 3, 4, 5]) wide_ rfl rfl rfl ?_ ?_
            · refine GA.take 0 rfl (by kernel_rfl) (by kernel_rfl) (by kernel_rfl) rfl (fun a w h => h.mem (is := [0, 0]) (js := [0, 1, 2, 3, 4, 5]) rfl rfl) (i_pure (p_move rfl)) ?_
              refine GA.take 1 rfl (by kernel_rfl) (by kernel_rfl) (by kernel_rfl) rfl (fun a w h => h.mem (is := [0, 0]) (js := [0, 1, 2, 3, 4, 5]) rfl rfl) (i_pure (p_move rfl)) ?_
              refine GA.take 2 rfl (by kernel_rfl) (by kernel_rfl) (by kernel_rfl) rfl (fun a w h => h.mem (is := [0, 0]) (js := [0, 1, 2, 3, 4, 5]) rfl rfl) (i_pure (p_move rfl)) ?_
              refine GA.take 3 rfl (by kernel_rfl) (by kernel_rfl) (by kernel_rfl) rfl (fun a w h => h.mem (is := [0, 0]) (js := [0, 1, 2, 3, 4, 5]) rfl rfl) (i_pure (p_indexL hA_x53 rfl rfl Try.underlying22 sz_31 (by omega) (by omega))) ?_
              refine GA.take 4 rfl (by kernel_rfl) (by kernel_rfl) (by kernel_rfl) rfl (fun a w h => h.mem (is := [0, 0]) (js := [0, 1, 2, 3, 4, 5]) rfl rfl) (i_pure (p_fieldAddr' fo_31_1 rfl)) ?_
              refine GA.take 5 rfl (by kernel_rfl) (by kernel_rfl) (by kernel_rfl) rfl (fun a w h => h.mem (is := [0, 0]) (js := [0, 1, 2, 3, 4, 5]) rfl rfl) (i_mem (m_loadP (i := 2) rfl rfl ag_3 rfl)) ?_
              refine GA.take 6 rfl (by kernel_rfl) (by kernel_rfl) (by kernel_rfl) rfl (fun a w h => h.mem (is := [0, 0]) (js := [0, 1, 2, 3, 4, 5]) rfl rfl) (i_pure (p_move rfl)) ?_
              refine GA.take 7 rfl (by kernel_rfl) (by kernel_rfl) (by kernel_rfl) rfl (fun a w h => h.mem (is := [0, 0]) (js := [0, 1, 2, 3, 4, 5]) rfl rfl) (i_pure (p_move rfl)) ?_
              refine GA.take 8 rfl (by kernel_rfl) (by kernel_rfl) (by kernel_rfl) rfl (fun a w h => h.mem (is := [0, 0]) (js := [0, 1, 2, 3, 4, 5]) rfl rfl) (i_pure (p_indexL hA_x58 rfl rfl Try.underlying22 sz_31 (by omega) (by omega))) ?_
              refine GA.take 9 rfl (by kernel_rfl) (by kernel_rfl) (by kernel_rfl) rfl (fun a w h => h.mem (is := [0, 0]) (js := [0, 1, 2, 3, 4, 5]) rfl rfl) (i_pure (p_fieldAddr' fo_31_2 rfl)) ?_
              refine GA.take 10 rfl (by kernel_rfl) (by kernel_rfl) (by kernel_rfl) rfl (fun a w h => h.mem (is := [0, 0]) (js := [0, 1, 2, 3, 4, 5]) rfl rfl) (i_mem (m_loadP (i := 0) rfl rfl ag_3 rfl)) ?_
              refine GA.all (rs := [11, 16]) (by kernel_rfl) (by simp) ?_
              refine GAs.cons (i := 11) rfl rfl (t_call rfl fn_11 rfl (is := [0, 0]) (js := [4]) rfl rfl (by exact ask_eq _ _ _ _ T _ _ hinv.1 _ _ _ (hinv.ask hz))) (by rintro a w ⟨_, _, _, ⟨A61, cp61, l61, m61, rfl, rfl, rfl⟩, h⟩; exact h.mem (is := [0, 0]) (js := [1, 2, 3, 4, 5, 6]) rfl rfl) (GA.ret ?_) ?_
              · rintro _ _ _ ⟨A61, cp61, l61, m61, rfl, rfl, rfl⟩
                refine GA.take 12 rfl (by kernel_rfl) (by kernel_rfl) (by kernel_rfl) rfl (fun a w h => h.mem (is := [0, 0]) (js := [1, 2, 3, 4, 5, 6]) rfl rfl) (i_pure (p_move rfl)) ?_
                refine GA.take 13 rfl (by kernel_rfl) (by kernel_rfl) (by kernel_rfl) rfl (fun a w h => h.mem (is := [0, 0]) (js := [1, 2, 3, 4, 5, 6]) rfl rfl) (i_pure (p_extract rfl rfl)) ?_
                refine GA.take 14 rfl (by kernel_rfl) (by kernel_rfl) (by kernel_rfl) rfl (fun a w h => h.mem (is := [0, 0]) (js := [1, 2, 3, 4, 5, 6]) rfl rfl) (i_pure (p_extract rfl rfl)) ?_
                refine GA.take 15 rfl (by kernel_rfl) (by kernel_rfl) (by kernel_rfl) rfl (fun a w h => h.mem (is := [0, 0]) (js := [1, 2, 3, 4, 5, 6]) rfl rfl) (i_pure (p_extract rfl rfl)) ?_
                refine GA.all (rs := [16]) (by kernel_rfl) (by simp) ?_
                refine GAs.cons (i := 16) rfl rfl (t_alloc rfl ze_29) (by rintro a w ⟨_, h⟩; exact h.mem (is := [1, 1]) (js := [1, 2, 3, 4, 5, 6]) rfl rfl) (GA.ex fun b_t9 => ?_) ?_
                · refine GA.take 17 rfl (by kernel_rfl) (by kernel_rfl) (by kernel_rfl) rfl (fun a w h => h.mem (is := [1, 1]) (js := [1, 2, 3, 4, 5, 6]) rfl rfl) (i_pure (p_assign rfl)) ?_
                  refine GA.all (rs := [18]) (by kernel_rfl) (by simp) ?_
                  refine GAs.cons (i := 18) rfl rfl (t_storeN (i := 0) rfl rfl rfl sz_29 rfl rfl rfl) (by rintro a w h; exact h.mem (is := [1, 1]) (js := [1, 2, 3, 4, 5, 6]) rfl rfl) ?_ ?_
                  · refine GA.take 19 rfl (by kernel_rfl) (by kernel_rfl) (by kernel_rfl) rfl (fun a w h => h.mem (is := [1, 1]) (js := [1, 2, 3, 4, 5, 6]) rfl rfl) (i_pure (p_assign rfl)) ?_
                    exact GA.done (by kernel_rfl) (fun a w h => ⟨b_t9, A61, cp61, h.cut (is := [1, 1, 0]) (js := [5, 6, 0]) ⟨rfl, rfl, rfl, rfl, rfl, rfl, trivial⟩ rfl rfl⟩)
                  exact GAs.nil
                exact GAs.nil
              refine GAs.cons (i := 16) rfl rfl (t_alloc rfl ze_29) (by rintro a w ⟨_, h⟩; exact h.mem (is := [1, 1]) (js := [0, 1, 2, 3, 4, 5]) rfl rfl) (GA.ex fun b_t9 => ?_) ?_
              · refine GA.all (rs := [11]) (by kernel_rfl) (by simp) ?_
                refine GAs.cons (i := 11) rfl rfl (t_call rfl fn_11 rfl (is := [1, 1]) (js := [4]) rfl rfl (by exact ask_eq _ _ _ _ T _ _ hinv.1 _ _ _ (hinv.ask hz))) (by rintro a w ⟨_, _, _, ⟨A61, cp61, l61, m61, rfl, rfl, rfl⟩, h⟩; exact h.mem (is := [0, 0]) (js := [1, 2, 3, 4, 5, 6]) rfl rfl) (GA.ret ?_) ?_
                · rintro _ _ _ ⟨A61, cp61, l61, m61, rfl, rfl, rfl⟩
                  refine GA.take 12 rfl (by kernel_rfl) (by kernel_rfl) (by kernel_rfl) rfl (fun a w h => h.mem (is := [0, 0]) (js := [1, 2, 3, 4, 5, 6]) rfl rfl) (i_pure (p_move rfl)) ?_
                  refine GA.take 13 rfl (by kernel_rfl) (by kernel_rfl) (by kernel_rfl) rfl (fun a w h => h.mem (is := [0, 0]) (js := [1, 2, 3, 4, 5, 6]) rfl rfl) (i_pure (p_extract rfl rfl)) ?_
                  refine GA.take 14 rfl (by kernel_rfl) (by kernel_rfl) (by kernel_rfl) rfl (fun a w h => h.mem (is := [0, 0]) (js := [1, 2, 3, 4, 5, 6]) rfl rfl) (i_pure (p_extract rfl rfl)) ?_
                  refine GA.take 15 rfl (by kernel_rfl) (by kernel_rfl) (by kernel_rfl) rfl (fun a w h => h.mem (is := [0, 0]) (js := [1, 2, 3, 4, 5, 6]) rfl rfl) (i_pure (p_extract rfl rfl)) ?_
                  refine GA.take 17 rfl (by kernel_rfl) (by kernel_rfl) (by kernel_rfl) rfl (fun a w h => h.mem (is := [0, 0]) (js := [1, 2, 3, 4, 5, 6]) rfl rfl) (i_pure (p_assign rfl)) ?_
                  refine GA.all (rs := [18]) (by kernel_rfl) (by simp) ?_
                  refine GAs.cons (i := 18) rfl rfl (t_storeN (i := 2) rfl rfl rfl sz_29 rfl rfl rfl) (by rintro a w h; exact h.mem (is := [0, 0]) (js := [1, 2, 3, 4, 5, 6]) rfl rfl) ?_ ?_
                  · refine GA.take 19 rfl (by kernel_rfl) (by kernel_rfl) (by kernel_rfl) rfl (fun a w h => h.mem (is := [0, 0]) (js := [1, 2, 3, 4, 5, 6]) rfl rfl) (i_pure (p_assign rfl)) ?_
                    exact GA.done (by kernel_rfl) (fun a w h => ⟨b_t9, A61, cp61, h.cut (is := [0, 0, 0]) (js := [5, 6, 0]) ⟨rfl, rfl, rfl, rfl, rfl, rfl, trivial⟩ rfl rfl⟩)
                  exact GAs.nil
                exact GAs.nil
              exact GAs.nil
            · refine (?_ : GC _ _ _ _)
              refine GC.ex fun b9 => GC.ex fun A9 => GC.ex fun c9 => ?_
              refine GC.seq' ?_
              refine GC.region ?_
              refine GL.pure rfl (p_assign rfl) ?_
              refine GL.nil (?_ : GC _ _ _ _)
              refine GC.seq' ?_
              refine GC.seq' ?_
              refine GC.region ?_
              refine GL.pure rfl (p_move rfl) ?_
              refine GL.pure rfl (p_add rfl rfl (w64 (by omega) (by omega))) ?_
              refine GL.pure rfl (p_assign rfl) ?_
              refine GL.nil (?_ : GC _ _ _ _)
              refine GC.block ?_
              refine GC.imp (fun a w h => (⟨by omega, by rw [allNe_nil]; exact h.cut (is := [0, 0, 0]) (js := [0, 1, 2]) ⟨rfl, rfl, rfl, rfl, rfl, rfl, rfl, rfl, trivial⟩ rfl rfl⟩ : (fun (k : Nat) (a : Act) (w : World) => (z + 1 ≤ k ∧ k ≤ D.length) ∧ St c 114 [(3, .pointer (some ⟨p15, 0, none⟩)), (4, .slice A_D4 D.length c_D4), (7, .int .i64 (z : Int)), (8, .int .i64 (if lastB D z = true then 2 else 3)), (9, .pointer (some ⟨b9, 0, none⟩)), (10, .int .i64 0), (11, .bool (allNe ((D.drop (z + 1)).take (k - (z + 1))) (gt D z).client)), (12, .int .i64 (k : Int))] [.cells p15 [.map (some m15)] 43, .blk m15 (.map es ck), .cells b9 [.int .u8 (if lastB D z = true then (gt D z).r else rz).code, .slice A9 (if lastB D z = true then (gt D z).r else rz).data.length c9] 29] [Pers.map kLast true T es, Pers.row kTCall A_D4 D, Pers.row Kd.u8 A9 (if lastB D z = true then (gt D z).r else rz).data] a w) (z + 1) a w)) (GC.loop (fun (k : Nat) (a : Act) (w : World) => (z + 1 ≤ k ∧ k ≤ D.length) ∧ St c 114 [(3, .pointer (some ⟨p15, 0, none⟩)), (4, .slice A_D4 D.length c_D4), (7, .int .i64 (z : Int)), (8, .int .i64 (if lastB D z = true then 2 else 3)), (9, .pointer (some ⟨b9, 0, none⟩)), (10, .int .i64 0), (11, .bool (allNe ((D.drop (z + 1)).take (k - (z + 1))) (gt D z).client)), (12, .int .i64 (k : Int))] [.cells p15 [.map (some m15)] 43, .blk m15 (.map es ck), .cells b9 [.int .u8 (if lastB D z = true then (gt D z).r else rz).code, .slice A9 (if lastB D z = true then (gt D z).r else rz).data.length c9] 29] [Pers.map kLast true T es, Pers.row kTCall A_D4 D, Pers.row Kd.u8 A9 (if lastB D z = true then (gt D z).r else rz).data] a w) (fun k => D.length - k) (z + 1) ?_)
              intro k
              refine GC.and fun hk1 => ?_
              refine GC.seq' ?_
              refine GC.seq' ?_
              refine GC.region ?_
              refine GL.pure rfl (p_move rfl) ?_
              refine GL.pure rfl (p_move rfl) ?_
              refine GL.pure rfl (p_len Try.underlying22 rfl) ?_
              refine GL.pure rfl (p_lss rfl rfl) ?_
              refine GL.nil (?_ : GC _ _ _ _)
              refine GC.cond rfl (fun h15 => ?_) (fun h15 => ?_)
              · try simp only [decide_eq_true_eq, decide_eq_false_iff_not, Bool.not_eq_true', Bool.not_eq_false', Bool.not_true, Bool.not_false, Bool.not_not, ne_eq, Decidable.not_not, Int.not_lt, Int.not_le, gt_iff_lt, ge_iff_le, bool_true_eq_, bool_false_eq_] at h15
                first
                | (exfalso; first | omega | (simp [*, sameRes] at h15; done))
                | (skip
                   refine GC.skip (?_ : GC _ _ _ _)
                   refine GC.seq' ?_
                   refine GC.block ?_
                   refine GC.lay (x := .tmp 4) (y := .tmp 12) (j := 1) rfl rfl rfl (by omega) (gt_ok (by omega) (by omega)) (fun p_x77 r_x77 hA_x77 ok_x77 => ?_)
                   rcases r_x77 with ⟨_, ⟨_, ⟨_, ⟨_, ⟨Ax77_0, cpx77_0⟩⟩⟩⟩⟩
                   refine GC.lay (x := .tmp 4) (y := .tmp 7) (j := 3) rfl rfl rfl (by omega) (gt_ok (by omega) (by omega)) (fun p_x82 r_x82 hA_x82 ok_x82 => ?_)
                   rcases r_x82 with ⟨_, ⟨_, ⟨_, ⟨_, ⟨Ax82_0, cpx82_0⟩⟩⟩⟩⟩
                   refine GC.regionQ wide_ (by kernel_rfl) ?_
                   refine GQ.step rfl (q_pure (p_move rfl)) ?_
                   refine GQ.step rfl (q_pure (p_move rfl)) ?_
                   refine GQ.split (i := 74) rfl (fun h16 => ?_) (fun h16 => ?_)
                   · try simp only [decide_eq_true_eq, decide_eq_false_iff_not, Bool.not_eq_true', Bool.not_eq_false', Bool.not_true, Bool.not_false, Bool.not_not, ne_eq, Decidable.not_not, Int.not_lt, Int.not_le, gt_iff_lt, ge_iff_le, bool_true_eq_, bool_false_eq_] at h16
                     first
                     | (exfalso; first | omega | (simp [*, sameRes] at h16; done))
                     | (skip
                        refine GQ.stepG (s := 74) rfl rfl rfl (q_pure (p_move rfl)) ?_
                        refine GQ.stepG (s := 74) rfl rfl rfl (q_pure (p_move rfl)) ?_
                        refine GQ.stepG (s := 74) rfl rfl rfl (q_pure (p_indexL hA_x77 rfl rfl Try.underlying22 sz_31 (by omega) (by omega))) ?_
                        refine GQ.stepG (s := 74) rfl rfl rfl (q_pure (p_fieldAddr' fo_31_1 rfl)) ?_
                        refine GQ.stepG (s := 74) rfl rfl rfl (q_mem (m_loadP (i := 2) rfl rfl ag_3 rfl)) ?_
                        refine GQ.stepG (s := 74) rfl rfl rfl (q_pure (p_move rfl)) ?_
                        refine GQ.stepG (s := 74) rfl rfl rfl (q_pure (p_move rfl)) ?_
                        refine GQ.stepG (s := 74) rfl rfl rfl (q_pure (p_indexL hA_x82 rfl rfl Try.underlying22 sz_31 (by omega) (by omega))) ?_
                        refine GQ.stepG (s := 74) rfl rfl rfl (q_pure (p_fieldAddr' fo_31_1 rfl)) ?_
                        refine GQ.stepG (s := 74) rfl rfl rfl (q_mem (m_loadP (i := 0) rfl rfl ag_3 rfl)) ?_
                        refine GQ.stepG (s := 74) rfl rfl rfl (q_pure (p_neq rfl rfl)) ?_
                        refine GQ.step rfl (q_pure (p_pick_true rfl rfl)) ?_
                        refine GQ.step rfl (q_pure (p_assign rfl)) ?_
                        refine GQ.nil (?_ : GC _ _ _ _)
                        refine GC.region ?_
                        refine GL.pure rfl (p_move rfl) ?_
                        refine GL.pure rfl (p_add rfl rfl (w64 (by omega) (by omega))) ?_
                        refine GL.pure rfl (p_assign rfl) ?_
                        refine GL.nil ?_
                        exact fun a w h => ⟨(k + 1), (by omega), (by omega), by rw [allNe_step (by omega) (by omega), (by assumption : allNe ((D.drop (z + 1)).take (k - (z + 1))) (gt D z).client = true), Bool.true_and]; exact h.cut (is := [0, 0, 0]) (js := [4, 5, 6]) ⟨rfl, rfl, rfl, rfl, rfl, rfl, rfl, rfl, trivial⟩ rfl rfl⟩)
                   · try simp only [decide_eq_true_eq, decide_eq_false_iff_not, Bool.not_eq_true', Bool.not_eq_false', Bool.not_true, Bool.not_false, Bool.not_not, ne_eq, Decidable.not_not, Int.not_lt, Int.not_le, gt_iff_lt, ge_iff_le, bool_true_eq_, bool_false_eq_] at h16
                     first
                     | (exfalso; first | omega | (simp [*, sameRes] at h16; done))
                     | (skip
                        refine GQ.pass (s := 74) rfl rfl rfl ?_
                        refine GQ.pass (s := 74) rfl rfl rfl ?_
                        refine GQ.pass (s := 74) rfl rfl rfl ?_
                        refine GQ.pass (s := 74) rfl rfl rfl ?_
                        refine GQ.pass (s := 74) rfl rfl rfl ?_
                        refine GQ.pass (s := 74) rfl rfl rfl ?_
                        refine GQ.pass (s := 74) rfl rfl rfl ?_
                        refine GQ.pass (s := 74) rfl rfl rfl ?_
                        refine GQ.pass (s := 74) rfl rfl rfl ?_
                        refine GQ.pass (s := 74) rfl rfl rfl ?_
                        refine GQ.pass (s := 74) rfl rfl rfl ?_
                        refine GQ.step rfl (q_pure (p_pick_false rfl rfl)) ?_
                        refine GQ.step rfl (q_pure (p_assign rfl)) ?_
                        refine GQ.nil (?_ : GC _ _ _ _)
                        refine GC.region ?_
                        refine GL.pure rfl (p_move rfl) ?_
                        refine GL.pure rfl (p_add rfl rfl (w64 (by omega) (by omega))) ?_
                        refine GL.pure rfl (p_assign rfl) ?_
                        refine GL.nil ?_
                        exact fun a w h => ⟨(k + 1), (by omega), (by omega), by rw [allNe_step (by omega) (by omega), (by assumption : allNe ((D.drop (z + 1)).take (k - (z + 1))) (gt D z).client = false), Bool.false_and]; exact h.cut (is := [0, 0, 0]) (js := [4, 5, 6]) ⟨rfl, rfl, rfl, rfl, rfl, rfl, rfl, rfl, trivial⟩ rfl rfl⟩))
              · try simp only [decide_eq_true_eq, decide_eq_false_iff_not, Bool.not_eq_true', Bool.not_eq_false', Bool.not_true, Bool.not_false, Bool.not_not, ne_eq, Decidable.not_not, Int.not_lt, Int.not_le, gt_iff_lt, ge_iff_le, bool_true_eq_, bool_false_eq_] at h15
                first
                | (exfalso; first | omega | (simp [*, sameRes] at h15; done))
                | (skip
                   refine GC.exit (?_ : GC _ _ _ _)
                   refine GC.seq' ?_
                   rw [allNe_all (by omega)]
                   refine GC.lay (x := .tmp 4) (y := .tmp 7) (j := 1) rfl rfl rfl (by omega) (gt_ok (by omega) (by omega)) (fun p_x98 r_x98 hA_x98 ok_x98 => ?_)
                   rcases r_x98 with ⟨_, ⟨_, ⟨_, ⟨_, ⟨Ax98_0, cpx98_0⟩⟩⟩⟩⟩
                   refine GC.regionQ wide_ (by kernel_rfl) ?_
                   refine GQ.step rfl (q_pure (p_move rfl)) ?_
                   refine GQ.step rfl (q_pure (p_neq rfl rfl)) ?_
                   refine GQ.step rfl (q_pure (p_move rfl)) ?_
                   refine GQ.stepG (s := 89) rfl rfl rfl (q_pure (p_move rfl)) ?_
                   refine GQ.stepG (s := 89) rfl rfl rfl (q_pure (p_move rfl)) ?_
                   refine GQ.split (i := 91) rfl (fun h17 => ?_) (fun h17 => ?_)
                   · try simp only [decide_eq_true_eq, decide_eq_false_iff_not, Bool.not_eq_true', Bool.not_eq_false', Bool.not_true, Bool.not_false, Bool.not_not, ne_eq, Decidable.not_not, Int.not_lt, Int.not_le, gt_iff_lt, ge_iff_le, bool_true_eq_, bool_false_eq_] at h17
                     first
                     | (exfalso; first | omega | (simp [*, sameRes] at h17; done))
                     | (skip
                        refine GQ.stepG (s := 91) rfl rfl rfl (q_pure (p_move rfl)) ?_
                        refine GQ.stepG (s := 91) rfl rfl rfl (q_pure (p_neq rfl rfl)) ?_
                        refine GQ.stepG (s := 91) rfl rfl rfl (q_pure (p_move rfl)) ?_
                        refine GQ.split (i := 94) rfl (fun h18 => ?_) (fun h18 => ?_)
                        · try simp only [decide_eq_true_eq, decide_eq_false_iff_not, Bool.not_eq_true', Bool.not_eq_false', Bool.not_true, Bool.not_false, Bool.not_not, ne_eq, Decidable.not_not, Int.not_lt, Int.not_le, gt_iff_lt, ge_iff_le, bool_true_eq_, bool_false_eq_] at h18
                          first
                          | (exfalso; first | omega | (simp [*, sameRes] at h18; done))
                          | (skip
                             refine GQ.pass (s := 94) rfl rfl rfl ?_
                             refine GQ.pass (s := 94) rfl rfl rfl ?_
                             refine GQ.pass (s := 94) rfl rfl rfl ?_
                             refine GQ.pass (s := 94) rfl rfl rfl ?_
                             refine GQ.pass (s := 94) rfl rfl rfl ?_
                             refine GQ.pass (s := 94) rfl rfl rfl ?_
                             refine GQ.pass (s := 94) rfl rfl rfl ?_
                             refine GQ.pass (s := 94) rfl rfl rfl ?_
                             refine GQ.stepG (s := 91) rfl rfl rfl (q_pure (p_pick_true rfl rfl)) ?_
                             refine GQ.stepG (s := 89) rfl rfl rfl (q_pure (p_pick_true rfl rfl)) ?_
                             refine GQ.step rfl (q_pure (p_pick_false rfl rfl)) ?_
                             refine GQ.step rfl (q_pure (p_move rfl)) ?_
                             refine GQ.pass (s := 106) rfl rfl rfl ?_
                             refine GQ.pass (s := 106) rfl rfl rfl ?_
                             refine GQ.pass (s := 106) rfl rfl rfl ?_
                             refine GQ.passU (s := 109) rfl rfl rfl ?_
                             refine GQ.passU (s := 109) rfl rfl rfl ?_
                             refine GQ.pass (s := 106) rfl rfl rfl ?_
                             refine GQ.step rfl (q_pure (p_pick_true rfl rfl)) ?_
                             refine GQ.nil (?_ : GC _ _ _ _)
                             refine GC.cond_true rfl ?_
                             refine GC.seq' ?_
                             refine GC.region ?_
                             refine GL.pure rfl (p_assign rfl) ?_
                             refine GL.nil (?_ : GC _ _ _ _)
                             refine GC.ret ?_
                             refine fun a w h => Fin.back (rs := [.tmp 2]) (vs := [_]) (is := []) (js := []) rfl ⟨rfl, trivial⟩ rfl rfl ?_ h
                             clear h
                             exact ⟨rfl, rfl, rfl⟩)
                        · try simp only [decide_eq_true_eq, decide_eq_false_iff_not, Bool.not_eq_true', Bool.not_eq_false', Bool.not_true, Bool.not_false, Bool.not_not, ne_eq, Decidable.not_not, Int.not_lt, Int.not_le, gt_iff_lt, ge_iff_le, bool_true_eq_, bool_false_eq_] at h18
                          first
                          | (exfalso; first | omega | (simp [*, sameRes] at h18; done))
                          | (skip
                             refine GQ.stepG (s := 94) rfl rfl rfl (q_mem (m_loadN (i := 2) rfl rfl ag_29 (vs := [_, _]) sz_29 ⟨rfl, rfl, trivial⟩)) ?_
                             refine GQ.stepG (s := 94) rfl rfl rfl (q_pure (p_move rfl)) ?_
                             refine GQ.stepG (s := 94) rfl rfl rfl (q_pure (p_move rfl)) ?_
                             refine GQ.stepG (s := 94) rfl rfl rfl (q_pure (p_indexL hA_x98 rfl rfl Try.underlying22 sz_31 (by omega) (by omega))) ?_
                             refine GQ.stepG (s := 94) rfl rfl rfl (q_pure (p_fieldAddr' fo_31_3 rfl)) ?_
                             refine GQ.stepG (s := 94) rfl rfl rfl (q_mem (m_loadPN (i := 0) rfl rfl ag_29 (vs := [_, _]) sz_29 ⟨rfl, rfl, trivial⟩)) ?_
                             refine GQ.stepG (s := 94) rfl rfl rfl (q_call fn_12 rfl (js := [4, 1]) rfl (by exact same_ct _ _ _ _ _ _)) ?_
                             refine GQ.stepG (s := 94) rfl rfl rfl (q_pure (p_not rfl)) ?_
                             refine GQ.stepG (s := 91) rfl rfl rfl (q_pure (p_pick_false rfl rfl)) ?_
                             refine GQ.stepG (s := 89) rfl rfl rfl (q_pure (p_pick_true rfl rfl)) ?_
                             refine GQ.step rfl (q_pure (p_pick_false rfl rfl)) ?_
                             refine GQ.step rfl (q_pure (p_move rfl)) ?_
                             refine GQ.split (i := 106) rfl (fun h19 => ?_) (fun h19 => ?_)
                             · try simp only [decide_eq_true_eq, decide_eq_false_iff_not, Bool.not_eq_true', Bool.not_eq_false', Bool.not_true, Bool.not_false, Bool.not_not, ne_eq, Decidable.not_not, Int.not_lt, Int.not_le, gt_iff_lt, ge_iff_le, bool_true_eq_, bool_false_eq_] at h19
                               first
                               | (exfalso; first | omega | (simp [*, sameRes] at h19; done))
                               | (skip
                                  refine GQ.pass (s := 106) rfl rfl rfl ?_
                                  refine GQ.pass (s := 106) rfl rfl rfl ?_
                                  refine GQ.pass (s := 106) rfl rfl rfl ?_
                                  refine GQ.passU (s := 109) rfl rfl rfl ?_
                                  refine GQ.passU (s := 109) rfl rfl rfl ?_
                                  refine GQ.pass (s := 106) rfl rfl rfl ?_
                                  refine GQ.step rfl (q_pure (p_pick_true rfl rfl)) ?_
                                  refine GQ.nil (?_ : GC _ _ _ _)
                                  refine GC.cond_true rfl ?_
                                  refine GC.seq' ?_
                                  refine GC.region ?_
                                  refine GL.pure rfl (p_assign rfl) ?_
                                  refine GL.nil (?_ : GC _ _ _ _)
                                  refine GC.ret ?_
                                  refine fun a w h => Fin.back (rs := [.tmp 2]) (vs := [_]) (is := []) (js := []) rfl ⟨rfl, trivial⟩ rfl rfl ?_ h
                                  clear h
                                  exact ⟨rfl, rfl, rfl⟩)
                             · try simp only [decide_eq_true_eq, decide_eq_false_iff_not, Bool.not_eq_true', Bool.not_eq_false', Bool.not_true, Bool.not_false, Bool.not_not, ne_eq, Decidable.not_not, Int.not_lt, Int.not_le, gt_iff_lt, ge_iff_le, bool_true_eq_, bool_false_eq_] at h19
                               first
                               | (exfalso; first | omega | (simp [*, sameRes] at h19; done))
                               | (skip
                                  refine GQ.stepG (s := 106) rfl rfl rfl (q_pure (p_move rfl)) ?_
                                  refine GQ.stepG (s := 106) rfl rfl rfl (q_pure (p_not rfl)) ?_
                                  refine GQ.stepG (s := 106) rfl rfl rfl (q_pure (p_move rfl)) ?_
                                  refine GQ.split (i := 109) rfl (fun h20 => ?_) (fun h20 => ?_)
                                  · try simp only [decide_eq_true_eq, decide_eq_false_iff_not, Bool.not_eq_true', Bool.not_eq_false', Bool.not_true, Bool.not_false, Bool.not_not, ne_eq, Decidable.not_not, Int.not_lt, Int.not_le, gt_iff_lt, ge_iff_le, bool_true_eq_, bool_false_eq_] at h20
                                    first
                                    | (exfalso; first | omega | (simp [*, sameRes] at h20; done))
                                    | (skip
                                       refine GQ.stepG (s := 109) rfl rfl rfl (q_pure (p_move rfl)) ?_
                                       refine GQ.stepG (s := 109) rfl rfl rfl (q_pure (p_neq rfl rfl)) ?_
                                       refine GQ.stepG (s := 106) rfl rfl rfl (q_pure (p_pick_true rfl rfl)) ?_
                                       refine GQ.step rfl (q_pure (p_pick_false rfl rfl)) ?_
                                       refine GQ.nil (?_ : GC _ _ _ _)
                                       refine GC.cond rfl (fun h21 => ?_) (fun h21 => ?_)
                                       · try simp only [decide_eq_true_eq, decide_eq_false_iff_not, Bool.not_eq_true', Bool.not_eq_false', Bool.not_true, Bool.not_false, Bool.not_not, ne_eq, Decidable.not_not, Int.not_lt, Int.not_le, gt_iff_lt, ge_iff_le, bool_true_eq_, bool_false_eq_] at h21
                                         first
                                         | (exfalso; first | omega | (simp [*, sameRes] at h21; done))
                                         | (skip
                                            refine GC.seq' ?_
                                            refine GC.region ?_
                                            refine GL.pure rfl (p_assign rfl) ?_
                                            refine GL.nil (?_ : GC _ _ _ _)
                                            refine GC.ret ?_
                                            refine fun a w h => Fin.back (rs := [.tmp 2]) (vs := [_]) (is := []) (js := []) rfl ⟨rfl, trivial⟩ rfl rfl ?_ h
                                            clear h
                                            exact ⟨rfl, rfl, rfl⟩)
                                       · try simp only [decide_eq_true_eq, decide_eq_false_iff_not, Bool.not_eq_true', Bool.not_eq_false', Bool.not_true, Bool.not_false, Bool.not_not, ne_eq, Decidable.not_not, Int.not_lt, Int.not_le, gt_iff_lt, ge_iff_le, bool_true_eq_, bool_false_eq_] at h21
                                         first
                                         | (exfalso; first | omega | (simp [*, sameRes] at h21; done))
                                         | (skip
                                            refine GC.skip (?_ : GC _ _ _ _)
                                            refine GC.region ?_
                                            refine GL.pure rfl (p_move rfl) ?_
                                            refine GL.pure rfl (p_add rfl rfl (w64 (by omega) (by omega))) ?_
                                            refine GL.pure rfl (p_assign rfl) ?_
                                            refine GL.nil ?_
                                            exact fun a w h => ⟨z + 1, (by omega), (by omega), h.cut (is := [0, 0]) (js := [2, 3]) ⟨rfl, rfl, rfl, trivial⟩ rfl rfl⟩))
                                  · try simp only [decide_eq_true_eq, decide_eq_false_iff_not, Bool.not_eq_true', Bool.not_eq_false', Bool.not_true, Bool.not_false, Bool.not_not, ne_eq, Decidable.not_not, Int.not_lt, Int.not_le, gt_iff_lt, ge_iff_le, bool_true_eq_, bool_false_eq_] at h20
                                    first
                                    | (exfalso; first | omega | (simp [*, sameRes] at h20; done))
                                    | (skip
                                       refine GQ.pass (s := 109) rfl rfl rfl ?_
                                       refine GQ.pass (s := 109) rfl rfl rfl ?_
                                       refine GQ.stepG (s := 106) rfl rfl rfl (q_pure (p_pick_false rfl rfl)) ?_
                                       refine GQ.step rfl (q_pure (p_pick_false rfl rfl)) ?_
                                       refine GQ.nil (?_ : GC _ _ _ _)
                                       refine GC.cond_false rfl ?_
                                       refine GC.skip (?_ : GC _ _ _ _)
                                       refine GC.region ?_
                                       refine GL.pure rfl (p_move rfl) ?_
                                       refine GL.pure rfl (p_add rfl rfl (w64 (by omega) (by omega))) ?_
                                       refine GL.pure rfl (p_assign rfl) ?_
                                       refine GL.nil ?_
                                       exact fun a w h => ⟨z + 1, (by omega), (by omega), h.cut (is := [0, 0]) (js := [2, 3]) ⟨rfl, rfl, rfl, trivial⟩ rfl rfl⟩))))
                   · try simp only [decide_eq_true_eq, decide_eq_false_iff_not, Bool.not_eq_true', Bool.not_eq_false', Bool.not_true, Bool.not_false, Bool.not_not, ne_eq, Decidable.not_not, Int.not_lt, Int.not_le, gt_iff_lt, ge_iff_le, bool_true_eq_, bool_false_eq_] at h17
                     first
                     | (exfalso; first | omega | (simp [*, sameRes] at h17; done))
                     | (skip
                        refine GQ.pass (s := 91) rfl rfl rfl ?_
                        refine GQ.pass (s := 91) rfl rfl rfl ?_
                        refine GQ.pass (s := 91) rfl rfl rfl ?_
                        refine GQ.passU (s := 94) rfl rfl rfl ?_
                        refine GQ.passU (s := 94) rfl rfl rfl ?_
                        refine GQ.passU (s := 94) rfl rfl rfl ?_
                        refine GQ.passU (s := 94) rfl rfl rfl ?_
                        refine GQ.passU (s := 94) rfl rfl rfl ?_
                        refine GQ.passU (s := 94) rfl rfl rfl ?_
                        refine GQ.passU (s := 94) rfl rfl rfl ?_
                        refine GQ.passU (s := 94) rfl rfl rfl ?_
                        refine GQ.pass (s := 91) rfl rfl rfl ?_
                        refine GQ.stepG (s := 89) rfl rfl rfl (q_pure (p_pick_false rfl rfl)) ?_
                        refine GQ.step rfl (q_pure (p_pick_false rfl rfl)) ?_
                        refine GQ.step rfl (q_pure (p_move rfl)) ?_
                        refine GQ.stepG (s := 106) rfl rfl rfl (q_pure (p_move rfl)) ?_
                        refine GQ.stepG (s := 106) rfl rfl rfl (q_pure (p_not rfl)) ?_
                        refine GQ.stepG (s := 106) rfl rfl rfl (q_pure (p_move rfl)) ?_
                        refine GQ.split (i := 109) rfl (fun h22 => ?_) (fun h22 => ?_)
                        · try simp only [decide_eq_true_eq, decide_eq_false_iff_not, Bool.not_eq_true', Bool.not_eq_false', Bool.not_true, Bool.not_false, Bool.not_not, ne_eq, Decidable.not_not, Int.not_lt, Int.not_le, gt_iff_lt, ge_iff_le, bool_true_eq_, bool_false_eq_] at h22
                          first
                          | (exfalso; first | omega | (simp [*, sameRes] at h22; done))
                          | (skip
                             refine GQ.stepG (s := 109) rfl rfl rfl (q_pure (p_move rfl)) ?_
                             refine GQ.stepG (s := 109) rfl rfl rfl (q_pure (p_neq rfl rfl)) ?_
                             refine GQ.stepG (s := 106) rfl rfl rfl (q_pure (p_pick_true rfl rfl)) ?_
                             refine GQ.step rfl (q_pure (p_pick_false rfl rfl)) ?_
                             refine GQ.nil (?_ : GC _ _ _ _)
                             refine GC.cond rfl (fun h23 => ?_) (fun h23 => ?_)
                             · try simp only [decide_eq_true_eq, decide_eq_false_iff_not, Bool.not_eq_true', Bool.not_eq_false', Bool.not_true, Bool.not_false, Bool.not_not, ne_eq, Decidable.not_not, Int.not_lt, Int.not_le, gt_iff_lt, ge_iff_le, bool_true_eq_, bool_false_eq_] at h23
                               first
                               | (exfalso; first | omega | (simp [*, sameRes] at h23; done))
                               | (skip
                                  refine GC.seq' ?_
                                  refine GC.region ?_
                                  refine GL.pure rfl (p_assign rfl) ?_
                                  refine GL.nil (?_ : GC _ _ _ _)
                                  refine GC.ret ?_
                                  refine fun a w h => Fin.back (rs := [.tmp 2]) (vs := [_]) (is := []) (js := []) rfl ⟨rfl, trivial⟩ rfl rfl ?_ h
                                  clear h
                                  exact ⟨rfl, rfl, rfl⟩)
                             · try simp only [decide_eq_true_eq, decide_eq_false_iff_not, Bool.not_eq_true', Bool.not_eq_false', Bool.not_true, Bool.not_false, Bool.not_not, ne_eq, Decidable.not_not, Int.not_lt, Int.not_le, gt_iff_lt, ge_iff_le, bool_true_eq_, bool_false_eq_] at h23
                               first
                               | (exfalso; first | omega | (simp [*, sameRes] at h23; done))
                               | (skip
                                  refine GC.skip (?_ : GC _ _ _ _)
                                  refine GC.region ?_
                                  refine GL.pure rfl (p_move rfl) ?_
                                  refine GL.pure rfl (p_add rfl rfl (w64 (by omega) (by omega))) ?_
                                  refine GL.pure rfl (p_assign rfl) ?_
                                  refine GL.nil ?_
                                  exact fun a w h => ⟨z + 1, (by omega), (by omega), h.cut (is := [0, 0]) (js := [2, 3]) ⟨rfl, rfl, rfl, trivial⟩ rfl rfl⟩))
                        · try simp only [decide_eq_true_eq, decide_eq_false_iff_not, Bool.not_eq_true', Bool.not_eq_false', Bool.not_true, Bool.not_false, Bool.not_not, ne_eq, Decidable.not_not, Int.not_lt, Int.not_le, gt_iff_lt, ge_iff_le, bool_true_eq_, bool_false_eq_] at h22
                          first
                          | (exfalso; first | omega | (simp [*, sameRes] at h22; done))
                          | (skip
                             refine GQ.pass (s := 109) rfl rfl rfl ?_
                             refine GQ.pass (s := 109) rfl rfl rfl ?_
                             refine GQ.stepG (s := 106) rfl rfl rfl (q_pure (p_pick_false rfl rfl)) ?_
                             refine GQ.step rfl (q_pure (p_pick_false rfl rfl)) ?_
                             refine GQ.nil (?_ : GC _ _ _ _)
                             refine GC.cond_false rfl ?_
                             refine GC.skip (?_ : GC _ _ _ _)
                             refine GC.region ?_
                             refine GL.pure rfl (p_move rfl) ?_
                             refine GL.pure rfl (p_add rfl rfl (w64 (by omega) (by omega))) ?_
                             refine GL.pure rfl (p_assign rfl) ?_
                             refine GL.nil ?_
                             exact fun a w h => ⟨z + 1, (by omega), (by omega), h.cut (is := [0, 0]) (js := [2, 3]) ⟨rfl, rfl, rfl, trivial⟩ rfl rfl⟩))))
       · try simp only [decide_eq_true_eq, decide_eq_false_iff_not, Bool.not_eq_true', Bool.not_eq_false', Bool.not_true, Bool.not_false, Bool.not_not, ne_eq, Decidable.not_not, Int.not_lt, Int.not_le, gt_iff_lt, ge_iff_le, bool_true_eq_, bool_false_eq_] at h14
         first
         | (exfalso; first | omega | (simp [*, sameRes] at h14; done))
         | (skip
            refine GC.exit (?_ : GC _ _ _ _)
            refine GC.seq' ?_
            refine GC.region ?_
            refine GL.pure rfl (p_assign rfl) ?_
            refine GL.nil (?_ : GC _ _ _ _)
            refine GC.ret ?_
            refine fun a w h => Fin.back (rs := [.tmp 2]) (vs := [_]) (is := []) (js := []) rfl ⟨rfl, trivial⟩ rfl rfl ?_ h
            clear h
            exact ⟨rfl, rfl, rfl⟩))
end Go.Proofs.Ytipjpgjahmadiaa
