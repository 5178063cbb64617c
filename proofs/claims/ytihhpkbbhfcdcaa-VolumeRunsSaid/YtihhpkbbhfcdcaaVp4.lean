/- THE VOLUME OF THE REFERENCE: pages laid; volumes of pages, both. -/
import Derived.Test.YtihhpkbbhfcdcaaVp3
set_option linter.unusedVariables false
set_option linter.unusedSimpArgs false
set_option maxRecDepth 100000
namespace Go.Proofs.Ytihhpkbbhfcdcaa
open Go Go.Sx Go.Proofs
theorem rpatch_ct (p pB pV c1 c2 : Nat) (sp spv cs : List Value) (v : Vol) (A : Option Addr) (l : List Page) (cp : Nat) (hv : VolOk v) (hl : l.length ≤ 140737488355328) (hd : ∀ x ∈ l, x.data.length ≤ 140737488355328) : Ct Try.prog 32 [.pointer (some ⟨p, 0, none⟩), .slice A l.length cp] (rvG p pB pV c1 c2 sp spv cs v) [Pers.reps kBytes (chV v) cs, Pers.row kPage A l]
    (fun u G Q => ∃ cs', u = .int .i64 (patchF v l).1 ∧ G = rvG p pB pV c1 c2 sp spv cs' (patchF v l).2 ∧ Q = [Pers.reps kBytes (chV (patchF v l).2) cs']) := by
  refine Ct.intro Try.func32 rfl rfl rfl (fun c hc => ?_)
  refine GC.seq' ?_
  refine GC.region ?_
  refine GL.pure rfl (p_assign rfl) ?_
  refine GL.nil (?_ : GC _ _ _ _)
  refine GC.seq' ?_
  refine GC.seq' ?_
  refine GC.region ?_
  refine GL.pure rfl (p_move rfl) ?_
  refine GL.pure rfl (p_nilCheck rfl) ?_
  refine GL.pure rfl (p_fieldAddr fo_79_0 rfl) ?_
  refine GL.step rfl (t_mem rfl (m_loadN (i := 0) rfl rfl ag_23 (vs := [_, _]) sz_23 ⟨rfl, rfl, trivial⟩)) ?_
  refine GL.pure rfl (p_move rfl) ?_
  refine GL.step rfl (t_call rfl fn_43 rfl (is := []) (js := [1]) rfl rfl (by exact rlaid_ct v.bl v.sz _ _ _ hl hd)) (GL.ret ?_)
  rintro _ _ _ ⟨rfl, rfl, rfl⟩
  refine GL.pure rfl (p_not rfl) ?_
  refine GL.nil (?_ : GC _ _ _ _)
  refine GC.cond rfl (fun h1 => ?_) (fun h1 => ?_)
  · try simp only [decide_eq_true_eq, decide_eq_false_iff_not, Bool.not_eq_true', Bool.not_eq_false', Bool.not_true, Bool.not_false, Bool.not_not, ne_eq, Decidable.not_not, Int.not_lt, Int.not_le, gt_iff_lt, ge_iff_le, bool_true_eq_, bool_false_eq_] at h1
    refine GC.seq' ?_
    refine GC.region ?_
    refine GL.pure rfl (p_assign rfl) ?_
    refine GL.nil (?_ : GC _ _ _ _)
    refine GC.ret ?_
    refine fun a w h => Fin.back (rs := [.tmp 4]) (vs := [_]) (is := [0, 0, 0]) (js := [0]) rfl ⟨rfl, trivial⟩ rfl rfl ?_ h
    clear h
    have e : patchF v l = (50, v) := by simp [patchF, h1]
    rw [e]; exact ⟨_, rfl, rfl, rfl⟩
  · try simp only [decide_eq_true_eq, decide_eq_false_iff_not, Bool.not_eq_true', Bool.not_eq_false', Bool.not_true, Bool.not_false, Bool.not_not, ne_eq, Decidable.not_not, Int.not_lt, Int.not_le, gt_iff_lt, ge_iff_le, bool_true_eq_, bool_false_eq_] at h1
    refine GC.skip (?_ : GC _ _ _ _)
    refine GC.seq' ?_
    refine GC.seq' ?_
    refine GC.region ?_
    have hall := laidF_all h1 (by omega)
    refine GL.pure rfl (p_assign rfl) ?_
    refine GL.nil (?_ : GC _ _ _ _)
    refine GC.block ?_
    refine GC.imp (fun a w h => (⟨⟨by simp, rfl, hv, rfl, rfl⟩, h.cut (is := [0, 0, 0]) (js := [0, 1]) ⟨rfl, rfl, rfl, trivial⟩ rfl rfl⟩ : (fun (y : Nat × Vol × List Value) (a : Act) (w : World) => (y.1 ≤ l.length ∧ putF v l = putF y.2.1 (l.drop y.1) ∧ VolOk y.2.1 ∧ y.2.1.bl = v.bl ∧ y.2.1.sz = v.sz) ∧ St c 49 [(0, .pointer (some ⟨p, 0, none⟩)), (1, .slice A l.length cp), (5, .int .i64 (y.1 : Int))] [.cells p [.int .i64 y.2.1.bl, .int .i64 y.2.1.sz, .slice (some ⟨pB, 0, none⟩) y.2.1.bl.toNat c1, .slice (some ⟨pV, 0, none⟩) y.2.1.bl.toNat c2, .int .i64 y.2.1.last] 79, .cells pB (y.2.2 ++ sp) 31, .cells pV (y.2.1.vs.map (Value.int .i64) ++ spv) 3] [Pers.reps kBytes (chV y.2.1) y.2.2, Pers.row kPage A l] a w) (0, v, cs) a w)) (GC.loop (fun (y : Nat × Vol × List Value) (a : Act) (w : World) => (y.1 ≤ l.length ∧ putF v l = putF y.2.1 (l.drop y.1) ∧ VolOk y.2.1 ∧ y.2.1.bl = v.bl ∧ y.2.1.sz = v.sz) ∧ St c 49 [(0, .pointer (some ⟨p, 0, none⟩)), (1, .slice A l.length cp), (5, .int .i64 (y.1 : Int))] [.cells p [.int .i64 y.2.1.bl, .int .i64 y.2.1.sz, .slice (some ⟨pB, 0, none⟩) y.2.1.bl.toNat c1, .slice (some ⟨pV, 0, none⟩) y.2.1.bl.toNat c2, .int .i64 y.2.1.last] 79, .cells pB (y.2.2 ++ sp) 31, .cells pV (y.2.1.vs.map (Value.int .i64) ++ spv) 3] [Pers.reps kBytes (chV y.2.1) y.2.2, Pers.row kPage A l] a w) (fun y => l.length - y.1) (0, v, cs) ?_)
    intro y
    refine GC.and fun hk => ?_
    obtain ⟨k, u, cs⟩ := y
    dsimp only at hk ⊢
    obtain ⟨hk, hput, hu, hbl, hsz⟩ := hk
    refine GC.seq' ?_
    refine GC.seq' ?_
    refine GC.region ?_
    refine GL.pure rfl (p_move rfl) ?_
    refine GL.pure rfl (p_move rfl) ?_
    refine GL.pure rfl (p_len Try.underlying33 rfl) ?_
    refine GL.pure rfl (p_lss rfl rfl) ?_
    refine GL.nil (?_ : GC _ _ _ _)
    refine GC.cond rfl (fun h2 => ?_) (fun h2 => ?_)
    · try simp only [decide_eq_true_eq, decide_eq_false_iff_not, Bool.not_eq_true', Bool.not_eq_false', Bool.not_true, Bool.not_false, Bool.not_not, ne_eq, Decidable.not_not, Int.not_lt, Int.not_le, gt_iff_lt, ge_iff_le, bool_true_eq_, bool_false_eq_] at h2
      refine GC.skip (?_ : GC _ _ _ _)
      refine GC.seq' ?_
      refine GC.block ?_
      refine GC.seq' ?_
      have hp := hall _ (gt_mem (l := l) (k := k) (by omega))
      rw [← hbl, ← hsz] at hp
      have hp2 := hp
      obtain ⟨q0, q1, q2, q3, q4⟩ := hp
      have hsh := hu.shp
      simp only [shapeOk] at hsh
      refine GC.lay (x := .tmp 1) (y := .tmp 5) (j := 1) rfl rfl rfl (by omega) (gt_ok (by omega) (by omega)) (fun p_x22 r_x22 hA_x22 ok_x22 => ?_)
      rcases r_x22 with ⟨_, ⟨_, ⟨Ax22_0, cpx22_0⟩⟩⟩
      refine GC.lay (x := .tmp 1) (y := .tmp 5) (j := 3) rfl rfl rfl (by omega) (gt_ok (by omega) (by omega)) (fun p_x27 r_x27 hA_x27 ok_x27 => ?_)
      rcases r_x27 with ⟨_, ⟨_, ⟨Ax27_0, cpx27_0⟩⟩⟩
      refine GC.lay (x := .tmp 1) (y := .tmp 5) (j := 5) rfl rfl rfl (by omega) (gt_ok (by omega) (by omega)) (fun p_x32 r_x32 hA_x32 ok_x32 => ?_)
      rcases r_x32 with ⟨_, ⟨_, ⟨Ax32_0, cpx32_0⟩⟩⟩
      refine GC.regionM (m := 17) (M := fun a w => ∃ cs16 : List Value, St c 49 [(0, .pointer (some ⟨p, 0, none⟩)), (1, .slice A l.length cp), (5, .int .i64 (k : Int))] [.cells p [.int .i64 u.bl, .int .i64 u.sz, .slice (some ⟨pB, 0, none⟩) u.bl.toNat c1, .slice (some ⟨pV, 0, none⟩) u.bl.toNat c2, .int .i64 u.last] 79, .cells pB (cs16 ++ sp) 31, .cells pV ((laid u.vs (gt l (k : Int)).at_.toNat [(gt l (k : Int)).ver]).map (Value.int .i64) ++ spv) 3] [Pers.reps kBytes (chunks (laid u.b ((gt l (k : Int)).at_ * u.sz).toNat (gt l (k : Int)).data) u.sz.toNat u.bl.toNat) cs16, Pers.row kPage A l] a w) (is := []) (js := [0, 1, 2, 3, 4, 5, 6, 7]) wide_ rfl rfl rfl ?_ ?_
      · refine GA.take 0 rfl (by kernel_rfl) (by kernel_rfl) (by kernel_rfl) rfl (fun a w h => h.mem (is := []) (js := [0, 1, 2, 3, 4, 5, 6, 7]) rfl rfl) (i_pure (p_move rfl)) ?_
        refine GA.take 1 rfl (by kernel_rfl) (by kernel_rfl) (by kernel_rfl) rfl (fun a w h => h.mem (is := []) (js := [0, 1, 2, 3, 4, 5, 6, 7]) rfl rfl) (i_pure (p_move rfl)) ?_
        refine GA.take 2 rfl (by kernel_rfl) (by kernel_rfl) (by kernel_rfl) rfl (fun a w h => h.mem (is := []) (js := [0, 1, 2, 3, 4, 5, 6, 7]) rfl rfl) (i_pure (p_move rfl)) ?_
        refine GA.take 3 rfl (by kernel_rfl) (by kernel_rfl) (by kernel_rfl) rfl (fun a w h => h.mem (is := []) (js := [0, 1, 2, 3, 4, 5, 6, 7]) rfl rfl) (i_pure (p_indexL hA_x22 rfl rfl Try.underlying33 sz_71 (by omega) (by omega))) ?_
        refine GA.take 4 rfl (by kernel_rfl) (by kernel_rfl) (by kernel_rfl) rfl (fun a w h => h.mem (is := []) (js := [0, 1, 2, 3, 4, 5, 6, 7]) rfl rfl) (i_pure (p_fieldAddr' fo_71_0 rfl)) ?_
        refine GA.take 5 rfl (by kernel_rfl) (by kernel_rfl) (by kernel_rfl) rfl (fun a w h => h.mem (is := []) (js := [0, 1, 2, 3, 4, 5, 6, 7]) rfl rfl) (i_mem (m_loadP (i := 4) rfl rfl ag_3 rfl)) ?_
        refine GA.take 6 rfl (by kernel_rfl) (by kernel_rfl) (by kernel_rfl) rfl (fun a w h => h.mem (is := []) (js := [0, 1, 2, 3, 4, 5, 6, 7]) rfl rfl) (i_pure (p_move rfl)) ?_
        refine GA.take 7 rfl (by kernel_rfl) (by kernel_rfl) (by kernel_rfl) rfl (fun a w h => h.mem (is := []) (js := [0, 1, 2, 3, 4, 5, 6, 7]) rfl rfl) (i_pure (p_move rfl)) ?_
        refine GA.take 8 rfl (by kernel_rfl) (by kernel_rfl) (by kernel_rfl) rfl (fun a w h => h.mem (is := []) (js := [0, 1, 2, 3, 4, 5, 6, 7]) rfl rfl) (i_pure (p_indexL hA_x27 rfl rfl Try.underlying33 sz_71 (by omega) (by omega))) ?_
        refine GA.take 9 rfl (by kernel_rfl) (by kernel_rfl) (by kernel_rfl) rfl (fun a w h => h.mem (is := []) (js := [0, 1, 2, 3, 4, 5, 6, 7]) rfl rfl) (i_pure (p_fieldAddr' fo_71_2 rfl)) ?_
        refine GA.take 10 rfl (by kernel_rfl) (by kernel_rfl) (by kernel_rfl) rfl (fun a w h => h.mem (is := []) (js := [0, 1, 2, 3, 4, 5, 6, 7]) rfl rfl) (i_mem (m_loadP (i := 2) rfl rfl ag_31 rfl)) ?_
        refine GA.take 11 rfl (by kernel_rfl) (by kernel_rfl) (by kernel_rfl) rfl (fun a w h => h.mem (is := []) (js := [0, 1, 2, 3, 4, 5, 6, 7]) rfl rfl) (i_pure (p_move rfl)) ?_
        refine GA.take 12 rfl (by kernel_rfl) (by kernel_rfl) (by kernel_rfl) rfl (fun a w h => h.mem (is := []) (js := [0, 1, 2, 3, 4, 5, 6, 7]) rfl rfl) (i_pure (p_move rfl)) ?_
        refine GA.take 13 rfl (by kernel_rfl) (by kernel_rfl) (by kernel_rfl) rfl (fun a w h => h.mem (is := []) (js := [0, 1, 2, 3, 4, 5, 6, 7]) rfl rfl) (i_pure (p_indexL hA_x32 rfl rfl Try.underlying33 sz_71 (by omega) (by omega))) ?_
        refine GA.take 14 rfl (by kernel_rfl) (by kernel_rfl) (by kernel_rfl) rfl (fun a w h => h.mem (is := []) (js := [0, 1, 2, 3, 4, 5, 6, 7]) rfl rfl) (i_pure (p_fieldAddr' fo_71_1 rfl)) ?_
        refine GA.take 15 rfl (by kernel_rfl) (by kernel_rfl) (by kernel_rfl) rfl (fun a w h => h.mem (is := []) (js := [0, 1, 2, 3, 4, 5, 6, 7]) rfl rfl) (i_mem (m_loadP (i := 0) rfl rfl ag_3 rfl)) ?_
        refine GA.all (rs := [16]) (by kernel_rfl) (by simp) ?_
        refine GAs.cons (i := 16) rfl rfl (t_call rfl fn_44 rfl (is := [0, 0, 0]) (js := [6, 3]) rfl rfl (by exact write_ct _ _ _ _ _ _ _ _ u (gt l (k : Int)).at_ (gt l (k : Int)).ver _ (gt l (k : Int)).data _ 1 hu q0 (by omega) (by omega) ok_x27.2.2.1 (by omega))) (by rintro a w ⟨_, _, _, ⟨cs35, rfl, rfl, rfl⟩, h⟩; exact h.mem (is := []) (js := [1, 2, 3, 4, 5, 6, 7, 8]) rfl rfl) (GA.ret ?_) ?_
        · rintro _ _ _ ⟨cs35, rfl, rfl, rfl⟩
          exact GA.done (by kernel_rfl) (fun a w h => ⟨cs35, h.cut (is := [0, 0, 0]) (js := [0, 8]) ⟨rfl, rfl, rfl, trivial⟩ rfl rfl⟩)
        exact GAs.nil
      · refine (?_ : GC _ _ _ _)
        refine GC.ex fun cs16 => ?_
        refine GC.lay (x := .tmp 1) (y := .tmp 5) (j := 1) rfl rfl rfl (by omega) (gt_ok (by omega) (by omega)) (fun p_x43 r_x43 hA_x43 ok_x43 => ?_)
        rcases r_x43 with ⟨_, ⟨_, ⟨Ax43_0, cpx43_0⟩⟩⟩
        refine GC.regionM (m := 14) (M := fun a w => St c 49 [(0, .pointer (some ⟨p, 0, none⟩)), (1, .slice A l.length cp), (5, .int .i64 (k : Int))] [.cells p [.int .i64 u.bl, .int .i64 u.sz, .slice (some ⟨pB, 0, none⟩) u.bl.toNat c1, .slice (some ⟨pV, 0, none⟩) u.bl.toNat c2, .int .i64 (max u.last (gt l (k : Int)).ver)] 79, .cells pB (cs16 ++ sp) 31, .cells pV ((laid u.vs (gt l (k : Int)).at_.toNat [(gt l (k : Int)).ver]).map (Value.int .i64) ++ spv) 3] [Pers.reps kBytes (chunks (laid u.b ((gt l (k : Int)).at_ * u.sz).toNat (gt l (k : Int)).data) u.sz.toNat u.bl.toNat) cs16, Pers.row kPage A l] a w) (is := [1, 1]) (js := [0, 1, 2, 3]) wide_ rfl rfl rfl ?_ ?_
        · refine GA.take 0 rfl (by kernel_rfl) (by kernel_rfl) (by kernel_rfl) rfl (fun a w h => h.mem (is := [1, 1]) (js := [0, 1, 2, 3]) rfl rfl) (i_pure (p_move rfl)) ?_
          refine GA.take 1 rfl (by kernel_rfl) (by kernel_rfl) (by kernel_rfl) rfl (fun a w h => h.mem (is := [1, 1]) (js := [0, 1, 2, 3]) rfl rfl) (i_pure (p_move rfl)) ?_
          refine GA.take 2 rfl (by kernel_rfl) (by kernel_rfl) (by kernel_rfl) rfl (fun a w h => h.mem (is := [1, 1]) (js := [0, 1, 2, 3]) rfl rfl) (i_pure (p_nilCheck rfl)) ?_
          refine GA.take 3 rfl (by kernel_rfl) (by kernel_rfl) (by kernel_rfl) rfl (fun a w h => h.mem (is := [1, 1]) (js := [0, 1, 2, 3]) rfl rfl) (i_pure (p_fieldAddr fo_79_3 rfl)) ?_
          refine GA.take 5 rfl (by kernel_rfl) (by kernel_rfl) (by kernel_rfl) rfl (fun a w h => h.mem (is := [1, 1]) (js := [0, 1, 2, 3]) rfl rfl) (i_pure (p_move rfl)) ?_
          refine GA.take 6 rfl (by kernel_rfl) (by kernel_rfl) (by kernel_rfl) rfl (fun a w h => h.mem (is := [1, 1]) (js := [0, 1, 2, 3]) rfl rfl) (i_pure (p_move rfl)) ?_
          refine GA.take 7 rfl (by kernel_rfl) (by kernel_rfl) (by kernel_rfl) rfl (fun a w h => h.mem (is := [1, 1]) (js := [0, 1, 2, 3]) rfl rfl) (i_pure (p_indexL hA_x43 rfl rfl Try.underlying33 sz_71 (by omega) (by omega))) ?_
          refine GA.take 8 rfl (by kernel_rfl) (by kernel_rfl) (by kernel_rfl) rfl (fun a w h => h.mem (is := [1, 1]) (js := [0, 1, 2, 3]) rfl rfl) (i_pure (p_fieldAddr' fo_71_1 rfl)) ?_
          refine GA.take 9 rfl (by kernel_rfl) (by kernel_rfl) (by kernel_rfl) rfl (fun a w h => h.mem (is := [1, 1]) (js := [0, 1, 2, 3]) rfl rfl) (i_mem (m_loadP (i := 0) rfl rfl ag_3 rfl)) ?_
          refine GA.all (rs := [4]) (by kernel_rfl) (by simp) ?_
          refine GAs.cons (i := 4) rfl rfl (t_mem rfl (m_load (i := 0) rfl rfl ag_3 rfl)) (by rintro a w h; exact h.mem (is := [1, 1]) (js := [0, 1, 2, 3]) rfl rfl) ?_ ?_
          · refine GA.take 10 rfl (by kernel_rfl) (by kernel_rfl) (by kernel_rfl) rfl (fun a w h => h.mem (is := [1, 1]) (js := [0, 1, 2, 3]) rfl rfl) (i_pure (p_max2 rfl rfl)) ?_
            refine GA.take 11 rfl (by kernel_rfl) (by kernel_rfl) (by kernel_rfl) rfl (fun a w h => h.mem (is := [1, 1]) (js := [0, 1, 2, 3]) rfl rfl) (i_pure (p_nilCheck rfl)) ?_
            refine GA.take 12 rfl (by kernel_rfl) (by kernel_rfl) (by kernel_rfl) rfl (fun a w h => h.mem (is := [1, 1]) (js := [0, 1, 2, 3]) rfl rfl) (i_pure (p_fieldAddr fo_79_3 rfl)) ?_
            refine GA.all (rs := [13]) (by kernel_rfl) (by simp) ?_
            refine GAs.cons (i := 13) rfl rfl (t_store (i := 0) rfl rfl rfl rfl sz_3 rfl rfl rfl) (by rintro a w h; exact h.mem (is := [1, 1]) (js := [0, 1, 2, 3]) rfl rfl) ?_ ?_
            · exact GA.done (by kernel_rfl) (fun a w h => h.cut (is := [0, 0, 0]) (js := [2, 3]) ⟨rfl, rfl, rfl, trivial⟩ rfl rfl)
            exact GAs.nil
          exact GAs.nil
        · refine (?_ : GC _ _ _ _)
          refine GC.region ?_
          refine GL.pure rfl (p_move rfl) ?_
          refine GL.pure rfl (p_add rfl rfl (w64 (by omega) (by omega))) ?_
          refine GL.pure rfl (p_assign rfl) ?_
          refine GL.nil ?_
          exact fun a w h => ⟨(k + 1, put1 u (gt l (k : Int)), cs16), (by simp only; omega), ⟨by simp only; omega, putF_step (by omega) hput, put1_ok hu hp2, hbl, hsz⟩, h.cut (is := [0, 0, 0]) (js := [0, 1]) ⟨rfl, rfl, rfl, trivial⟩ rfl rfl⟩
    · try simp only [decide_eq_true_eq, decide_eq_false_iff_not, Bool.not_eq_true', Bool.not_eq_false', Bool.not_true, Bool.not_false, Bool.not_not, ne_eq, Decidable.not_not, Int.not_lt, Int.not_le, gt_iff_lt, ge_iff_le, bool_true_eq_, bool_false_eq_] at h2
      refine GC.exit (?_ : GC _ _ _ _)
      refine GC.seq' ?_
      refine GC.region ?_
      refine GL.pure rfl (p_assign rfl) ?_
      refine GL.nil (?_ : GC _ _ _ _)
      refine GC.ret ?_
      refine fun a w h => Fin.back (rs := [.tmp 4]) (vs := [_]) (is := [0, 0, 0]) (js := [0]) rfl ⟨rfl, trivial⟩ rfl rfl ?_ h
      clear h
      have e : patchF v l = (0, u) := by rw [List.drop_of_length_le (by omega)] at hput; simp only [patchF, h1, if_true]; rw [hput]; rfl
      rw [e]; exact ⟨_, rfl, rfl, rfl⟩
end Go.Proofs.Ytihhpkbbhfcdcaa
