/- THE VOLUME OF THE REFERENCE: blocks read and written. -/
import Derived.Test.YtihhpkbbhfcdcaaVr1
set_option linter.unusedVariables false
set_option linter.unusedSimpArgs false
set_option maxRecDepth 100000
namespace Go.Proofs.Ytihhpkbbhfcdcaa
open Go Go.Sx Go.Proofs

theorem pc_app {v : Vol} (h : VolOk v) {a : Int} {j : Nat} (h0 : 0 ≤ a) (h1 : a + j + 1 ≤ v.bl) : pc v a j ++ pc v (a + j) 1 = pc v a (j + 1) := by
  have hl := h.lb'
  have hs := h.shp
  simp only [shapeOk] at hs
  obtain ⟨n, rfl⟩ := Int.eq_ofNat_of_zero_le h0
  have e1 : pc v n j = seg v.b (n * v.sz.toNat) ((n + j) * v.sz.toNat) := pc_nat (by omega) n j
  have e2 : pc v ((n : Int) + j) 1 = seg v.b ((n + j) * v.sz.toNat) ((n + j + 1) * v.sz.toNat) := by
    have := pc_nat (v := v) (by omega) (n + j) 1
    simpa using this
  have e3 : pc v n ((j : Int) + 1) = seg v.b (n * v.sz.toNat) ((n + j + 1) * v.sz.toNat) := by
    have := pc_nat (v := v) (by omega) n (j + 1)
    simpa [Nat.add_assoc] using this
  rw [e1, e2, e3]
  refine seg_app (Nat.mul_le_mul_right _ (by omega)) (Nat.mul_le_mul_right _ (by omega)) ?_
  rw [hl]
  exact Nat.mul_le_mul_right _ (by omega)
theorem pc_zero (v : Vol) (a : Int) : pc v a 0 = [] := by
  simp [pc, seg]
theorem pc_len_le {v : Vol} (h : VolOk v) {a : Int} {j : Nat} (h0 : 0 ≤ a) (h1 : a + j ≤ v.bl) : (pc v a j).length ≤ 16777216 := by
  by_cases hj : j = 0
  · subst hj; rw [show ((0 : Nat) : Int) = 0 from rfl, pc_zero]; simp
  · have := pc_length h (a := a) (n := j) h0 (by omega) h1
    have hs := h.shp
    simp only [shapeOk] at hs
    have := mulB (x := (j : Int)) (a := 4096) (y := v.sz) (b := 4096) (by omega) (by omega) (by omega) (by omega)
    omega

theorem read_ct (p pB pV c1 c2 : Nat) (sp spv cs : List Value) (v : Vol) (i0 n : Int) (hv : VolOk v) (h0 : 0 ≤ i0) (h1 : 1 ≤ n) (h2 : i0 + n ≤ v.bl) :
    Ct Try.prog 46 [.pointer (some ⟨p, 0, none⟩), .int .i64 i0, .int .i64 n] (rvG p pB pV c1 c2 sp spv cs v) [Pers.reps kBytes (chV v) cs]
      (fun u G Q => ∃ A' cp', (pc v i0 n).length ≤ cp' ∧ cp' ≤ 9223372036854775807 ∧ u = .slice A' (pc v i0 n).length cp' ∧ G = .row (.slice A' (pc v i0 n).length cp') 5 1 (pc v i0 n).length ((pc v i0 n).map u8v) :: rvG p pB pV c1 c2 sp spv cs v ∧ Q = []) := by
  have hs := hv.shp
  simp only [shapeOk] at hs
  have hch : (chV v).length = v.bl.toNat := chunks_length _ _ _
  refine Ct.intro Try.func46 rfl rfl rfl (fun c hc => ?_)
  refine GC.seq' ?_
  refine GC.region ?_
  refine GL.pure rfl (p_assign rfl) ?_
  refine GL.nil (?_ : GC _ _ _ _)
  refine GC.seq' ?_
  refine GC.region ?_
  refine GL.pure rfl (p_assign rfl) ?_
  refine GL.nil (?_ : GC _ _ _ _)
  refine GC.seq' ?_
  refine GC.seq' ?_
  refine GC.region ?_
  refine GL.nilrow 5 1 ?_
  refine GL.pure rfl (p_move rfl) ?_
  refine GL.pure rfl (p_assign rfl) ?_
  refine GL.nil (?_ : GC _ _ _ _)
  refine GC.block ?_
  refine GC.imp (fun a w h => (⟨⟨by simp; omega, by rw [show ((0 : Nat) : Int) = 0 from rfl, pc_zero]⟩, by rw [show i0 + ((0 : Nat) : Int) = i0 from Int.add_zero i0]; exact h.cut (is := [1, 1, 1, 0]) (js := [0]) ⟨rfl, rfl, rfl, rfl, rfl, trivial⟩ rfl rfl⟩ : (fun (y : Nat × List UInt8 × Option Addr × Nat) (a : Act) (w : World) => ((y.1 : Int) ≤ n ∧ y.2.1 = pc v i0 y.1) ∧ St c 27 [(0, .pointer (some ⟨p, 0, none⟩)), (1, .int .i64 i0), (2, .int .i64 n), (7, .slice y.2.2.1 y.2.1.length y.2.2.2), (8, .int .i64 (i0 + (y.1 : Int)))] [.cells p [.int .i64 v.bl, .int .i64 v.sz, .slice (some ⟨pB, 0, none⟩) v.bl.toNat c1, .slice (some ⟨pV, 0, none⟩) v.bl.toNat c2, .int .i64 v.last] 79, .cells pB (cs ++ sp) 31, .cells pV (v.vs.map (Value.int .i64) ++ spv) 3, .row (.slice y.2.2.1 y.2.1.length y.2.2.2) 5 1 y.2.1.length (y.2.1.map u8v)] [Pers.reps kBytes (chV v) cs] a w) (0, [], none, 0) a w)) (GC.loop (fun (y : Nat × List UInt8 × Option Addr × Nat) (a : Act) (w : World) => ((y.1 : Int) ≤ n ∧ y.2.1 = pc v i0 y.1) ∧ St c 27 [(0, .pointer (some ⟨p, 0, none⟩)), (1, .int .i64 i0), (2, .int .i64 n), (7, .slice y.2.2.1 y.2.1.length y.2.2.2), (8, .int .i64 (i0 + (y.1 : Int)))] [.cells p [.int .i64 v.bl, .int .i64 v.sz, .slice (some ⟨pB, 0, none⟩) v.bl.toNat c1, .slice (some ⟨pV, 0, none⟩) v.bl.toNat c2, .int .i64 v.last] 79, .cells pB (cs ++ sp) 31, .cells pV (v.vs.map (Value.int .i64) ++ spv) 3, .row (.slice y.2.2.1 y.2.1.length y.2.2.2) 5 1 y.2.1.length (y.2.1.map u8v)] [Pers.reps kBytes (chV v) cs] a w) (fun y => n.toNat - y.1) (0, [], none, 0) ?_)
  intro y
  refine GC.and fun hk => ?_
  obtain ⟨j, acc, A1, c1_⟩ := y
  dsimp only at hk ⊢
  obtain ⟨hk, rfl⟩ := hk
  refine GC.seq' ?_
  refine GC.seq' ?_
  refine GC.region ?_
  refine GL.pure rfl (p_move rfl) ?_
  refine GL.pure rfl (p_move rfl) ?_
  refine GL.pure rfl (p_move rfl) ?_
  refine GL.pure rfl (p_add rfl rfl (w64 (by omega) (by omega))) ?_
  refine GL.pure rfl (p_lss rfl rfl) ?_
  refine GL.nil (?_ : GC _ _ _ _)
  refine GC.cond rfl (fun h1 => ?_) (fun h1 => ?_)
  · try simp only [decide_eq_true_eq, decide_eq_false_iff_not, Bool.not_eq_true', Bool.not_eq_false', Bool.not_true, Bool.not_false, Bool.not_not, ne_eq, Decidable.not_not, Int.not_lt, Int.not_le, gt_iff_lt, ge_iff_le, bool_true_eq_, bool_false_eq_] at h1
    refine GC.skip (?_ : GC _ _ _ _)
    refine GC.seq' ?_
    refine GC.block ?_
    refine GC.region ?_
    refine GL.layE (j := 0) (m := i0 + (j : Int)) (sp) rfl (by omega) (gt_ok (by omega) (by omega)) (fun r_e ok_e hc_e => ?_)
    rcases r_e with ⟨A_e, c_e⟩
    have hlen := pc_len_le hv h0 (show i0 + (j : Int) ≤ v.bl by omega)
    have hg := chV_gt hv (show 0 ≤ i0 + (j : Int) by omega) (by omega)
    have hl1 := pc_length hv (a := i0 + (j : Int)) (n := 1) (by omega) (by omega) (by omega)
    rw [hg] at ok_e hc_e ⊢
    refine GL.pure rfl (p_move rfl) ?_
    refine GL.pure rfl (p_move rfl) ?_
    refine GL.pure rfl (p_nilCheck rfl) ?_
    refine GL.pure rfl (p_fieldAddr fo_79_1 rfl) ?_
    refine GL.step rfl (t_mem rfl (m_load (i := 0) rfl rfl ag_77 rfl)) ?_
    refine GL.pure rfl (p_move rfl) ?_
    refine GL.pure rfl (p_indexB rfl rfl Try.underlying77 sz_31 (by omega) (by omega)) ?_
    refine GL.step rfl (t_mem rfl (m_load (i := 1) rfl rfl ag_31 (hc_e 0 _ rfl))) ?_
    refine GL.step rfl (t_appendS (i := 3) (k := 0) rfl el_31 rfl rfl rfl rfl (by omega) (fun _ => rfl)) (GL.ex fun v25 => ?_)
    refine GL.shape (i := 3) rfl (fun A_v25 c_v25 e_v25 l_v25 k_v25 => ?_)
    subst e_v25
    refine GL.pure rfl (p_assign rfl) ?_
    refine GL.nil (?_ : GC _ _ _ _)
    refine GC.region ?_
    refine GL.pure rfl (p_move rfl) ?_
    refine GL.pure rfl (p_add rfl rfl (w64 (by omega) (by omega))) ?_
    refine GL.pure rfl (p_assign rfl) ?_
    refine GL.nil ?_
    exact fun a w h => ⟨(j + 1, pc v i0 j ++ pc v (i0 + (j : Int)) 1, A_v25, c_v25), (by simp only; omega), ⟨by simp only; omega, by simp only; rw [pc_app hv h0 (by omega)]; rfl⟩, by rw [List.length_append, List.map_append, show i0 + ((j + 1 : Nat) : Int) = i0 + (j : Int) + 1 by omega]; exact h.cut (is := [0, 0, 0, 0]) (js := [1]) ⟨rfl, rfl, rfl, rfl, rfl, trivial⟩ rfl rfl⟩
  · try simp only [decide_eq_true_eq, decide_eq_false_iff_not, Bool.not_eq_true', Bool.not_eq_false', Bool.not_true, Bool.not_false, Bool.not_not, ne_eq, Decidable.not_not, Int.not_lt, Int.not_le, gt_iff_lt, ge_iff_le, bool_true_eq_, bool_false_eq_] at h1
    refine GC.exit (?_ : GC _ _ _ _)
    refine GC.seq' ?_
    refine GC.region ?_
    refine GL.pure rfl (p_move rfl) ?_
    refine GL.pure rfl (p_assign rfl) ?_
    refine GL.nil (?_ : GC _ _ _ _)
    obtain rfl : n = (j : Int) := by omega
    refine GC.shape (i := 3) rfl (fun A2 c2_ e2 l2 k2 => ?_)
    refine GC.ret ?_
    refine fun a w h => Fin.back (rs := [.tmp 6]) (vs := [_]) (is := [3, 0, 0, 0]) (js := []) rfl ⟨rfl, trivial⟩ rfl rfl ?_ h
    clear h
    cases e2
    exact ⟨_, _, l2, k2, rfl, rfl, rfl⟩
end Go.Proofs.Ytihhpkbbhfcdcaa
