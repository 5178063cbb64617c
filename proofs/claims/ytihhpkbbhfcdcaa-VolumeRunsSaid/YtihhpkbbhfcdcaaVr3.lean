/- THE VOLUME OF THE REFERENCE: blocks written. -/
import Derived.Test.YtihhpkbbhfcdcaaVr2
set_option linter.unusedVariables false
set_option linter.unusedSimpArgs false
set_option maxRecDepth 100000
namespace Go.Proofs.Ytihhpkbbhfcdcaa
open Go Go.Sx Go.Proofs

theorem nat_mul {x y : Int} (h0 : 0 ≤ x) (h1 : 0 ≤ y) : (x * y).toNat = x.toNat * y.toNat := by
  obtain ⟨n, rfl⟩ := Int.eq_ofNat_of_zero_le h0
  obtain ⟨m, rfl⟩ := Int.eq_ofNat_of_zero_le h1
  rfl
theorem wr_step {b data : List UInt8} {s N F j n : Nat} (hb : b.length = N * s) (hd : data.length = n * s) (hj : j < n) (hF : F + n ≤ N) :
    chunks (laid b (F * s) (data.take ((j + 1) * s))) s N = (chunks (laid b (F * s) (data.take (j * s))) s N).set (F + j) (seg (data.drop (j * s)) 0 s) := by
  have e1 : (j + 1) * s = j * s + s := by rw [Nat.add_mul, Nat.one_mul]
  have e2 : (j + 1) * s ≤ n * s := Nat.mul_le_mul_right _ hj
  have e3 : (F + n) * s ≤ N * s := Nat.mul_le_mul_right _ hF
  have e4 : (F + n) * s = F * s + n * s := Nat.add_mul _ _ _
  have e5 : (F + j) * s = F * s + j * s := Nat.add_mul _ _ _
  have ht : (data.take (j * s)).length = j * s := by simp; omega
  have hseg : (seg (data.drop (j * s)) 0 s).length = s := by rw [seg_length (by simp; omega)]; omega
  rw [← chunks_set (by rw [laid_length (by rw [ht]; omega)]; exact hb) hseg (by omega), e5]
  conv => rhs; rw [← ht]
  rw [ht, show F * s + j * s = F * s + (data.take (j * s)).length by rw [ht], laid_laid (by rw [ht, hseg]; omega)]
  congr 2
  rw [e1, List.take_add]
  simp [seg]
theorem pickle {data : List UInt8} {s : Nat} {j : Nat} (h : (j + 1) * s ≤ data.length) : seg (data.drop (j * s)) s (data.drop (j * s)).length = data.drop ((j + 1) * s) := by
  unfold seg
  rw [List.take_of_length_le (Nat.le_refl _), List.drop_drop, Nat.add_mul, Nat.one_mul]

theorem write_ct (p pB pV c1 c2 : Nat) (sp spv cs : List Value) (v : Vol) (i0 num : Int) (A : Option Addr) (data : List UInt8) (cp n : Nat) (hv : VolOk v) (h0 : 0 ≤ i0) (h2 : i0 + n ≤ v.bl) (hd : data.length = n * v.sz.toNat) (hcp : data.length ≤ cp) (hn : n ≤ 4096) :
    Ct Try.prog 44 [.pointer (some ⟨p, 0, none⟩), .int .i64 i0, .slice A data.length cp, .int .i64 num] (rvG p pB pV c1 c2 sp spv cs v) [Pers.reps kBytes (chV v) cs, Pers.row Kd.u8 A data]
      (fun u G Q => ∃ cs', u = .tuple #[] ∧ G = rvG p pB pV c1 c2 sp spv cs' { v with b := laid v.b (i0 * v.sz).toNat data, vs := laid v.vs i0.toNat (List.replicate n num) } ∧ Q = [Pers.reps kBytes (chV { v with b := laid v.b (i0 * v.sz).toNat data, vs := laid v.vs i0.toNat (List.replicate n num) }) cs']) := by
  have hs := hv.shp
  simp only [shapeOk] at hs
  have hF : (i0 * v.sz).toNat = i0.toNat * v.sz.toNat := nat_mul h0 (by omega)
  have hlb := hv.lb'
  have hlv := hv.lv
  rw [hF]
  refine Ct.intro Try.func44 rfl rfl rfl (fun c hc => ?_)
  refine GC.block ?_
  refine GC.imp (fun a w h => (⟨⟨by simp, by simp, hcp⟩, by rw [Nat.zero_mul, List.take_zero, laid_nil, List.replicate_zero, laid_nil, show i0 + ((0 : Nat) : Int) = i0 from Int.add_zero i0]; exact h.cut (is := [0, 0, 0]) (js := [0, 1]) ⟨rfl, rfl, rfl, rfl, trivial⟩ rfl rfl⟩ : (fun (y : Nat × List UInt8 × Option Addr × Nat × List Value) (a : Act) (w : World) => (y.1 ≤ n ∧ y.2.1 = data.drop (y.1 * v.sz.toNat) ∧ y.2.1.length ≤ y.2.2.2.1) ∧ St c 42 [(0, .pointer (some ⟨p, 0, none⟩)), (1, .int .i64 (i0 + (y.1 : Int))), (2, .slice y.2.2.1 y.2.1.length y.2.2.2.1), (3, .int .i64 num)] [.cells p [.int .i64 v.bl, .int .i64 v.sz, .slice (some ⟨pB, 0, none⟩) v.bl.toNat c1, .slice (some ⟨pV, 0, none⟩) v.bl.toNat c2, .int .i64 v.last] 79, .cells pB (y.2.2.2.2 ++ sp) 31, .cells pV ((laid v.vs i0.toNat (List.replicate y.1 num)).map (Value.int .i64) ++ spv) 3] [Pers.reps kBytes (chunks (laid v.b (i0.toNat * v.sz.toNat) (data.take (y.1 * v.sz.toNat))) v.sz.toNat v.bl.toNat) y.2.2.2.2, Pers.row Kd.u8 y.2.2.1 y.2.1] a w) (0, data, A, cp, cs) a w)) (GC.loop (fun (y : Nat × List UInt8 × Option Addr × Nat × List Value) (a : Act) (w : World) => (y.1 ≤ n ∧ y.2.1 = data.drop (y.1 * v.sz.toNat) ∧ y.2.1.length ≤ y.2.2.2.1) ∧ St c 42 [(0, .pointer (some ⟨p, 0, none⟩)), (1, .int .i64 (i0 + (y.1 : Int))), (2, .slice y.2.2.1 y.2.1.length y.2.2.2.1), (3, .int .i64 num)] [.cells p [.int .i64 v.bl, .int .i64 v.sz, .slice (some ⟨pB, 0, none⟩) v.bl.toNat c1, .slice (some ⟨pV, 0, none⟩) v.bl.toNat c2, .int .i64 v.last] 79, .cells pB (y.2.2.2.2 ++ sp) 31, .cells pV ((laid v.vs i0.toNat (List.replicate y.1 num)).map (Value.int .i64) ++ spv) 3] [Pers.reps kBytes (chunks (laid v.b (i0.toNat * v.sz.toNat) (data.take (y.1 * v.sz.toNat))) v.sz.toNat v.bl.toNat) y.2.2.2.2, Pers.row Kd.u8 y.2.2.1 y.2.1] a w) (fun y => n - y.1) (0, data, A, cp, cs) ?_)
  intro y
  refine GC.and fun hk => ?_
  obtain ⟨j, rem, Ar, cpr, cs⟩ := y
  dsimp only at hk ⊢
  obtain ⟨hk, hrem, hcap⟩ := hk
  have hrl : rem.length = n * v.sz.toNat - j * v.sz.toNat := by rw [hrem, List.length_drop, hd]
  refine GC.repsLen (j := 0) rfl (fun hcs => ?_)
  rw [chunks_length] at hcs
  have hcs1 : cs.length = v.bl.toNat := hcs.trans (Nat.mul_one _)
  refine GC.seq' ?_
  refine GC.seq' ?_
  refine GC.region ?_
  refine GL.pure rfl (p_move rfl) ?_
  refine GL.pure rfl (p_len Try.underlying31 rfl) ?_
  refine GL.pure rfl (p_gtr rfl rfl) ?_
  refine GL.nil (?_ : GC _ _ _ _)
  refine GC.cond rfl (fun h1 => ?_) (fun h1 => ?_)
  · try simp only [decide_eq_true_eq, decide_eq_false_iff_not, Bool.not_eq_true', Bool.not_eq_false', Bool.not_true, Bool.not_false, Bool.not_not, ne_eq, Decidable.not_not, Int.not_lt, Int.not_le, gt_iff_lt, ge_iff_le, bool_true_eq_, bool_false_eq_] at h1
    refine GC.skip (?_ : GC _ _ _ _)
    refine GC.block ?_
    refine GC.seq' ?_
    have hj : j < n := by
      rcases Nat.lt_or_ge j n with g | g
      · exact g
      · exfalso
        have : n * v.sz.toNat ≤ j * v.sz.toNat := Nat.mul_le_mul_right _ g
        omega
    have g1 : (j + 1) * v.sz.toNat ≤ n * v.sz.toNat := Nat.mul_le_mul_right _ hj
    have g2 : (j + 1) * v.sz.toNat = j * v.sz.toNat + v.sz.toNat := by rw [Nat.add_mul, Nat.one_mul]
    have g3 : (seg rem 0 v.sz.toNat).length = v.sz.toNat - 0 := seg_length (by omega)
    refine GC.regionM (m := 16) (M := fun a w => ∃ A24 : Option Addr, ∃ c24 : Nat, ((seg rem 0 v.sz.toNat).length ≤ c24 ∧ c24 ≤ 9223372036854775807) ∧ St c 42 [(0, .pointer (some ⟨p, 0, none⟩)), (1, .int .i64 (i0 + (j : Int))), (2, .slice Ar rem.length cpr), (3, .int .i64 num)] [.cells p [.int .i64 v.bl, .int .i64 v.sz, .slice (some ⟨pB, 0, none⟩) v.bl.toNat c1, .slice (some ⟨pV, 0, none⟩) v.bl.toNat c2, .int .i64 v.last] 79, .cells pB (laid cs ((i0 + (j : Int)).toNat * 1) [.slice A24 (seg rem 0 v.sz.toNat).length c24] ++ sp) 31, .cells pV ((laid v.vs i0.toNat (List.replicate j num)).map (Value.int .i64) ++ spv) 3] [Pers.row Kd.u8 A24 (seg rem 0 v.sz.toNat), Pers.reps kBytes (chunks (laid v.b (i0.toNat * v.sz.toNat) (data.take (j * v.sz.toNat))) v.sz.toNat v.bl.toNat) cs, Pers.row Kd.u8 Ar rem] a w) (is := [0, 1]) (js := [0, 1]) wide_ rfl rfl rfl ?_ ?_
    · refine GA.take 0 rfl (by kernel_rfl) (by kernel_rfl) (by kernel_rfl) rfl (fun a w h => h.mem (is := [0, 1]) (js := [0, 1]) rfl rfl) (i_pure (p_move rfl)) ?_
      refine GA.take 1 rfl (by kernel_rfl) (by kernel_rfl) (by kernel_rfl) rfl (fun a w h => h.mem (is := [0, 1]) (js := [0, 1]) rfl rfl) (i_pure (p_nilCheck rfl)) ?_
      refine GA.take 2 rfl (by kernel_rfl) (by kernel_rfl) (by kernel_rfl) rfl (fun a w h => h.mem (is := [0, 1]) (js := [0, 1]) rfl rfl) (i_pure (p_fieldAddr fo_79_1 rfl)) ?_
      refine GA.take 3 rfl (by kernel_rfl) (by kernel_rfl) (by kernel_rfl) rfl (fun a w h => h.mem (is := [0, 1]) (js := [0, 1]) rfl rfl) (i_mem (m_load (i := 0) rfl rfl ag_77 rfl)) ?_
      refine GA.take 4 rfl (by kernel_rfl) (by kernel_rfl) (by kernel_rfl) rfl (fun a w h => h.mem (is := [0, 1]) (js := [0, 1]) rfl rfl) (i_pure (p_move rfl)) ?_
      refine GA.take 6 rfl (by kernel_rfl) (by kernel_rfl) (by kernel_rfl) rfl (fun a w h => h.mem (is := [0, 1]) (js := [0, 1]) rfl rfl) (i_pure (p_move rfl)) ?_
      refine GA.take 7 rfl (by kernel_rfl) (by kernel_rfl) (by kernel_rfl) rfl (fun a w h => h.mem (is := [0, 1]) (js := [0, 1]) rfl rfl) (i_pure (p_move rfl)) ?_
      refine GA.take 8 rfl (by kernel_rfl) (by kernel_rfl) (by kernel_rfl) rfl (fun a w h => h.mem (is := [0, 1]) (js := [0, 1]) rfl rfl) (i_pure (p_nilCheck rfl)) ?_
      refine GA.take 9 rfl (by kernel_rfl) (by kernel_rfl) (by kernel_rfl) rfl (fun a w h => h.mem (is := [0, 1]) (js := [0, 1]) rfl rfl) (i_pure (p_fieldAddr fo_79_0 rfl)) ?_
      refine GA.take 10 rfl (by kernel_rfl) (by kernel_rfl) (by kernel_rfl) rfl (fun a w h => h.mem (is := [0, 1]) (js := [0, 1]) rfl rfl) (i_pure (p_fieldAddr fo_23_1 rfl)) ?_
      refine GA.take 11 rfl (by kernel_rfl) (by kernel_rfl) (by kernel_rfl) rfl (fun a w h => h.mem (is := [0, 1]) (js := [0, 1]) rfl rfl) (i_mem (m_load (i := 0) rfl rfl ag_3 rfl)) ?_
      refine GA.all (rs := [5, 12]) (by kernel_rfl) (by simp) ?_
      refine GAs.cons (i := 5) rfl rfl (t_buildSlice rfl Try.underlying31 sz_5 ze_5 rfl rfl rfl rfl rfl rfl) (by rintro a w ⟨_, h⟩; exact h.mem (is := [1, 2]) (js := [0, 1]) rfl rfl) (GA.ex fun b_t16 => ?_) ?_
      · refine GA.all (rs := [12]) (by kernel_rfl) (by simp) ?_
        refine GAs.cons (i := 12) rfl rfl (t_cut_h (j := 1) rfl rfl rfl rfl Try.underlying31 sz_5 (by (first | omega | (rw [laid_length (by simp; omega)]; omega))) (by (first | omega | (rw [laid_length (by simp; omega)]; omega))) (by (first | omega | (rw [laid_length (by simp; omega)]; omega)))) (by rintro a w h; exact h.mem (is := [1, 2]) (js := [1, 2]) rfl rfl) ?_ ?_
        · refine GA.torow (i := 0) (m := 0) (sz := 1) rfl rfl (by decide) rfl ?_
          refine GA.all (rs := [13]) (by kernel_rfl) (by simp) ?_
          refine GAs.cons (i := 13) rfl rfl (t_appendS (i := 0) (k := 0) rfl el_31 rfl rfl rfl rfl (by omega) (fun _ => rfl)) (by rintro a w ⟨_, h⟩; exact h.mem (is := [1, 2]) (js := [1, 2]) rfl rfl) (GA.ex fun v24 => ?_) ?_
          · refine GA.shape (i := 0) rfl (fun A_v24 c_v24 e_v24 l_v24 k_v24 => ?_)
            subst e_v24
            refine GA.take 14 rfl (by kernel_rfl) (by kernel_rfl) (by kernel_rfl) rfl (fun a w h => h.mem (is := [1, 2]) (js := [1, 2]) rfl rfl) (i_pure (p_indexB rfl rfl Try.underlying77 sz_31 (by (first | omega | (rw [laid_length (by simp; omega)]; omega))) (by (first | omega | (rw [laid_length (by simp; omega)]; omega))))) ?_
            rw [Nat.zero_add (seg rem 0 v.sz.toNat).length]
            refine GA.freezeB (i := 0) rfl ?_
            refine GA.all (rs := [15]) (by kernel_rfl) (by simp) ?_
            refine GAs.cons (i := 15) rfl rfl (t_store (i := 1) rfl rfl rfl rfl sz_31 rfl (upd_elem (by simp; (first | omega | (rw [laid_length (by simp; omega)]; omega)))) rfl) (by rintro a w h; exact h.mem (is := [0, 1]) (js := [2, 3]) rfl rfl) ?_ ?_
            · exact GA.done (by kernel_rfl) (fun a w h => ⟨A_v24, c_v24, ⟨by omega, k_v24⟩, h.cut (is := [0, 0, 0]) (js := [0, 2, 3]) ⟨rfl, rfl, rfl, rfl, trivial⟩ rfl rfl⟩)
            exact GAs.nil
          exact GAs.nil
        exact GAs.nil
      refine GAs.cons (i := 12) rfl rfl (t_cut_h (j := 1) rfl rfl rfl rfl Try.underlying31 sz_5 (by (first | omega | (rw [laid_length (by simp; omega)]; omega))) (by (first | omega | (rw [laid_length (by simp; omega)]; omega))) (by (first | omega | (rw [laid_length (by simp; omega)]; omega)))) (by rintro a w h; exact h.mem (is := [0, 1]) (js := [1, 2]) rfl rfl) ?_ ?_
      · refine GA.all (rs := [5]) (by kernel_rfl) (by simp) ?_
        refine GAs.cons (i := 5) rfl rfl (t_buildSlice rfl Try.underlying31 sz_5 ze_5 rfl rfl rfl rfl rfl rfl) (by rintro a w ⟨_, h⟩; exact h.mem (is := [1, 2]) (js := [1, 2]) rfl rfl) (GA.ex fun b_t16 => ?_) ?_
        · refine GA.torow (i := 0) (m := 0) (sz := 1) rfl rfl (by decide) rfl ?_
          refine GA.all (rs := [13]) (by kernel_rfl) (by simp) ?_
          refine GAs.cons (i := 13) rfl rfl (t_appendS (i := 0) (k := 0) rfl el_31 rfl rfl rfl rfl (by omega) (fun _ => rfl)) (by rintro a w ⟨_, h⟩; exact h.mem (is := [1, 2]) (js := [1, 2]) rfl rfl) (GA.ex fun v24 => ?_) ?_
          · refine GA.shape (i := 0) rfl (fun A_v24 c_v24 e_v24 l_v24 k_v24 => ?_)
            subst e_v24
            refine GA.take 14 rfl (by kernel_rfl) (by kernel_rfl) (by kernel_rfl) rfl (fun a w h => h.mem (is := [1, 2]) (js := [1, 2]) rfl rfl) (i_pure (p_indexB rfl rfl Try.underlying77 sz_31 (by (first | omega | (rw [laid_length (by simp; omega)]; omega))) (by (first | omega | (rw [laid_length (by simp; omega)]; omega))))) ?_
            rw [Nat.zero_add (seg rem 0 v.sz.toNat).length]
            refine GA.freezeB (i := 0) rfl ?_
            refine GA.all (rs := [15]) (by kernel_rfl) (by simp) ?_
            refine GAs.cons (i := 15) rfl rfl (t_store (i := 1) rfl rfl rfl rfl sz_31 rfl (upd_elem (by simp; (first | omega | (rw [laid_length (by simp; omega)]; omega)))) rfl) (by rintro a w h; exact h.mem (is := [0, 1]) (js := [2, 3]) rfl rfl) ?_ ?_
            · exact GA.done (by kernel_rfl) (fun a w h => ⟨A_v24, c_v24, ⟨by omega, k_v24⟩, h.cut (is := [0, 0, 0]) (js := [0, 2, 3]) ⟨rfl, rfl, rfl, rfl, trivial⟩ rfl rfl⟩)
            exact GAs.nil
          exact GAs.nil
        exact GAs.nil
      exact GAs.nil
    · refine (?_ : GC _ _ _ _)
      refine GC.ex fun A24 => GC.ex fun c24 => GC.and fun h14 => ?_
      refine GC.seq' ?_
      refine GC.region ?_
      refine GL.setE (j := 1) (js := [0]) (m := (i0 + (j : Int)).toNat) (seg rem 0 v.sz.toNat) (A24, c24) rfl (by rw [chunks_length]; omega) rfl ⟨h14.1, h14.2⟩ ?_
      skip
      refine GL.pure rfl (p_move rfl) ?_
      refine GL.pure rfl (p_nilCheck rfl) ?_
      refine GL.pure rfl (p_fieldAddr fo_79_2 rfl) ?_
      refine GL.step rfl (t_mem rfl (m_load (i := 0) rfl rfl ag_56 rfl)) ?_
      refine GL.pure rfl (p_move rfl) ?_
      refine GL.pure rfl (p_move rfl) ?_
      refine GL.pure rfl (p_indexB rfl rfl Try.underlying56 sz_3 (by (first | omega | (rw [laid_length (by simp; omega)]; omega))) (by (first | omega | (rw [laid_length (by simp; omega)]; omega)))) ?_
      refine GL.step rfl (t_store (i := 2) rfl rfl rfl rfl sz_3 rfl (upd_mapS _ (by (first | omega | (rw [laid_length (by simp; omega)]; omega))) (by (first | omega | (rw [laid_length (by simp; omega)]; omega)))) rfl) ?_
      refine GL.nil (?_ : GC _ _ _ _)
      refine GC.seq' ?_
      refine GC.region ?_
      refine GL.pure rfl (p_move rfl) ?_
      refine GL.pure rfl (p_move rfl) ?_
      refine GL.pure rfl (p_nilCheck rfl) ?_
      refine GL.pure rfl (p_fieldAddr fo_79_0 rfl) ?_
      refine GL.pure rfl (p_fieldAddr fo_23_1 rfl) ?_
      refine GL.step rfl (t_mem rfl (m_load (i := 0) rfl rfl ag_3 rfl)) ?_
      refine GL.step rfl (t_cut_l (j := 3) rfl rfl rfl rfl Try.underlying31 sz_5 (by (first | omega | (rw [laid_length (by simp; omega)]; omega))) (by (first | omega | (rw [laid_length (by simp; omega)]; omega))) (by (first | omega | (rw [laid_length (by simp; omega)]; omega)))) ?_
      refine GL.pure rfl (p_assign rfl) ?_
      refine GL.nil (?_ : GC _ _ _ _)
      refine GC.region ?_
      refine GL.pure rfl (p_move rfl) ?_
      refine GL.pure rfl (p_add rfl rfl (w64 (by (first | omega | (rw [laid_length (by simp; omega)]; omega))) (by (first | omega | (rw [laid_length (by simp; omega)]; omega))))) ?_
      refine GL.pure rfl (p_assign rfl) ?_
      refine GL.nil ?_
      exact fun a w h => ⟨(j + 1, seg rem v.sz.toNat rem.length, slA Ar 1 v.sz.toNat cpr, cpr - v.sz.toNat, laid cs ((i0 + (j : Int)).toNat * 1) [.slice A24 (seg rem 0 v.sz.toNat).length c24]), (by simp only; omega), ⟨by simp only; omega, by simp only; rw [hrem]; exact pickle (by omega), by simp only; rw [seg_length (Nat.le_refl _)]; omega⟩, by rw [wr_step hlb hd hj (by omega), ← laid_step (by omega), show i0.toNat + j = (i0 + (j : Int)).toNat by omega, ← hrem, show i0 + ((j + 1 : Nat) : Int) = i0 + (j : Int) + 1 by omega]; exact h.cut (is := [0, 0, 0]) (js := [1, 0]) ⟨rfl, rfl, rfl, rfl, trivial⟩ rfl rfl⟩
  · try simp only [decide_eq_true_eq, decide_eq_false_iff_not, Bool.not_eq_true', Bool.not_eq_false', Bool.not_true, Bool.not_false, Bool.not_not, ne_eq, Decidable.not_not, Int.not_lt, Int.not_le, gt_iff_lt, ge_iff_le, bool_true_eq_, bool_false_eq_] at h1
    refine GC.exit ?_
    obtain rfl : j = n := by
      rcases Nat.lt_or_ge j n with g | g
      · exfalso
        have g1 : (j + 1) * v.sz.toNat ≤ n * v.sz.toNat := Nat.mul_le_mul_right _ g
        have g2 : (j + 1) * v.sz.toNat = j * v.sz.toNat + v.sz.toNat := by rw [Nat.add_mul, Nat.one_mul]
        omega
      · omega
    rw [List.take_of_length_le (by omega)]
    refine fun a w h => Fin.back0 rfl (is := [0, 0, 0]) (js := [0]) rfl rfl ?_ h
    clear h
    exact ⟨_, rfl, rfl, rfl⟩
theorem write_len (p pB pV c1 c2 : Nat) (sp spv cs : List Value) (v : Vol) (i0 num : Int) (A : Option Addr) (data : List UInt8) (len cp n : Nat) (hlen : len = data.length) (hv : VolOk v) (h0 : 0 ≤ i0) (h2 : i0 + n ≤ v.bl) (hd : data.length = n * v.sz.toNat) (hcp : data.length ≤ cp) (hn : n ≤ 4096) :
    Ct Try.prog 44 [.pointer (some ⟨p, 0, none⟩), .int .i64 i0, .slice A len cp, .int .i64 num] (rvG p pB pV c1 c2 sp spv cs v) [Pers.reps kBytes (chV v) cs, Pers.row Kd.u8 A data]
      (fun u G Q => ∃ cs', u = .tuple #[] ∧ G = rvG p pB pV c1 c2 sp spv cs' { v with b := laid v.b (i0 * v.sz).toNat data, vs := laid v.vs i0.toNat (List.replicate n num) } ∧ Q = [Pers.reps kBytes (chV { v with b := laid v.b (i0 * v.sz).toNat data, vs := laid v.vs i0.toNat (List.replicate n num) }) cs']) := by
  subst hlen
  exact write_ct p pB pV c1 c2 sp spv cs v i0 num A data cp n hv h0 h2 hd hcp hn
end Go.Proofs.Ytihhpkbbhfcdcaa
