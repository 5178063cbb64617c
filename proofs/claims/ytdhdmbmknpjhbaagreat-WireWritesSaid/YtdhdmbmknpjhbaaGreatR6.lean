/- Texts of this claim, in one: what the law leans on (part 6). -/
import Derived.Test.YtdhdmbmknpjhbaaGreatR5
set_option linter.unusedVariables false
set_option linter.unusedSimpArgs false
set_option maxRecDepth 100000
namespace Go.Proofs.YtdhdmbmknpjhbaaGreat
open Go Go.Sx Go.Proofs
set_option maxHeartbeats 2000000 in
theorem rencstt_all (s : Stt) (A : Option Addr) (cp : Nat) (B : Option Addr) (cq : Nat) (C : Option Addr) (cr : Nat) (hs : SttLen s) (hh : heldOk s) : Ct Tryz.prog 89 [sttV s A cp B cq C cr] [] (sttQ s A B C)
    (fun u G Q => ((sttB s).length ≤ 33554432 ∧ ∃ A' cp', (sttB s).length ≤ cp' ∧ cp' ≤ 9223372036854775807 ∧ u = .tuple #[.slice A' (sttB s).length cp', .int .i64 0] ∧ G = [rowOf A' cp' (sttB s)] ∧ Q = []) ∨ (33554432 < (sttB s).length ∧ u = .tuple #[.slice none 0 0, .int .i64 2] ∧ G = [] ∧ Q = [])) := by
 have hr := held_rng hh
 obtain ⟨n1, b1, s1, pl, rl, pg, rw_, gr⟩ := held_rng hh
 have hH := sttH_len s
 have hpa := pgs_all hr
 have hra := rws_all hr
 have hgl := grpB_len gr
 refine Ct.intro Tryz.func89 rfl rfl rfl (fun c hc => ?_)
 refine GC.sr_ ?_; refine GL.step rfl (t_box rfl rfl rfl) (GL.ex fun b_t1 => ?_)
 iterate 2 refine GL.as_ rfl rfl ?_
 refine GL.nl_ ?_; refine GC.seq' ?_; refine GC.sr_ ?_; refine GL.step rfl (t_mem rfl (m_loadN (i := 0) rfl rfl ag_39 (vs := [_, _, _, _, _, _, _]) sz_39 ⟨rfl, rfl, rfl, rfl, rfl, rfl, rfl, trivial⟩)) ?_; refine GL.step rfl (t_call rfl fn_34 rfl (is := []) (js := [0, 1, 2]) rfl rfl (by exact rstate_ok s hh _ _ _ _ _ _ hs)) (GL.ret ?_)
 rintro _ _ _ ⟨rfl, rfl, rfl⟩
 refine GL.pure rfl (p_neq rfl rfl) ?_; refine GL.nl_ ?_; refine GC.cond_false rfl ?_
 refine GC.skip (?_ : GC _ _ _ _)
 refine GC.joinK2 (ks := [1]) (is := [0]) (js := [0, 1, 2]) (fun (A1 : Option Addr) (c1 : Nat) => (sttH s).length ≤ c1 ∧ c1 ≤ 9223372036854775807) (fun (A1 : Option Addr) (c1 : Nat) => [(4, .slice A1 (sttH s).length c1)]) (fun (A1 : Option Addr) (c1 : Nat) => [rowOf A1 c1 (sttH s)]) (fun (A1 : Option Addr) (c1 : Nat) => []) rfl rfl rfl ?_ ?_
 ·refine GC.regionC (m := 16) (is := [0]) (js := [0, 1, 2]) wide_ rfl rfl rfl ?_; refine GA.take 0 rfl (by kernel_rfl) (by kernel_rfl) (by kernel_rfl) rfl (fun a w h => h.mem (is := [0]) (js := [0, 1, 2]) rfl rfl) (i_pure (p_fieldAddr fo_39_0 rfl)) ?_
  refine GA.take 1 rfl (by kernel_rfl) (by kernel_rfl) (by kernel_rfl) rfl (fun a w h => h.mem (is := [0]) (js := [0, 1, 2]) rfl rfl) (i_mem (m_load (i := 0) rfl rfl ag_3 rfl)) ?_; refine GA.take 3 rfl (by kernel_rfl) (by kernel_rfl) (by kernel_rfl) rfl (fun a w h => h.mem (is := [0]) (js := [0, 1, 2]) rfl rfl) (i_pure (p_fieldAddr fo_39_1 rfl)) ?_
  refine GA.take 4 rfl (by kernel_rfl) (by kernel_rfl) (by kernel_rfl) rfl (fun a w h => h.mem (is := [0]) (js := [0, 1, 2]) rfl rfl) (i_pure (p_fieldAddr fo_35_0 rfl)) ?_; refine GA.take 5 rfl (by kernel_rfl) (by kernel_rfl) (by kernel_rfl) rfl (fun a w h => h.mem (is := [0]) (js := [0, 1, 2]) rfl rfl) (i_mem (m_load (i := 0) rfl rfl ag_3 rfl)) ?_
  refine GA.take 7 rfl (by kernel_rfl) (by kernel_rfl) (by kernel_rfl) rfl (fun a w h => h.mem (is := [0]) (js := [0, 1, 2]) rfl rfl) (i_pure (p_fieldAddr fo_39_1 rfl)) ?_; refine GA.take 8 rfl (by kernel_rfl) (by kernel_rfl) (by kernel_rfl) rfl (fun a w h => h.mem (is := [0]) (js := [0, 1, 2]) rfl rfl) (i_pure (p_fieldAddr fo_35_1 rfl)) ?_
  refine GA.take 9 rfl (by kernel_rfl) (by kernel_rfl) (by kernel_rfl) rfl (fun a w h => h.mem (is := [0]) (js := [0, 1, 2]) rfl rfl) (i_mem (m_load (i := 0) rfl rfl ag_3 rfl)) ?_; refine GA.take 11 rfl (by kernel_rfl) (by kernel_rfl) (by kernel_rfl) rfl (fun a w h => h.mem (is := [0]) (js := [0, 1, 2]) rfl rfl) (i_pure (p_fieldAddr fo_39_2 rfl)) ?_
  refine GA.take 12 rfl (by kernel_rfl) (by kernel_rfl) (by kernel_rfl) rfl (fun a w h => h.mem (is := [0]) (js := [0, 1, 2]) rfl rfl) (i_mem (m_load (i := 0) rfl rfl ag_36 rfl)) ?_; refine GA.take 13 rfl (by kernel_rfl) (by kernel_rfl) (by kernel_rfl) rfl (fun a w h => h.mem (is := [0]) (js := [0, 1, 2]) rfl rfl) (i_pure (p_len Tryz.underlying36 rfl)) ?_
  refine GA.all (rs := [2]) (by kernel_rfl) (by simp) ?_
  refine GAs.cons (i := 2) rfl rfl (t_call rfl fn_126 rfl (is := []) (js := []) rfl rfl (by exact r7put_nil s.num 8 (by omega) (by omega) (by omega) (by rw [p256_8]; omega))) (by rintro a w ⟨_, _, _, ⟨A15, cp15, l15, k15, rfl, rfl, rfl⟩, h⟩; exact h.mem (is := [1]) (js := [0, 1, 2]) rfl rfl) (GA.ret ?_) ?_
  ·rintro _ _ _ ⟨A15, cp15, l15, k15, rfl, rfl, rfl⟩
   refine GA.freezeB (i := 0) rfl ?_; refine GA.all (rs := [6]) (by kernel_rfl) (by simp) ?_
   refine GAs.cons (i := 6) rfl rfl (t_call rfl fn_126 rfl (is := []) (js := [0]) rfl rfl (by exact r7put_ct _ (leN 8 s.num.toNat) _ s.shp.bl 4 (by omega) (by omega) (by simp [leN_length]) (by omega) (by rw [p256_4]; omega))) (by rintro a w ⟨_, _, _, ⟨A19, cp19, l19, k19, rfl, rfl, rfl⟩, h⟩; exact h.mem (is := [1]) (js := [1, 2, 3]) rfl rfl) (GA.ret ?_) ?_
   ·rintro _ _ _ ⟨A19, cp19, l19, k19, rfl, rfl, rfl⟩
    refine GA.freezeB (i := 0) rfl ?_; refine GA.all (rs := [10]) (by kernel_rfl) (by simp) ?_
    refine GAs.cons (i := 10) rfl rfl (t_call rfl fn_126 rfl (is := []) (js := [0]) rfl rfl (by exact r7put_ct _ (leN 8 s.num.toNat ++ leN 4 s.shp.bl.toNat) _ s.shp.sz 4 (by omega) (by omega) (by simp [leN_length]) (by omega) (by rw [p256_4]; omega))) (by rintro a w ⟨_, _, _, ⟨A23, cp23, l23, k23, rfl, rfl, rfl⟩, h⟩; exact h.mem (is := [1]) (js := [2, 3, 4]) rfl rfl) (GA.ret ?_) ?_
    ·rintro _ _ _ ⟨A23, cp23, l23, k23, rfl, rfl, rfl⟩
     refine GA.freezeB (i := 0) rfl ?_; refine GA.all (rs := [14]) (by kernel_rfl) (by simp) ?_
     refine GAs.cons (i := 14) rfl rfl (t_call rfl fn_126 rfl (is := []) (js := [0]) rfl rfl (by exact r7put_ct _ (leN 8 s.num.toNat ++ leN 4 s.shp.bl.toNat ++ leN 4 s.shp.sz.toNat) _ (s.pages.length : Int) 4 (by omega) (by omega) (by simp [leN_length]) (by omega) (by rw [p256_4]; omega))) (by rintro a w ⟨_, _, _, ⟨A27, cp27, l27, k27, rfl, rfl, rfl⟩, h⟩; exact h.mem (is := [1]) (js := [3, 4, 5]) rfl rfl) (GA.ret ?_) ?_
     ·rintro _ _ _ ⟨A27, cp27, l27, k27, rfl, rfl, rfl⟩
      refine GA.take 15 rfl (by kernel_rfl) (by kernel_rfl) (by kernel_rfl) rfl (fun a w h => h.mem (is := [1]) (js := [3, 4, 5]) rfl rfl) (i_pure (p_assign rfl)) ?_; refine GA.done (by kernel_rfl) ?_
      exact fun a w h => ⟨(A27), (cp27), ⟨by rw [← sttH_eq]; exact l27, k27⟩, by rw [← sttH_eq]; exact h.cut (is := [0, 0]) (js := [3, 4, 5]) ⟨rfl, rfl, trivial⟩ rfl rfl⟩
     exact GAs.nil
    exact GAs.nil
   exact GAs.nil
  exact GAs.nil
 ·intro A1 c1 hj3
  try dsimp only [List.cons_append, List.nil_append] at hj3 ⊢
  refine GC.seq' ?_; refine GC.sr_ ?_; refine GL.as_ rfl rfl ?_; refine GL.nl_ ?_; refine GC.block ?_; refine GC.loopK3 (ks := [1]) (is := [1]) (js := [0, 1, 2]) (fun (k : Nat) (A1 : Option Addr) (c1 : Nat) => k ≤ s.pages.length) (fun (k : Nat) (A1 : Option Addr) (c1 : Nat) => [(4, .slice A1 (sttH s ++ (s.pages.take k).flatMap pgB).length c1), (5, .int .i64 (k : Int))]) (fun (k : Nat) (A1 : Option Addr) (c1 : Nat) => [rowOf A1 c1 (sttH s ++ (s.pages.take k).flatMap pgB)]) (fun (k : Nat) (A1 : Option Addr) (c1 : Nat) => []) (fun (k : Nat) (A1 : Option Addr) (c1 : Nat) => s.pages.length - k) (0) (_) (_) rfl rfl rfl (fun a w h => ⟨by omega, by simp only [List.take_zero, List.flatMap_nil, List.append_nil]; exact h.cutK (is := [0, 0]) (js := [0, 1, 2]) (ks := [1]) ⟨rfl, rfl, trivial⟩ rfl rfl rfl⟩) ?_
  intro k A1 c1 hk
  try dsimp only [List.cons_append, List.nil_append] at hk ⊢
  refine GC.seq' ?_; refine GC.sr_ ?_; refine GL.mv_ rfl rfl ?_; refine GL.pure rfl (p_fieldAddr fo_39_2 rfl) ?_; refine GL.step rfl (t_mem rfl (m_load (i := 1) rfl rfl ag_36 rfl)) ?_; refine GL.pure rfl (p_len Tryz.underlying36 rfl) ?_
  refine GL.pure rfl (p_lss rfl rfl) ?_; refine GL.nl_ ?_; refine GC.cond rfl (fun h1 => ?_) (fun h1 => ?_)
  ·try simp only [tst_] at h1
   first
   | (exfalso; omega)
   |(skip
     refine GC.skip (?_ : GC _ _ _ _)
     refine GC.seq' ?_; refine GC.block ?_; refine GC.seq' ?_
     have hx := pg _ (gt_elem (l := s.pages) (k := k) (by omega))
     refine GC.layQ (y := .tmp 5) (j := 0) rfl rfl (by omega) (gt_ok (by omega) (by omega)) (fun p_x38 r_x38 hA_x38 ok_x38 => ?_)
     rcases r_x38 with ⟨_, ⟨_, ⟨Ax38_0, cpx38_0⟩⟩⟩
     refine GC.layQ (y := .tmp 5) (j := 2) rfl rfl (by omega) (gt_ok (by omega) (by omega)) (fun p_x45 r_x45 hA_x45 ok_x45 => ?_)
     rcases r_x45 with ⟨_, ⟨_, ⟨Ax45_0, cpx45_0⟩⟩⟩
     refine GC.regionC (m := 15) (is := [0, 0]) (js := [0, 1, 2, 3, 4, 5, 6]) wide_ rfl rfl rfl ?_; refine GA.take 0 rfl (by kernel_rfl) (by kernel_rfl) (by kernel_rfl) rfl (fun a w h => h.mem (is := [0, 0]) (js := [0, 1, 2, 3, 4, 5, 6]) rfl rfl) (i_pure (p_fieldAddr fo_39_2 rfl)) ?_
     refine GA.take 1 rfl (by kernel_rfl) (by kernel_rfl) (by kernel_rfl) rfl (fun a w h => h.mem (is := [0, 0]) (js := [0, 1, 2, 3, 4, 5, 6]) rfl rfl) (i_mem (m_load (i := 1) rfl rfl ag_36 rfl)) ?_; refine GA.take 2 rfl (by kernel_rfl) (by kernel_rfl) (by kernel_rfl) rfl (fun a w h => h.mem (is := [0, 0]) (js := [0, 1, 2, 3, 4, 5, 6]) rfl rfl) (i_pure (p_move rfl)) ?_
     refine GA.take 3 rfl (by kernel_rfl) (by kernel_rfl) (by kernel_rfl) rfl (fun a w h => h.mem (is := [0, 0]) (js := [0, 1, 2, 3, 4, 5, 6]) rfl rfl) (i_pure (p_indexL hA_x38 rfl rfl Tryz.underlying36 sz_59 (by omega) (by omega))) ?_
     refine GA.take 4 rfl (by kernel_rfl) (by kernel_rfl) (by kernel_rfl) rfl (fun a w h => h.mem (is := [0, 0]) (js := [0, 1, 2, 3, 4, 5, 6]) rfl rfl) (i_pure (p_fieldAddr' fo_59_0 rfl)) ?_; refine GA.take 5 rfl (by kernel_rfl) (by kernel_rfl) (by kernel_rfl) rfl (fun a w h => h.mem (is := [0, 0]) (js := [0, 1, 2, 3, 4, 5, 6]) rfl rfl) (i_mem (m_loadP (i := 2) rfl rfl ag_3 rfl)) ?_
     refine GA.take 7 rfl (by kernel_rfl) (by kernel_rfl) (by kernel_rfl) rfl (fun a w h => h.mem (is := [0, 0]) (js := [0, 1, 2, 3, 4, 5, 6]) rfl rfl) (i_pure (p_fieldAddr fo_39_2 rfl)) ?_; refine GA.take 8 rfl (by kernel_rfl) (by kernel_rfl) (by kernel_rfl) rfl (fun a w h => h.mem (is := [0, 0]) (js := [0, 1, 2, 3, 4, 5, 6]) rfl rfl) (i_mem (m_load (i := 1) rfl rfl ag_36 rfl)) ?_
     refine GA.take 9 rfl (by kernel_rfl) (by kernel_rfl) (by kernel_rfl) rfl (fun a w h => h.mem (is := [0, 0]) (js := [0, 1, 2, 3, 4, 5, 6]) rfl rfl) (i_pure (p_move rfl)) ?_; refine GA.take 10 rfl (by kernel_rfl) (by kernel_rfl) (by kernel_rfl) rfl (fun a w h => h.mem (is := [0, 0]) (js := [0, 1, 2, 3, 4, 5, 6]) rfl rfl) (i_pure (p_indexL hA_x45 rfl rfl Tryz.underlying36 sz_59 (by omega) (by omega))) ?_
     refine GA.take 11 rfl (by kernel_rfl) (by kernel_rfl) (by kernel_rfl) rfl (fun a w h => h.mem (is := [0, 0]) (js := [0, 1, 2, 3, 4, 5, 6]) rfl rfl) (i_pure (p_fieldAddr' fo_59_1 rfl)) ?_; refine GA.take 12 rfl (by kernel_rfl) (by kernel_rfl) (by kernel_rfl) rfl (fun a w h => h.mem (is := [0, 0]) (js := [0, 1, 2, 3, 4, 5, 6]) rfl rfl) (i_mem (m_loadP (i := 0) rfl rfl ag_3 rfl)) ?_
     refine GA.all (rs := [6]) (by kernel_rfl) (by simp) ?_
     refine GAs.cons (i := 6) rfl rfl (t_call rfl fn_126 rfl (is := []) (js := []) rfl rfl (by exact r7put_nil (gt s.pages (k : Int)).at_ 4 (by omega) (by omega) (by omega) (by rw [p256_4]; omega))) (by rintro a w ⟨_, _, _, ⟨A41, cp41, l41, k41, rfl, rfl, rfl⟩, h⟩; exact h.mem (is := [1, 1]) (js := [0, 1, 2, 3, 4, 5, 6]) rfl rfl) (GA.ret ?_) ?_
     ·rintro _ _ _ ⟨A41, cp41, l41, k41, rfl, rfl, rfl⟩
      refine GA.freezeB (i := 0) rfl ?_; refine GA.all (rs := [13]) (by kernel_rfl) (by simp) ?_
      refine GAs.cons (i := 13) rfl rfl (t_call rfl fn_126 rfl (is := []) (js := [0]) rfl rfl (by exact r7put_ct _ (leN 4 (gt s.pages (k : Int)).at_.toNat) _ (gt s.pages (k : Int)).ver 8 (by omega) (by omega) (by simp [leN_length]) (by omega) (by rw [p256_8]; omega))) (by rintro a w ⟨_, _, _, ⟨A48, cp48, l48, k48, rfl, rfl, rfl⟩, h⟩; exact h.mem (is := [1, 1]) (js := [1, 2, 3, 4, 5, 6, 7]) rfl rfl) (GA.ret ?_) ?_
      ·rintro _ _ _ ⟨A48, cp48, l48, k48, rfl, rfl, rfl⟩
       refine GA.take 14 rfl (by kernel_rfl) (by kernel_rfl) (by kernel_rfl) rfl (fun a w h => h.mem (is := [1, 1]) (js := [1, 2, 3, 4, 5, 6, 7]) rfl rfl) (i_pure (p_assign rfl)) ?_
       refine GA.done (by kernel_rfl) (?_ : GC _ _ _ _)
       refine GC.sr_ ?_; refine GL.mv_ rfl rfl ?_; refine GL.pure rfl (p_fieldAddr fo_39_2 rfl) ?_; refine GL.step rfl (t_mem rfl (m_load (i := 2) rfl rfl ag_36 rfl)) ?_; refine GL.mv_ rfl rfl ?_; refine GL.step rfl (t_index (i := 5) rfl rfl rfl rfl Tryz.underlying36 sz_59 (by omega) (gt_ok (by omega) (by omega))) (GL.ex fun p_x54 => GL.ex fun r_x54 => GL.and fun ok_x54 => ?_)
       rcases r_x54 with ⟨_, ⟨_, ⟨Ax54_0, cpx54_0⟩⟩⟩
       refine GL.pure rfl (p_fieldAddr' fo_59_2 rfl) ?_; refine GL.step rfl (t_mem rfl (m_loadP (i := 0) rfl rfl ag_25 rfl)) ?_; refine GL.freezeB (i := 0) rfl ?_; refine GL.step rfl (t_call rfl fn_56 rfl (is := []) (js := [0, 2]) rfl rfl (by exact rtext_ct _ (leN 4 (gt s.pages (k : Int)).at_.toNat ++ leN 8 (gt s.pages (k : Int)).ver.toNat) _ _ (gt s.pages (k : Int)).data _ (by simp [leN_length]) (by omega))) (GL.ret ?_)
       rintro _ _ _ ⟨A57, cp57, l57, k57, rfl, rfl, rfl⟩
       refine GL.mv_ rfl rfl ?_
       iterate 2 refine GL.pure rfl (p_extract rfl rfl) ?_
       refine GL.as_ rfl rfl ?_; refine GL.nl_ ?_; refine GC.region ?_
       iterate 2 refine GL.mv_ rfl rfl ?_
       refine GL.freezeB (i := 0) rfl ?_; refine GL.step rfl (t_appendS (i := 0) (k := 0) rfl el_25 rfl rfl rfl rfl (by (try simp only [List.length_append, List.length_cons, List.length_nil, List.length_map, List.length_take, flZ_length, flI_length, leN_length]); first | omega | (have := pgs_len hr k; have := pgB_len (pg _ (gt_elem (l := s.pages) (k := k) (by omega))).2.2.2.2; omega) | (have := rws_len hr k; have := rowBy_len (rw_ _ (gt_elem (l := s.rows) (k := k) (by omega))).2.2; rw [← rowBy_eq] at this; simp only [List.length_append, leN_length] at this; omega)) (fun _ => rfl)) (GL.ex fun v62 => ?_)
       refine GL.rowIs (i := 0) (m' := ((sttH s ++ (s.pages.take k).flatMap pgB ++ (leN 4 (gt s.pages (k : Int)).at_.toNat ++ leN 8 (gt s.pages (k : Int)).ver.toNat ++ leN 4 (gt s.pages (k : Int)).data.length ++ (gt s.pages (k : Int)).data))).length) (cs' := ((sttH s ++ (s.pages.take k).flatMap pgB ++ (leN 4 (gt s.pages (k : Int)).at_.toNat ++ leN 8 (gt s.pages (k : Int)).ver.toNat ++ leN 4 (gt s.pages (k : Int)).data.length ++ (gt s.pages (k : Int)).data))).map u8v) rfl (by first | (simp only [List.length_append, List.length_cons, List.length_nil, List.append_assoc]; done) | (simp only [List.length_append, List.length_cons, List.length_nil, List.append_assoc]; omega) | (simp [rowBy]; done) | (simp [rowBy]; omega) | rfl) (by first | (simp only [List.map_append, List.map_cons, List.map_nil, List.append_assoc]; done) | (simp [rowBy]; done) | rfl) rfl ?_
       refine GL.shape (i := 0) rfl (fun A_b c_b e_b l_b k_b => ?_)
       subst e_b
       refine GL.as_ rfl rfl ?_
       refine GL.nil (?_ : GC _ _ _ _)
       refine GC.region ?_; refine GL.mv_ rfl rfl ?_; refine GL.pure rfl (p_add rfl rfl (w64 (by omega) (by omega))) ?_; refine GL.as_ rfl rfl ?_; refine GL.nil ?_
       exact fun a w h => ⟨(k + 1), (A_b), (c_b), (by omega), by omega, by rw [fm_take (by omega), ← List.append_assoc, ← pgB_eq]; exact h.cut (is := [0, 0]) (js := [9, 10, 11]) ⟨rfl, rfl, rfl, trivial⟩ rfl rfl⟩
      exact GAs.nil
     exact GAs.nil)
  ·try simp only [tst_] at h1
   first
   | (exfalso; omega)
   |(skip
     refine GC.exit (?_ : GC _ _ _ _)
     refine GC.seq' ?_
     obtain rfl : k = s.pages.length := by omega
     rw [List.take_length]
     refine GC.region ?_; refine GL.mv_ rfl rfl ?_; refine GL.pure rfl (p_fieldAddr fo_39_3 rfl) ?_; refine GL.step rfl (t_mem rfl (m_load (i := 1) rfl rfl ag_37 rfl)) ?_; refine GL.pure rfl (p_len Tryz.underlying37 rfl) ?_
     refine GL.pure rfl (p_convR (t := 3) (r := (((byI (s.rows.length : Int)).toNat : Nat) : Int)) (by rw [Tryz.underlying3]; simp) Tryz.underlying5 rfl (cv8 (by omega) (by omega))) ?_; refine GL.step rfl (t_buildSlice rfl Tryz.underlying25 sz_5 ze_5 rfl rfl rfl rfl rfl rfl) (GL.ex fun b_t68 => ?_)
     refine GL.step rfl (t_append (i := 1) (k := 0) rfl el_25 rfl rfl rfl rfl rfl (allOne_mem rfl) (by (try simp only [List.length_append, List.length_cons, List.length_nil, List.length_map, List.length_take, flZ_length, flI_length, leN_length]); first | omega | (have := pgs_len hr k; have := pgB_len (pg _ (gt_elem (l := s.pages) (k := k) (by omega))).2.2.2.2; omega) | (have := rws_len hr k; have := rowBy_len (rw_ _ (gt_elem (l := s.rows) (k := k) (by omega))).2.2; rw [← rowBy_eq] at this; simp only [List.length_append, leN_length] at this; omega)) (fun _ => rfl)) (GL.ex fun v69 => ?_)
     refine GL.rowIs (i := 1) (m' := ((sttH s ++ s.pages.flatMap pgB ++ [byI (s.rows.length : Int)])).length) (cs' := ((sttH s ++ s.pages.flatMap pgB ++ [byI (s.rows.length : Int)])).map u8v) rfl (by first | (simp only [List.length_append, List.length_cons, List.length_nil, List.append_assoc]; done) | (simp only [List.length_append, List.length_cons, List.length_nil, List.append_assoc]; omega) | (simp [rowBy]; done) | (simp [rowBy]; omega) | rfl) (by first | (simp only [List.map_append, List.map_cons, List.map_nil, List.append_assoc]; done) | (simp [rowBy]; done) | rfl) rfl ?_
     refine GL.shape (i := 1) rfl (fun A_b c_b e_b l_b k_b => ?_)
     subst e_b
     refine GL.as_ rfl rfl ?_
     refine GL.nil (?_ : GC _ _ _ _)
     refine GC.seq' ?_; refine GC.sr_ ?_; refine GL.as_ rfl rfl ?_; refine GL.nl_ ?_; refine GC.block ?_; refine GC.loopK3 (ks := [1]) (is := [0, 2]) (js := [0, 1, 2]) (fun (k : Nat) (A1 : Option Addr) (c1 : Nat) => k ≤ s.rows.length) (fun (k : Nat) (A1 : Option Addr) (c1 : Nat) => [(4, .slice A1 (sttH s ++ s.pages.flatMap pgB ++ [byI (s.rows.length : Int)] ++ (s.rows.take k).flatMap rowBy).length c1), (7, .int .i64 (k : Int))]) (fun (k : Nat) (A1 : Option Addr) (c1 : Nat) => [rowOf A1 c1 (sttH s ++ s.pages.flatMap pgB ++ [byI (s.rows.length : Int)] ++ (s.rows.take k).flatMap rowBy)]) (fun (k : Nat) (A1 : Option Addr) (c1 : Nat) => []) (fun (k : Nat) (A1 : Option Addr) (c1 : Nat) => s.rows.length - k) (0) (_) (_) rfl rfl rfl (fun a w h => ⟨by omega, by simp only [List.take_zero, List.flatMap_nil, List.append_nil]; exact h.cutK (is := [1, 0, 0]) (js := [0, 1, 2]) (ks := [1]) ⟨rfl, rfl, trivial⟩ rfl rfl rfl⟩) ?_
     intro k A1 c1 hk
     try dsimp only [List.cons_append, List.nil_append] at hk ⊢
     refine GC.seq' ?_; refine GC.sr_ ?_; refine GL.mv_ rfl rfl ?_; refine GL.pure rfl (p_fieldAddr fo_39_3 rfl) ?_; refine GL.step rfl (t_mem rfl (m_load (i := 2) rfl rfl ag_37 rfl)) ?_; refine GL.pure rfl (p_len Tryz.underlying37 rfl) ?_
     refine GL.pure rfl (p_lss rfl rfl) ?_; refine GL.nl_ ?_; refine GC.cond rfl (fun h2 => ?_) (fun h2 => ?_)
     ·try simp only [tst_] at h2
      first
      | (exfalso; omega)
      |(skip
        refine GC.skip (?_ : GC _ _ _ _)
        refine GC.seq' ?_; refine GC.block ?_; refine GC.seq' ?_
        have hx := rw_ _ (gt_elem (l := s.rows) (k := k) (by omega))
        refine GC.region ?_; refine GL.pure rfl (p_fieldAddr fo_39_3 rfl) ?_; refine GL.step rfl (t_mem rfl (m_load (i := 2) rfl rfl ag_37 rfl)) ?_; refine GL.mv_ rfl rfl ?_; refine GL.step rfl (t_index (i := 1) rfl rfl rfl rfl Tryz.underlying37 sz_61 (by omega) (gt_ok (by omega) (by omega))) (GL.ex fun p_x81 => GL.ex fun r_x81 => GL.and fun ok_x81 => ?_)
        rcases r_x81 with ⟨_, ⟨_, ⟨_, ⟨Ax81_0, cpx81_0⟩⟩⟩⟩
        refine GL.pure rfl (p_fieldAddr' fo_61_2 rfl) ?_; refine GL.step rfl (t_mem rfl (m_loadPN (i := 0) rfl rfl ag_30 (vs := [_, _]) sz_30 ⟨rfl, rfl, trivial⟩)) ?_; refine GL.step rfl (t_call rfl fn_87 rfl (is := []) (js := [1]) rfl rfl (by exact rencres_ct (gt s.rows (k : Int)).result _ _ hx.2.2)) (GL.ret ?_)
        rintro _ _ _ ⟨A84, cp84, l84, k84, rfl, rfl, rfl⟩
        refine GL.mv_ rfl rfl ?_
        iterate 2 refine GL.pure rfl (p_extract rfl rfl) ?_
        iterate 2 refine GL.as_ rfl rfl ?_
        refine GL.nil (?_ : GC _ _ _ _)
        refine GC.freezeB (i := 0) rfl ?_; refine GC.layQ (y := .tmp 7) (j := 4) rfl rfl (by omega) (gt_ok (by omega) (by omega)) (fun p_x91 r_x91 hA_x91 ok_x91 => ?_)
        rcases r_x91 with ⟨_, ⟨_, ⟨_, ⟨Ax91_0, cpx91_0⟩⟩⟩⟩
        refine GC.layQ (y := .tmp 7) (j := 6) rfl rfl (by omega) (gt_ok (by omega) (by omega)) (fun p_x98 r_x98 hA_x98 ok_x98 => ?_)
        rcases r_x98 with ⟨_, ⟨_, ⟨_, ⟨Ax98_0, cpx98_0⟩⟩⟩⟩
        refine GC.regionC (m := 19) (is := [1, 1]) (js := [0, 1, 2, 3, 4, 5, 6, 7, 8, 9]) wide_ rfl rfl rfl ?_; refine GA.take 0 rfl (by kernel_rfl) (by kernel_rfl) (by kernel_rfl) rfl (fun a w h => h.mem (is := [1, 1]) (js := [0, 1, 2, 3, 4, 5, 6, 7, 8, 9]) rfl rfl) (i_pure (p_move rfl)) ?_
        refine GA.take 1 rfl (by kernel_rfl) (by kernel_rfl) (by kernel_rfl) rfl (fun a w h => h.mem (is := [1, 1]) (js := [0, 1, 2, 3, 4, 5, 6, 7, 8, 9]) rfl rfl) (i_pure (p_fieldAddr fo_39_3 rfl)) ?_; refine GA.take 2 rfl (by kernel_rfl) (by kernel_rfl) (by kernel_rfl) rfl (fun a w h => h.mem (is := [1, 1]) (js := [0, 1, 2, 3, 4, 5, 6, 7, 8, 9]) rfl rfl) (i_mem (m_load (i := 1) rfl rfl ag_37 rfl)) ?_
        refine GA.take 3 rfl (by kernel_rfl) (by kernel_rfl) (by kernel_rfl) rfl (fun a w h => h.mem (is := [1, 1]) (js := [0, 1, 2, 3, 4, 5, 6, 7, 8, 9]) rfl rfl) (i_pure (p_move rfl)) ?_; refine GA.take 4 rfl (by kernel_rfl) (by kernel_rfl) (by kernel_rfl) rfl (fun a w h => h.mem (is := [1, 1]) (js := [0, 1, 2, 3, 4, 5, 6, 7, 8, 9]) rfl rfl) (i_pure (p_indexL hA_x91 rfl rfl Tryz.underlying37 sz_61 (by omega) (by omega))) ?_
        refine GA.take 5 rfl (by kernel_rfl) (by kernel_rfl) (by kernel_rfl) rfl (fun a w h => h.mem (is := [1, 1]) (js := [0, 1, 2, 3, 4, 5, 6, 7, 8, 9]) rfl rfl) (i_pure (p_fieldAddr' fo_61_0 rfl)) ?_; refine GA.take 6 rfl (by kernel_rfl) (by kernel_rfl) (by kernel_rfl) rfl (fun a w h => h.mem (is := [1, 1]) (js := [0, 1, 2, 3, 4, 5, 6, 7, 8, 9]) rfl rfl) (i_mem (m_loadP (i := 2) rfl rfl ag_3 rfl)) ?_
        refine GA.take 8 rfl (by kernel_rfl) (by kernel_rfl) (by kernel_rfl) rfl (fun a w h => h.mem (is := [1, 1]) (js := [0, 1, 2, 3, 4, 5, 6, 7, 8, 9]) rfl rfl) (i_pure (p_fieldAddr fo_39_3 rfl)) ?_; refine GA.take 9 rfl (by kernel_rfl) (by kernel_rfl) (by kernel_rfl) rfl (fun a w h => h.mem (is := [1, 1]) (js := [0, 1, 2, 3, 4, 5, 6, 7, 8, 9]) rfl rfl) (i_mem (m_load (i := 1) rfl rfl ag_37 rfl)) ?_
        refine GA.take 10 rfl (by kernel_rfl) (by kernel_rfl) (by kernel_rfl) rfl (fun a w h => h.mem (is := [1, 1]) (js := [0, 1, 2, 3, 4, 5, 6, 7, 8, 9]) rfl rfl) (i_pure (p_move rfl)) ?_; refine GA.take 11 rfl (by kernel_rfl) (by kernel_rfl) (by kernel_rfl) rfl (fun a w h => h.mem (is := [1, 1]) (js := [0, 1, 2, 3, 4, 5, 6, 7, 8, 9]) rfl rfl) (i_pure (p_indexL hA_x98 rfl rfl Tryz.underlying37 sz_61 (by omega) (by omega))) ?_
        refine GA.take 12 rfl (by kernel_rfl) (by kernel_rfl) (by kernel_rfl) rfl (fun a w h => h.mem (is := [1, 1]) (js := [0, 1, 2, 3, 4, 5, 6, 7, 8, 9]) rfl rfl) (i_pure (p_fieldAddr' fo_61_1 rfl)) ?_; refine GA.take 13 rfl (by kernel_rfl) (by kernel_rfl) (by kernel_rfl) rfl (fun a w h => h.mem (is := [1, 1]) (js := [0, 1, 2, 3, 4, 5, 6, 7, 8, 9]) rfl rfl) (i_mem (m_loadP (i := 0) rfl rfl ag_3 rfl)) ?_
        refine GA.take 16 rfl (by kernel_rfl) (by kernel_rfl) (by kernel_rfl) rfl (fun a w h => h.mem (is := [1, 1]) (js := [0, 1, 2, 3, 4, 5, 6, 7, 8, 9]) rfl rfl) (i_pure (p_move rfl)) ?_; refine GA.all (rs := [7]) (by kernel_rfl) (by simp) ?_
        refine GAs.cons (i := 7) rfl rfl (t_call rfl fn_126 rfl (is := []) (js := []) rfl rfl (by exact r7put_nil (gt s.rows (k : Int)).client 8 (by omega) (by omega) (by omega) (by rw [p256_8]; omega))) (by rintro a w ⟨_, _, _, ⟨A94, cp94, l94, k94, rfl, rfl, rfl⟩, h⟩; exact h.mem (is := [2, 2]) (js := [0, 1, 2, 3, 4, 5, 6, 7, 8, 9]) rfl rfl) (GA.ret ?_) ?_
        ·rintro _ _ _ ⟨A94, cp94, l94, k94, rfl, rfl, rfl⟩
         refine GA.freezeB (i := 0) rfl ?_; refine GA.all (rs := [14]) (by kernel_rfl) (by simp) ?_
         refine GAs.cons (i := 14) rfl rfl (t_call rfl fn_126 rfl (is := []) (js := [0]) rfl rfl (by exact r7put_ct _ (leN 8 (gt s.rows (k : Int)).client.toNat) _ (gt s.rows (k : Int)).serial 8 (by omega) (by omega) (by simp [leN_length]) (by omega) (by rw [p256_8]; omega))) (by rintro a w ⟨_, _, _, ⟨A101, cp101, l101, k101, rfl, rfl, rfl⟩, h⟩; exact h.mem (is := [2, 2]) (js := [1, 2, 3, 4, 5, 6, 7, 8, 9, 10]) rfl rfl) (GA.ret ?_) ?_
         ·rintro _ _ _ ⟨A101, cp101, l101, k101, rfl, rfl, rfl⟩
          refine GA.freezeB (i := 0) rfl ?_; refine GA.all (rs := [15]) (by kernel_rfl) (by simp) ?_
          refine GAs.cons (i := 15) rfl rfl (t_appendS (i := 0) (k := 0) rfl el_25 rfl rfl rfl rfl (by (try simp only [List.length_append, List.length_cons, List.length_nil, List.length_map, List.length_take, flZ_length, flI_length, leN_length]); first | omega | (have := pgs_len hr k; have := pgB_len (pg _ (gt_elem (l := s.pages) (k := k) (by omega))).2.2.2.2; omega) | (have := rws_len hr k; have := rowBy_len (rw_ _ (gt_elem (l := s.rows) (k := k) (by omega))).2.2; rw [← rowBy_eq] at this; simp only [List.length_append, leN_length] at this; omega)) (fun _ => rfl)) (by rintro a w ⟨_, h⟩; exact h.mem (is := [1, 1]) (js := [2, 3, 4, 5, 6, 7, 8, 9, 10, 11]) rfl rfl) (GA.ex fun v102 => ?_) ?_
          ·refine GA.all (rs := [17]) (by kernel_rfl) (by simp) ?_
           refine GAs.cons (i := 17) rfl rfl (t_appendS (i := 0) (k := 6) rfl el_25 rfl rfl rfl rfl (by (try simp only [List.length_append, List.length_cons, List.length_nil, List.length_map, List.length_take, flZ_length, flI_length, leN_length]); first | omega | (have := pgs_len hr k; have := pgB_len (pg _ (gt_elem (l := s.pages) (k := k) (by omega))).2.2.2.2; omega) | (have := rws_len hr k; have := rowBy_len (rw_ _ (gt_elem (l := s.rows) (k := k) (by omega))).2.2; rw [← rowBy_eq] at this; simp only [List.length_append, leN_length] at this; omega)) (fun _ => rfl)) (by rintro a w ⟨_, h⟩; exact h.mem (is := [1, 1]) (js := [2, 3, 4, 5, 6, 7, 8, 9, 10, 11]) rfl rfl) (GA.ex fun v104 => ?_) ?_
           ·refine GA.take 18 rfl (by kernel_rfl) (by kernel_rfl) (by kernel_rfl) rfl (fun a w h => h.mem (is := [1, 1]) (js := [2, 3, 4, 5, 6, 7, 8, 9, 10, 11]) rfl rfl) (i_pure (p_assign rfl)) ?_; refine GA.rowIs (i := 0) (m' := ((sttH s ++ s.pages.flatMap pgB ++ [byI (s.rows.length : Int)] ++ (s.rows.take k).flatMap rowBy ++ (leN 8 (gt s.rows (k : Int)).client.toNat ++ leN 8 (gt s.rows (k : Int)).serial.toNat ++ resB (gt s.rows (k : Int)).result))).length) (cs' := ((sttH s ++ s.pages.flatMap pgB ++ [byI (s.rows.length : Int)] ++ (s.rows.take k).flatMap rowBy ++ (leN 8 (gt s.rows (k : Int)).client.toNat ++ leN 8 (gt s.rows (k : Int)).serial.toNat ++ resB (gt s.rows (k : Int)).result))).map u8v) rfl (by first | (simp only [List.length_append, List.length_cons, List.length_nil, List.append_assoc]; done) | (simp only [List.length_append, List.length_cons, List.length_nil, List.append_assoc]; omega) | (simp [rowBy]; done) | (simp [rowBy]; omega) | rfl) (by first | (simp only [List.map_append, List.map_cons, List.map_nil, List.append_assoc]; done) | (simp [rowBy]; done) | rfl) rfl ?_
            refine GA.shape (i := 0) rfl (fun A_b c_b e_b l_b k_b => ?_)
            subst e_b
            refine GA.done (by kernel_rfl) (?_ : GC _ _ _ _)
            refine GC.region ?_; refine GL.mv_ rfl rfl ?_; refine GL.pure rfl (p_add rfl rfl (w64 (by omega) (by omega))) ?_; refine GL.as_ rfl rfl ?_; refine GL.nil ?_
            exact fun a w h => ⟨(k + 1), (A_b), (c_b), (by omega), by omega, by rw [fm_take (by omega), ← List.append_assoc, ← rowBy_eq]; exact h.cut (is := [0, 0, 0]) (js := [9, 10, 11]) ⟨rfl, rfl, rfl, trivial⟩ rfl rfl⟩
           exact GAs.nil
          exact GAs.nil
         exact GAs.nil
        exact GAs.nil)
     ·try simp only [tst_] at h2
      first
      | (exfalso; omega)
      |(skip
        refine GC.exit (?_ : GC _ _ _ _)
        refine GC.seq' ?_
        obtain rfl : k = s.rows.length := by omega
        rw [List.take_length]
        refine GC.region ?_; refine GL.mv_ rfl rfl ?_; refine GL.pure rfl (p_fieldAddr fo_39_4 rfl) ?_; refine GL.step rfl (t_mem rfl (m_loadN (i := 2) rfl rfl ag_33 (vs := [_, _]) sz_33 ⟨rfl, rfl, trivial⟩)) ?_; refine GL.step rfl (t_call rfl fn_127 rfl (is := []) (js := [2]) rfl rfl (by exact r7grp_nil s.grp _ _ gr)) (GL.ret ?_)
        rintro _ _ _ ⟨A108, cp108, l108, k108, rfl, rfl, rfl⟩
        refine GL.freezeB (i := 0) rfl ?_; refine GL.step rfl (t_appendS (i := 0) (k := 0) rfl el_25 rfl rfl rfl rfl (by (try simp only [List.length_append, List.length_cons, List.length_nil, List.length_map, List.length_take, flZ_length, flI_length, leN_length]); first | omega | (have := pgs_len hr k; have := pgB_len (pg _ (gt_elem (l := s.pages) (k := k) (by omega))).2.2.2.2; omega) | (have := rws_len hr k; have := rowBy_len (rw_ _ (gt_elem (l := s.rows) (k := k) (by omega))).2.2; rw [← rowBy_eq] at this; simp only [List.length_append, leN_length] at this; omega)) (fun _ => rfl)) (GL.ex fun v109 => ?_)
        refine GL.rowIs (i := 0) (m' := ((sttH s ++ s.pages.flatMap pgB ++ [byI (s.rows.length : Int)] ++ s.rows.flatMap rowBy ++ grpB s.grp)).length) (cs' := ((sttH s ++ s.pages.flatMap pgB ++ [byI (s.rows.length : Int)] ++ s.rows.flatMap rowBy ++ grpB s.grp)).map u8v) rfl (by first | (simp only [List.length_append, List.length_cons, List.length_nil, List.append_assoc]; done) | (simp only [List.length_append, List.length_cons, List.length_nil, List.append_assoc]; omega) | (simp [rowBy]; done) | (simp [rowBy]; omega) | rfl) (by first | (simp only [List.map_append, List.map_cons, List.map_nil, List.append_assoc]; done) | (simp [rowBy]; done) | rfl) rfl ?_
        refine GL.shape (i := 0) rfl (fun A_b c_b e_b l_b k_b => ?_)
        subst e_b
        refine GL.as_ rfl rfl ?_
        refine GL.nil (?_ : GC _ _ _ _)
        iterate 2 refine GC.seq' ?_
        have hsb : (sttH s ++ s.pages.flatMap pgB ++ [byI (s.rows.length : Int)] ++ s.rows.flatMap rowBy ++ grpB s.grp).length = (sttB s).length := rfl
        refine GC.region ?_; refine GL.mv_ rfl rfl ?_; refine GL.pure rfl (p_len Tryz.underlying25 rfl) ?_; refine GL.pure rfl (p_gtr rfl rfl) ?_
        refine GL.nil (?_ : GC _ _ _ _)
        refine GC.cond rfl (fun h3 => ?_) (fun h3 => ?_)
        ·try simp only [tst_] at h3
         first
         | (exfalso; omega)
         |(skip
           refine GC.sr_ ?_
           iterate 2 refine GL.as_ rfl rfl ?_
           refine GL.nl_ ?_; refine GC.ret ?_
           refine fun a w h => Fin.back (rs := [.tmp 2, .tmp 3]) (vs := [_, _]) (is := []) (js := []) rfl ⟨rfl, rfl, trivial⟩ rfl rfl ?_ h
           clear h
           exact .inr ⟨by omega, rfl, rfl, rfl⟩)
        ·try simp only [tst_] at h3
         first
         | (exfalso; omega)
         |(skip
           refine GC.skip (?_ : GC _ _ _ _)
           refine GC.sr_ ?_; refine GL.mv_ rfl rfl ?_
           iterate 2 refine GL.as_ rfl rfl ?_
           refine GL.nl_ ?_; refine GC.ret ?_
           refine fun a w h => Fin.back (rs := [.tmp 2, .tmp 3]) (vs := [_, _]) (is := [0]) (js := []) rfl ⟨rfl, rfl, trivial⟩ rfl rfl ?_ h
           clear h
           exact .inl ⟨by omega, _, _, l_b, k_b, rfl, rfl, rfl⟩)))
theorem rencstt_ok (s : Stt) (A : Option Addr) (cp : Nat) (B : Option Addr) (cq : Nat) (C : Option Addr) (cr : Nat) (hs : SttLen s) (hh : heldOk s) (hl : (sttB s).length ≤ 33554432) : Ct Tryz.prog 89 [sttV s A cp B cq C cr] [] (sttQ s A B C)
    (fun u G Q => ∃ A' cp', (sttB s).length ≤ cp' ∧ cp' ≤ 9223372036854775807 ∧ u = .tuple #[.slice A' (sttB s).length cp', .int .i64 0] ∧ G = [rowOf A' cp' (sttB s)] ∧ Q = []) :=
  Ct.mono (rencstt_all s A cp B cq C cr hs hh) fun u G Q h => h.elim (fun h => h.2) (fun h => by omega)
theorem rencstt_long (s : Stt) (A : Option Addr) (cp : Nat) (B : Option Addr) (cq : Nat) (C : Option Addr) (cr : Nat) (hs : SttLen s) (hh : heldOk s) (hl : 33554432 < (sttB s).length) : Ct Tryz.prog 89 [sttV s A cp B cq C cr] [] (sttQ s A B C)
    (fun u G Q => u = .tuple #[.slice none 0 0, .int .i64 2] ∧ G = [] ∧ Q = []) :=
  Ct.mono (rencstt_all s A cp B cq C cr hs hh) fun u G Q h => h.elim (fun h => by omega) (fun h => h.2)
end Go.Proofs.YtdhdmbmknpjhbaaGreat
namespace Go.Proofs.YtdhdmbmknpjhbaaGreat
open Go Go.Sx Go.Proofs
def u64 (x : Int) : Nat := (x % 18446744073709551616).toNat
theorem u64_lt (x : Int) : u64 x < 18446744073709551616 := by unfold u64; omega
theorem cvU64 (x : Int) : IntKind.u64.wrap x = ((u64 x : Nat) : Int) := cvU' x
theorem u64_eq {x : Int} (h : 0 ≤ x) (h' : x < 18446744073709551616) : x = ((u64 x : Nat) : Int) := by unfold u64; omega
theorem partsN_rng (m : Msg) : 0 ≤ partsN m ∧ partsN m < 256 := by
  unfold partsN pbit
  repeat' split
  all_goals omega
theorem flZ1 (l : List Int) (h : ∀ x ∈ l, 0 ≤ x ∧ x < 256) : flZ 1 l = l.map byI := by
  unfold flZ
  induction l with
  | nil => rfl
  | cons x r ih =>
    have hx := h x (List.mem_cons_self ..)
    rw [List.flatMap_cons, ih fun y hy => h y (List.mem_cons_of_mem _ hy), List.map_cons]
    have : x.toNat % 256 = x.toNat := by omega
    simp [leN, byI, this]
def pO (m : Msg) : List UInt8 := if m.op = zop then [] else opB m.op
def pR (m : Msg) : List UInt8 := if m.res = rz then [] else resB m.res
def pG (m : Msg) : List UInt8 := if m.grp = zgr then [] else grpB m.grp
def pS (m : Msg) : List UInt8 := if m.stt = zst then [] else sttB m.stt
def hdB (m : Msg) : List UInt8 := [byI m.kind] ++ flI 8 [u64 m.src, u64 m.dst, u64 m.epoch, u64 m.view, u64 m.num, u64 m.commit, u64 m.normal, u64 m.nonce, u64 m.client, u64 m.serial] ++ [byI (partsN m)]
def preB (m : Msg) : List UInt8 := hdB m ++ pO m ++ pR m ++ pG m ++ pS m ++ leN 4 m.log.length
def bodyB (m : Msg) : List UInt8 := preB m ++ m.log.flatMap entB
structure MsgR (m : Msg) : Prop where
  kind : 1 ≤ m.kind ∧ m.kind ≤ 14
  op : ¬ m.op = zop → formD m.op
  res : ¬ m.res = rz → resOk m.res.code m.res.data.length = true
  grp : ¬ m.grp = zgr → groupOk m.grp.epoch m.grp.members = true
  stt : ¬ m.stt = zst → heldOk m.stt
  log : ∀ e ∈ m.log, entOk e
theorem msg_rng {m : Msg} (h : msgOk m) : MsgR m := by
  obtain ⟨h1, h2, h3, h4, h5, ⟨g1, g2, g3, g4⟩, h7⟩ := h
  refine ⟨⟨h2, h3⟩, g1.resolve_left, g2.resolve_left, g3.resolve_left, g4.resolve_left, fun e he => ?_⟩
  obtain ⟨j, hj, rfl⟩ := mem_gt he
  exact (h7 j hj).1
theorem hdB_len (m : Msg) : (hdB m).length = 82 := by simp [hdB, flI_length]
theorem pO_len {m : Msg} (h : MsgR m) : (pO m).length ≤ 300000 := by
  unfold pO; split
  · simp
  · exact opB_len (h.op (by assumption))
theorem pR_len {m : Msg} (h : MsgR m) : (pR m).length ≤ 300000 := by
  unfold pR; split
  · simp
  · exact resB_len (h.res (by assumption))
theorem pG_len {m : Msg} (h : MsgR m) : (pG m).length ≤ 100 := by
  unfold pG; split
  · simp
  · exact grpB_len (h.grp (by assumption))
theorem sttB_len {s : Stt} (h : heldOk s) : (sttB s).length ≤ 100000000 := by
  have hr := held_rng h
  have := pgs_all hr
  have := rws_all hr
  have := grpB_len hr.gr
  have := sttH_len s
  simp only [sttB, List.length_append, List.length_cons, List.length_nil]; omega
theorem pS_len {m : Msg} (h : MsgR m) : (pS m).length ≤ 100000000 := by
  unfold pS; split
  · simp
  · exact sttB_len (h.stt (by assumption))
theorem preB_len {m : Msg} (h : MsgR m) : (preB m).length ≤ 200000000 := by
  have := hdB_len m
  have := pO_len h
  have := pR_len h
  have := pG_len h
  have := pS_len h
  simp only [preB, List.length_append, leN_length]; omega
theorem log_len {m : Msg} (h : MsgR m) (k : Nat) : ((m.log.take k).flatMap entB).length ≤ k * 400000 := by
  have := fm_len (f := entB) (n := 400000) (l := m.log.take k) fun x hx => entB_len (h.log x (List.mem_of_mem_take hx))
  rw [List.length_take] at this
  exact Nat.le_trans this (Nat.mul_le_mul_right _ (by omega))
theorem body_ge {m : Msg} {k : Nat} (hk : k ≤ m.log.length) : (preB m).length + ((m.log.take k).flatMap entB).length ≤ (bodyB m).length := by
  have e : m.log.flatMap entB = (m.log.take k).flatMap entB ++ (m.log.drop k).flatMap entB := by rw [← List.flatMap_append, List.take_append_drop]
  rw [bodyB, e]; simp only [List.length_append]; omega
theorem body_ge' {m : Msg} {k : Nat} (hk : k < m.log.length) : (preB m).length + ((m.log.take k).flatMap entB).length + (entB (gt m.log (k : Int))).length ≤ (bodyB m).length := by
  have := body_ge (m := m) (k := k + 1) (by omega)
  rw [fm_take hk, List.length_append] at this
  omega
theorem pS_body (m : Msg) : (pS m).length ≤ (bodyB m).length := by simp only [bodyB, preB, List.length_append]; omega
theorem putall_nil (n : Nat) (L : Option Addr) (l : List Nat) (cl : Nat) (hn : 1 ≤ n) (hn' : n ≤ 8) (hb : 8 * l.length ≤ 100000000000000) (hl : ∀ x ∈ l, x < 256 ^ n) : Ct Tryz.prog 76 [.slice none 0 0, .int .i64 (n : Int), .slice L l.length cl] [] [Pers.row kU L l]
    (fun u G Q => ∃ A' cp', (flI n l).length ≤ cp' ∧ cp' ≤ 9223372036854775807 ∧ u = .tuple #[.slice A' (flI n l).length cp', .int .i64 0] ∧ G = [rowOf A' cp' (flI n l)] ∧ Q = []) :=
  Ct.free (putall_ct none [] 0 n L l cl hn hn' (by simpa using hb) hl) nil8
theorem flI_flZ {x : Int} (h : 0 ≤ x) (h' : x < 18446744073709551616) : flI 8 [u64 x] = flZ 8 [x] := by
  have : u64 x = x.toNat := by unfold u64; omega
  simp [flI, flZ, this]
set_option maxHeartbeats 2000000 in
theorem wbody_all (m : Msg) (s : Lie) (hm : MsgLen m) (hok : msgOk m) (hn : 0 ≤ m.nonce ∧ m.nonce < 18446744073709551616) (hlog : m.log.length < 100000) : Ct Tryz.prog 45 [msgV m s] [] (msgQ m s)
    (fun u G Q => ((bodyB m).length ≤ 16777216 ∧ ∃ A cp, (bodyB m).length ≤ cp ∧ cp ≤ 9223372036854775807 ∧ u = .tuple #[.slice A (bodyB m).length cp, .bool true] ∧ G = [rowOf A cp (bodyB m)] ∧ Q = []) ∨ (16777216 < (bodyB m).length ∧ (∃ A n cp, u = .tuple #[.slice A n cp, .bool false]) ∧ G = [] ∧ Q = [])) := by
 have hr := msg_rng hok
 have hpn := partsN_rng m
 have hk := hr.kind
 have l0 := hdB_len m
 have l1 := pO_len hr
 have l2 := pR_len hr
 have l3 := pG_len hr
 have l4 := pS_len hr
 have l5 := preB_len hr
 have lS := pS_body m
 refine Ct.intro Tryz.func45 rfl rfl rfl (fun c hc => ?_)
 refine GC.sr_ ?_; refine GL.step rfl (t_box rfl rfl rfl) (GL.ex fun b_t1 => ?_)
 iterate 2 refine GL.as_ rfl rfl ?_
 refine GL.nl_ ?_; refine GC.sr_ ?_; refine GL.step rfl (t_mem rfl (m_loadN (i := 0) rfl rfl ag_42 (vs := [_, _, _, _, _, _, _, _, _, _, _, _, _, _, _, _, _, _, _, _, _, _, _, _, _, _, _, _]) sz_42 ⟨rfl, rfl, rfl, rfl, rfl, rfl, rfl, rfl, rfl, rfl, rfl, rfl, rfl, rfl, rfl, rfl, rfl, rfl, rfl, rfl, rfl, rfl, rfl, rfl, rfl, rfl, rfl, rfl, trivial⟩)) ?_
 refine GL.step rfl (t_call rfl fn_59 rfl (is := []) (js := [0, 1, 2, 3, 4, 5, 6, 7]) rfl rfl (by exact parts_ct m s hm)) (GL.ret ?_)
 rintro _ _ _ ⟨rfl, rfl, rfl⟩
 refine GL.as_ rfl rfl ?_; refine GL.nl_ ?_; refine GC.sr_ ?_; refine GL.pure rfl (p_fieldAddr fo_42_0 rfl) ?_; refine GL.step rfl (t_mem rfl (m_load (i := 0) rfl rfl ag_22 rfl)) ?_; refine GL.reval 18 rfl (congrArg (Value.int .u8) (byI_eq (by omega) (by omega))) ?_
 refine GL.step rfl (t_buildSlice rfl Tryz.underlying25 sz_5 ze_5 rfl rfl rfl rfl rfl rfl) (GL.ex fun b_t19 => ?_); refine GL.pure rfl (p_fieldAddr fo_42_1 rfl) ?_; refine GL.step rfl (t_mem rfl (m_load (i := 1) rfl rfl ag_3 rfl)) ?_
 refine GL.pure rfl (p_convR (t := 3) (by rw [Tryz.underlying3]; simp) Tryz.underlying23 rfl (cvU64 m.src)) ?_; refine GL.pure rfl (p_fieldAddr fo_42_2 rfl) ?_; refine GL.step rfl (t_mem rfl (m_load (i := 1) rfl rfl ag_3 rfl)) ?_
 refine GL.pure rfl (p_convR (t := 3) (by rw [Tryz.underlying3]; simp) Tryz.underlying23 rfl (cvU64 m.dst)) ?_; refine GL.pure rfl (p_fieldAddr fo_42_3 rfl) ?_; refine GL.step rfl (t_mem rfl (m_load (i := 1) rfl rfl ag_3 rfl)) ?_
 refine GL.pure rfl (p_convR (t := 3) (by rw [Tryz.underlying3]; simp) Tryz.underlying23 rfl (cvU64 m.epoch)) ?_; refine GL.pure rfl (p_fieldAddr fo_42_4 rfl) ?_; refine GL.step rfl (t_mem rfl (m_load (i := 1) rfl rfl ag_3 rfl)) ?_
 refine GL.pure rfl (p_convR (t := 3) (by rw [Tryz.underlying3]; simp) Tryz.underlying23 rfl (cvU64 m.view)) ?_; refine GL.pure rfl (p_fieldAddr fo_42_5 rfl) ?_; refine GL.step rfl (t_mem rfl (m_load (i := 1) rfl rfl ag_3 rfl)) ?_
 refine GL.pure rfl (p_convR (t := 3) (by rw [Tryz.underlying3]; simp) Tryz.underlying23 rfl (cvU64 m.num)) ?_; refine GL.pure rfl (p_fieldAddr fo_42_6 rfl) ?_; refine GL.step rfl (t_mem rfl (m_load (i := 1) rfl rfl ag_3 rfl)) ?_
 refine GL.pure rfl (p_convR (t := 3) (by rw [Tryz.underlying3]; simp) Tryz.underlying23 rfl (cvU64 m.commit)) ?_; refine GL.pure rfl (p_fieldAddr fo_42_7 rfl) ?_; refine GL.step rfl (t_mem rfl (m_load (i := 1) rfl rfl ag_3 rfl)) ?_
 refine GL.pure rfl (p_convR (t := 3) (by rw [Tryz.underlying3]; simp) Tryz.underlying23 rfl (cvU64 m.normal)) ?_; refine GL.pure rfl (p_fieldAddr fo_42_8 rfl) ?_; refine GL.step rfl (t_mem rfl (m_load (i := 1) rfl rfl ag_23 rfl)) ?_
 refine GL.reval 42 rfl (congrArg (Value.int .u64) (u64_eq hn.1 hn.2)) ?_; refine GL.pure rfl (p_fieldAddr fo_42_9 rfl) ?_; refine GL.step rfl (t_mem rfl (m_load (i := 1) rfl rfl ag_3 rfl)) ?_; refine GL.pure rfl (p_convR (t := 3) (by rw [Tryz.underlying3]; simp) Tryz.underlying23 rfl (cvU64 m.client)) ?_
 refine GL.pure rfl (p_fieldAddr fo_42_10 rfl) ?_; refine GL.step rfl (t_mem rfl (m_load (i := 1) rfl rfl ag_3 rfl)) ?_; refine GL.pure rfl (p_convR (t := 3) (by rw [Tryz.underlying3]; simp) Tryz.underlying23 rfl (cvU64 m.serial)) ?_
 refine GL.step rfl (t_buildSlice rfl Tryz.underlying126 sz_23 ze_23 rfl rfl rfl rfl rfl rfl) (GL.ex fun b_t49 => ?_); refine GL.freezeC (enc := u8v) (xs := [byI m.kind]) (h1 := fun _ => rfl) (i := 1) rfl ?_; refine GL.freezeC (enc := uv) (xs := [u64 m.src, u64 m.dst, u64 m.epoch, u64 m.view, u64 m.num, u64 m.commit, u64 m.normal, u64 m.nonce, u64 m.client, u64 m.serial]) (h1 := fun _ => rfl) (i := 0) rfl ?_
 refine GL.step rfl (t_call rfl fn_76 rfl (is := []) (js := [1, 0]) rfl rfl (by exact putall_ct _ [byI m.kind] _ 8 _ [u64 m.src, u64 m.dst, u64 m.epoch, u64 m.view, u64 m.num, u64 m.commit, u64 m.normal, u64 m.nonce, u64 m.client, u64 m.serial] _ (by omega) (by omega) (by simp) (by rw [p256_8]; intro x hx; simp only [List.mem_cons, List.not_mem_nil, or_false] at hx; rcases hx with rfl | rfl | rfl | rfl | rfl | rfl | rfl | rfl | rfl | rfl <;> exact u64_lt _))) (GL.ret ?_)
 rintro _ _ _ ⟨A50, cp50, l50, k50, rfl, rfl, rfl⟩
 refine GL.mv_ rfl rfl ?_
 iterate 2 refine GL.pure rfl (p_extract rfl rfl) ?_
 iterate 2 refine GL.as_ rfl rfl ?_
 refine GL.nl_ ?_; refine GC.sr_ ?_
 iterate 2 refine GL.mv_ rfl rfl ?_
 refine GL.reval 54 rfl (congrArg (Value.int .u8) (byI_eq hpn.1 hpn.2)) ?_; refine GL.step rfl (t_buildSlice rfl Tryz.underlying25 sz_5 ze_5 rfl rfl rfl rfl rfl rfl) (GL.ex fun b_t55 => ?_); refine GL.step rfl (t_append (i := 1) (k := 0) rfl el_25 rfl rfl rfl rfl rfl (allOne_mem rfl) (by (try simp only [List.length_append, List.length_cons, List.length_nil, List.length_map, List.length_take, flZ_length, flI_length, leN_length]); first | omega | (have := opB_len (hr.op (by assumption)); omega) | (have := resB_len (hr.res (by assumption)); omega) | (have := grp_rng (hr.grp (by assumption)); omega) | (have := sttB_len (hr.stt (by assumption)); omega) | (have := log_len hr k; have := entB_len (hr.log _ (gt_elem (l := m.log) (k := k) (by omega))); have : k * 400000 ≤ 100000 * 400000 := Nat.mul_le_mul_right _ (by omega); omega)) (fun _ => rfl)) (GL.ex fun v56 => ?_)
 refine GL.rowIs (i := 1) (m' := ((hdB m)).length) (cs' := ((hdB m)).map u8v) rfl (by first | (simp only [List.length_append, List.length_cons, List.length_nil, List.append_assoc]; done) | (simp only [List.length_append, List.length_cons, List.length_nil, List.append_assoc]; omega) | (simp [leN_length, flI_length, hdB]; done) | (simp [leN_length, flI_length, hdB]; omega) | rfl) (by first | (simp only [List.map_append, List.map_cons, List.map_nil, List.append_assoc]; done) | (simp [leN_length, flI_length, hdB]; done) | rfl) rfl ?_
 refine GL.shape (i := 1) rfl (fun A_pa50 c_pa50 e_pa50 l_pa50 k_pa50 => ?_)
 subst e_pa50
 refine GL.as_ rfl rfl ?_; refine GL.nl_ ?_; refine GC.sr_ ?_; refine GL.as_ rfl rfl ?_; refine GL.nl_ ?_; refine GC.joinK2 (ks := [1, 4]) (is := [0, 2]) (js := [0, 1, 2, 3, 4, 5, 6, 7, 8, 9]) (fun (A1 : Option Addr) (c1 : Nat) => True) (fun (A1 : Option Addr) (c1 : Nat) => [(5, .slice A1 (hdB m ++ pO m).length c1)]) (fun (A1 : Option Addr) (c1 : Nat) => [rowOf A1 c1 (hdB m ++ pO m)]) (fun (A1 : Option Addr) (c1 : Nat) => []) rfl rfl rfl ?_ ?_
 ·refine GC.sr_ ?_; refine GL.mv_ rfl rfl ?_; refine GL.pure rfl (p_andR rfl rfl (and_b1 _ _ _ _)) ?_; refine GL.pure rfl (p_neq rfl rfl) ?_; refine GL.nl_ ?_; refine GC.cond rfl (fun h1 => ?_) (fun h1 => ?_)
  ·try simp only [tst_, bi1, bi2, bi4, bi8] at h1
   refine GC.sr_ ?_; refine GL.pure rfl (p_fieldAddr fo_42_11 rfl) ?_; refine GL.step rfl (t_mem rfl (m_loadN (i := 2) rfl rfl ag_27 (vs := [_, _, _, _, _]) sz_27 ⟨rfl, rfl, rfl, rfl, rfl, trivial⟩)) ?_; refine GL.step rfl (t_call rfl fn_77 rfl (is := []) (js := [2, 3]) rfl rfl (by exact encop_ct m.op _ _ _ _ (hr.op (by assumption)))) (GL.ret ?_)
   rintro _ _ _ ⟨A63, cp63, l63, k63, rfl, rfl, rfl⟩
   refine GL.mv_ rfl rfl ?_
   iterate 2 refine GL.pure rfl (p_extract rfl rfl) ?_
   refine GL.as_ rfl rfl ?_; refine GL.nl_ ?_; refine GC.region ?_
   iterate 2 refine GL.mv_ rfl rfl ?_
   refine GL.freezeB (i := 0) rfl ?_; refine GL.step rfl (t_appendS (i := 1) (k := 0) rfl el_25 rfl rfl rfl rfl (by (try simp only [List.length_append, List.length_cons, List.length_nil, List.length_map, List.length_take, flZ_length, flI_length, leN_length]); first | omega | (have := opB_len (hr.op (by assumption)); omega) | (have := resB_len (hr.res (by assumption)); omega) | (have := grp_rng (hr.grp (by assumption)); omega) | (have := sttB_len (hr.stt (by assumption)); omega) | (have := log_len hr k; have := entB_len (hr.log _ (gt_elem (l := m.log) (k := k) (by omega))); have : k * 400000 ≤ 100000 * 400000 := Nat.mul_le_mul_right _ (by omega); omega)) (fun _ => rfl)) (GL.ex fun v68 => ?_)
   refine GL.rowIs (i := 1) (m' := ((hdB m ++ opB m.op)).length) (cs' := ((hdB m ++ opB m.op)).map u8v) rfl (by first | (simp only [List.length_append, List.length_cons, List.length_nil, List.append_assoc]; done) | (simp only [List.length_append, List.length_cons, List.length_nil, List.append_assoc]; omega) | (simp [leN_length, flI_length, hdB]; done) | (simp [leN_length, flI_length, hdB]; omega) | rfl) (by first | (simp only [List.map_append, List.map_cons, List.map_nil, List.append_assoc]; done) | (simp [leN_length, flI_length, hdB]; done) | rfl) rfl ?_
   refine GL.shape (i := 1) rfl (fun A_pa50 c_pa50 e_pa50 l_pa50 k_pa50 => ?_)
   subst e_pa50
   refine GL.as_ rfl rfl ?_; refine GL.nil ?_
   exact fun a w h => ⟨(A_pa50), (c_pa50), trivial, by rw [show pO m = opB m.op from if_neg (by assumption)]; exact h.cut (is := [1, 0, 0]) (js := [1, 2, 3, 4, 5, 6, 7, 8, 9, 10]) ⟨rfl, rfl, rfl, trivial⟩ rfl rfl⟩
  ·try simp only [tst_, bi1, bi2, bi4, bi8] at h1
   refine GC.skip ?_
   exact fun a w h => ⟨(A_pa50), (c_pa50), trivial, by rw [show pO m = [] from if_pos (by assumption), List.append_nil]; exact h.cut (is := [1, 0, 0]) (js := [0, 1, 2, 3, 4, 5, 6, 7, 8, 9]) ⟨rfl, rfl, rfl, trivial⟩ rfl rfl⟩
 ·intro A1 c1 hj5
  try dsimp only [List.cons_append, List.nil_append] at hj5 ⊢
  refine GC.joinK2 (ks := [1, 4]) (is := [1, 2]) (js := [0, 1, 2, 3, 4, 5, 6, 7, 8, 9]) (fun (A1 : Option Addr) (c1 : Nat) => True) (fun (A1 : Option Addr) (c1 : Nat) => [(5, .slice A1 (hdB m ++ pO m ++ pR m).length c1)]) (fun (A1 : Option Addr) (c1 : Nat) => [rowOf A1 c1 (hdB m ++ pO m ++ pR m)]) (fun (A1 : Option Addr) (c1 : Nat) => []) rfl rfl rfl ?_ ?_
  ·refine GC.sr_ ?_; refine GL.mv_ rfl rfl ?_; refine GL.pure rfl (p_andR rfl rfl (and_b2 _ _ _ _)) ?_; refine GL.pure rfl (p_neq rfl rfl) ?_; refine GL.nl_ ?_; refine GC.cond rfl (fun h2 => ?_) (fun h2 => ?_)
   ·try simp only [tst_, bi1, bi2, bi4, bi8] at h2
    refine GC.sr_ ?_; refine GL.pure rfl (p_fieldAddr fo_42_12 rfl) ?_; refine GL.step rfl (t_mem rfl (m_loadN (i := 2) rfl rfl ag_30 (vs := [_, _]) sz_30 ⟨rfl, rfl, trivial⟩)) ?_; refine GL.step rfl (t_call rfl fn_78 rfl (is := []) (js := [4]) rfl rfl (by exact encres_ct m.res _ _ (hr.res (by assumption)))) (GL.ret ?_)
    rintro _ _ _ ⟨A75, cp75, l75, k75, rfl, rfl, rfl⟩
    refine GL.mv_ rfl rfl ?_
    iterate 2 refine GL.pure rfl (p_extract rfl rfl) ?_
    refine GL.as_ rfl rfl ?_; refine GL.nl_ ?_; refine GC.region ?_
    iterate 2 refine GL.mv_ rfl rfl ?_
    refine GL.freezeB (i := 0) rfl ?_; refine GL.step rfl (t_appendS (i := 0) (k := 0) rfl el_25 rfl rfl rfl rfl (by (try simp only [List.length_append, List.length_cons, List.length_nil, List.length_map, List.length_take, flZ_length, flI_length, leN_length]); first | omega | (have := opB_len (hr.op (by assumption)); omega) | (have := resB_len (hr.res (by assumption)); omega) | (have := grp_rng (hr.grp (by assumption)); omega) | (have := sttB_len (hr.stt (by assumption)); omega) | (have := log_len hr k; have := entB_len (hr.log _ (gt_elem (l := m.log) (k := k) (by omega))); have : k * 400000 ≤ 100000 * 400000 := Nat.mul_le_mul_right _ (by omega); omega)) (fun _ => rfl)) (GL.ex fun v80 => ?_)
    refine GL.rowIs (i := 0) (m' := ((hdB m ++ pO m ++ resB m.res)).length) (cs' := ((hdB m ++ pO m ++ resB m.res)).map u8v) rfl (by first | (simp only [List.length_append, List.length_cons, List.length_nil, List.append_assoc]; done) | (simp only [List.length_append, List.length_cons, List.length_nil, List.append_assoc]; omega) | (simp [leN_length, flI_length, hdB]; done) | (simp [leN_length, flI_length, hdB]; omega) | rfl) (by first | (simp only [List.map_append, List.map_cons, List.map_nil, List.append_assoc]; done) | (simp [leN_length, flI_length, hdB]; done) | rfl) rfl ?_
    refine GL.shape (i := 0) rfl (fun A_b c_b e_b l_b k_b => ?_)
    subst e_b
    refine GL.as_ rfl rfl ?_; refine GL.nil ?_
    exact fun a w h => ⟨(A_b), (c_b), trivial, by rw [show pR m = resB m.res from if_neg (by assumption)]; exact h.cut (is := [0, 0, 0]) (js := [1, 2, 3, 4, 5, 6, 7, 8, 9, 10]) ⟨rfl, rfl, rfl, trivial⟩ rfl rfl⟩
   ·try simp only [tst_, bi1, bi2, bi4, bi8] at h2
    refine GC.skip ?_
    exact fun a w h => ⟨(_), (_), trivial, by rw [show pR m = [] from if_pos (by assumption), List.append_nil]; exact h.cut (is := [0, 0, 0]) (js := [0, 1, 2, 3, 4, 5, 6, 7, 8, 9]) ⟨rfl, rfl, rfl, trivial⟩ rfl rfl⟩
  ·intro A1 c1 hj8
   try dsimp only [List.cons_append, List.nil_append] at hj8 ⊢
   refine GC.joinK2 (ks := [1, 4]) (is := [1, 2]) (js := [0, 1, 2, 3, 4, 5, 6, 7, 8, 9]) (fun (A1 : Option Addr) (c1 : Nat) => True) (fun (A1 : Option Addr) (c1 : Nat) => [(5, .slice A1 (hdB m ++ pO m ++ pR m ++ pG m).length c1)]) (fun (A1 : Option Addr) (c1 : Nat) => [rowOf A1 c1 (hdB m ++ pO m ++ pR m ++ pG m)]) (fun (A1 : Option Addr) (c1 : Nat) => []) rfl rfl rfl ?_ ?_
   ·refine GC.sr_ ?_; refine GL.mv_ rfl rfl ?_; refine GL.pure rfl (p_andR rfl rfl (and_b4 _ _ _ _)) ?_; refine GL.pure rfl (p_neq rfl rfl) ?_; refine GL.nl_ ?_; refine GC.cond rfl (fun h3 => ?_) (fun h3 => ?_)
    ·try simp only [tst_, bi1, bi2, bi4, bi8] at h3
     refine GC.seq' ?_
     have gr := grp_rng (hr.grp (by assumption))
     refine GC.region ?_; refine GL.pure rfl (p_fieldAddr fo_42_13 rfl) ?_; refine GL.pure rfl (p_fieldAddr fo_33_0 rfl) ?_; refine GL.step rfl (t_mem rfl (m_load (i := 2) rfl rfl ag_3 rfl)) ?_; refine GL.pure rfl (p_convR (t := 3) (by rw [Tryz.underlying3]; simp) Tryz.underlying23 rfl (cvU64 m.grp.epoch)) ?_
     refine GL.step rfl (t_buildSlice rfl Tryz.underlying126 sz_23 ze_23 rfl rfl rfl rfl rfl rfl) (GL.ex fun b_t89 => ?_); refine GL.freezeC (enc := uv) (xs := [u64 m.grp.epoch]) (h1 := fun _ => rfl) (i := 0) rfl ?_; refine GL.step rfl (t_call rfl fn_76 rfl (is := []) (js := [0]) rfl rfl (by exact putall_nil 8 _ [u64 m.grp.epoch] _ (by omega) (by omega) (by simp) (by rw [p256_8]; intro x hx; simp at hx; subst hx; exact u64_lt _))) (GL.ret ?_)
     rintro _ _ _ ⟨A90, cp90, l90, k90, rfl, rfl, rfl⟩
     refine GL.mv_ rfl rfl ?_
     iterate 2 refine GL.pure rfl (p_extract rfl rfl) ?_
     refine GL.as_ rfl rfl ?_
     refine GL.nil (?_ : GC _ _ _ _)
     refine GC.seq' ?_; refine GC.freezeB (i := 0) rfl ?_; refine GC.regionC (m := 11) (is := [1, 1]) (js := [0, 1, 2, 3, 4, 5, 6, 7, 8, 9, 10, 11]) wide_ rfl rfl rfl ?_; refine GA.take 0 rfl (by kernel_rfl) (by kernel_rfl) (by kernel_rfl) rfl (fun a w h => h.mem (is := [1, 1]) (js := [0, 1, 2, 3, 4, 5, 6, 7, 8, 9, 10, 11]) rfl rfl) (i_pure (p_move rfl)) ?_
     refine GA.take 1 rfl (by kernel_rfl) (by kernel_rfl) (by kernel_rfl) rfl (fun a w h => h.mem (is := [1, 1]) (js := [0, 1, 2, 3, 4, 5, 6, 7, 8, 9, 10, 11]) rfl rfl) (i_pure (p_move rfl)) ?_; refine GA.take 3 rfl (by kernel_rfl) (by kernel_rfl) (by kernel_rfl) rfl (fun a w h => h.mem (is := [1, 1]) (js := [0, 1, 2, 3, 4, 5, 6, 7, 8, 9, 10, 11]) rfl rfl) (i_pure (p_fieldAddr fo_42_13 rfl)) ?_
     refine GA.take 4 rfl (by kernel_rfl) (by kernel_rfl) (by kernel_rfl) rfl (fun a w h => h.mem (is := [1, 1]) (js := [0, 1, 2, 3, 4, 5, 6, 7, 8, 9, 10, 11]) rfl rfl) (i_pure (p_fieldAddr fo_33_1 rfl)) ?_; refine GA.take 5 rfl (by kernel_rfl) (by kernel_rfl) (by kernel_rfl) rfl (fun a w h => h.mem (is := [1, 1]) (js := [0, 1, 2, 3, 4, 5, 6, 7, 8, 9, 10, 11]) rfl rfl) (i_mem (m_load (i := 1) rfl rfl ag_31 rfl)) ?_
     refine GA.take 6 rfl (by kernel_rfl) (by kernel_rfl) (by kernel_rfl) rfl (fun a w h => h.mem (is := [1, 1]) (js := [0, 1, 2, 3, 4, 5, 6, 7, 8, 9, 10, 11]) rfl rfl) (i_pure (p_len Tryz.underlying31 rfl)) ?_; refine GA.take 7 rfl (by kernel_rfl) (by kernel_rfl) (by kernel_rfl) rfl (fun a w h => h.mem (is := [1, 1]) (js := [0, 1, 2, 3, 4, 5, 6, 7, 8, 9, 10, 11]) rfl rfl) (i_pure (p_convR (t := 3) (r := (((byI (m.grp.members.length : Int)).toNat : Nat) : Int)) (by rw [Tryz.underlying3]; simp) Tryz.underlying5 rfl (cv8 (by omega) (by omega)))) ?_
     refine GA.all (rs := [2, 8]) (by kernel_rfl) (by simp) ?_
     refine GAs.cons (i := 2) rfl rfl (t_appendS (i := 0) (k := 0) rfl el_25 rfl rfl rfl rfl (by (try simp only [List.length_append, List.length_cons, List.length_nil, List.length_map, List.length_take, flZ_length, flI_length, leN_length]); first | omega | (have := opB_len (hr.op (by assumption)); omega) | (have := resB_len (hr.res (by assumption)); omega) | (have := grp_rng (hr.grp (by assumption)); omega) | (have := sttB_len (hr.stt (by assumption)); omega) | (have := log_len hr k; have := entB_len (hr.log _ (gt_elem (l := m.log) (k := k) (by omega))); have : k * 400000 ≤ 100000 * 400000 := Nat.mul_le_mul_right _ (by omega); omega)) (fun _ => rfl)) (by rintro a w ⟨_, h⟩; exact h.mem (is := [1, 1]) (js := [0, 1, 2, 3, 4, 5, 6, 7, 8, 9, 10, 11]) rfl rfl) (GA.ex fun v95 => ?_) ?_
     ·refine GA.all (rs := [8]) (by kernel_rfl) (by simp) ?_
      refine GAs.cons (i := 8) rfl rfl (t_buildSlice rfl Tryz.underlying25 sz_5 ze_5 rfl rfl rfl rfl rfl rfl) (by rintro a w ⟨_, h⟩; exact h.mem (is := [2, 2]) (js := [0, 1, 2, 3, 4, 5, 6, 7, 8, 9, 10, 11]) rfl rfl) (GA.ex fun b_t101 => ?_) ?_
      ·refine GA.all (rs := [9]) (by kernel_rfl) (by simp) ?_
       refine GAs.cons (i := 9) rfl rfl (t_append (i := 1) (k := 0) rfl el_25 rfl rfl rfl rfl rfl (allOne_mem rfl) (by (try simp only [List.length_append, List.length_cons, List.length_nil, List.length_map, List.length_take, flZ_length, flI_length, leN_length]); first | omega | (have := opB_len (hr.op (by assumption)); omega) | (have := resB_len (hr.res (by assumption)); omega) | (have := grp_rng (hr.grp (by assumption)); omega) | (have := sttB_len (hr.stt (by assumption)); omega) | (have := log_len hr k; have := entB_len (hr.log _ (gt_elem (l := m.log) (k := k) (by omega))); have : k * 400000 ≤ 100000 * 400000 := Nat.mul_le_mul_right _ (by omega); omega)) (fun _ => rfl)) (by rintro a w ⟨_, h⟩; exact h.mem (is := [2, 2]) (js := [0, 1, 2, 3, 4, 5, 6, 7, 8, 9, 10, 11]) rfl rfl) (GA.ex fun v102 => ?_) ?_
       ·refine GA.take 10 rfl (by kernel_rfl) (by kernel_rfl) (by kernel_rfl) rfl (fun a w h => h.mem (is := [2, 2]) (js := [0, 1, 2, 3, 4, 5, 6, 7, 8, 9, 10, 11]) rfl rfl) (i_pure (p_assign rfl)) ?_; refine GA.rowIs (i := 1) (m' := ((hdB m ++ pO m ++ pR m ++ flI 8 [u64 m.grp.epoch] ++ [byI (m.grp.members.length : Int)])).length) (cs' := ((hdB m ++ pO m ++ pR m ++ flI 8 [u64 m.grp.epoch] ++ [byI (m.grp.members.length : Int)])).map u8v) rfl (by first | (simp only [List.length_append, List.length_cons, List.length_nil, List.append_assoc]; done) | (simp only [List.length_append, List.length_cons, List.length_nil, List.append_assoc]; omega) | (simp [leN_length, flI_length, hdB]; done) | (simp [leN_length, flI_length, hdB]; omega) | rfl) (by first | (simp only [List.map_append, List.map_cons, List.map_nil, List.append_assoc]; done) | (simp [leN_length, flI_length, hdB]; done) | rfl) rfl ?_
        refine GA.shape (i := 1) rfl (fun A_b c_b e_b l_b k_b => ?_)
        subst e_b
        refine GA.done (by kernel_rfl) (?_ : GC _ _ _ _)
        refine GC.sr_ ?_; refine GL.pure rfl (p_fieldAddr fo_42_13 rfl) ?_; refine GL.pure rfl (p_fieldAddr fo_33_1 rfl) ?_; refine GL.step rfl (t_mem rfl (m_load (i := 3) rfl rfl ag_31 rfl)) ?_; refine GL.pure rfl (p_len Tryz.underlying31 rfl) ?_
        refine GL.mv_ rfl rfl ?_; refine GL.nl_ ?_; refine GC.block ?_; refine GC.loopK3 (ks := [1, 4, 105, 106]) (is := [0, 2, 3]) (js := [0, 1, 2, 3, 4, 5, 6, 7, 8, 9, 10, 11]) (fun (k : Nat) (A1 : Option Addr) (c1 : Nat) => k ≤ m.grp.members.length) (fun (k : Nat) (A1 : Option Addr) (c1 : Nat) => [(5, .slice A1 (hdB m ++ pO m ++ pR m ++ flI 8 [u64 m.grp.epoch] ++ [byI (m.grp.members.length : Int)] ++ (m.grp.members.take k).map byI).length c1), (107, .int .i64 (k : Int))]) (fun (k : Nat) (A1 : Option Addr) (c1 : Nat) => [rowOf A1 c1 (hdB m ++ pO m ++ pR m ++ flI 8 [u64 m.grp.epoch] ++ [byI (m.grp.members.length : Int)] ++ (m.grp.members.take k).map byI)]) (fun (k : Nat) (A1 : Option Addr) (c1 : Nat) => []) (fun (k : Nat) (A1 : Option Addr) (c1 : Nat) => m.grp.members.length - k) (0) (_) (_) rfl rfl rfl (fun a w h => ⟨by omega, by simp only [List.take_zero, List.map_nil, List.append_nil]; exact h.cutK (is := [1, 0, 0, 0]) (js := [0, 1, 2, 3, 4, 5, 6, 7, 8, 9, 10, 11]) (ks := [1, 4, 105, 106]) ⟨rfl, rfl, trivial⟩ rfl rfl rfl⟩) ?_
        intro k A1 c1 hk
        try dsimp only [List.cons_append, List.nil_append] at hk ⊢
        refine GC.sr_ ?_; refine GL.pure rfl (p_lss rfl rfl) ?_; refine GL.nl_ ?_; refine GC.seq' ?_; refine GC.cond rfl (fun h4 => ?_) (fun h4 => ?_)
        ·try simp only [tst_, bi1, bi2, bi4, bi8] at h4
         refine GC.skip (?_ : GC _ _ _ _)
         refine GC.seq' ?_; refine GC.block ?_; refine GC.sr_ ?_; refine GL.step rfl (t_index (i := 7) rfl rfl rfl rfl Tryz.underlying31 sz_3 (by omega) (gt_ok (by omega) (by omega))) (GL.ex fun p_x109 => GL.ex fun r_x109 => GL.and fun ok_x109 => ?_)
         rcases r_x109 with _
         refine GL.step rfl (t_mem rfl (m_loadP (i := 0) rfl rfl ag_3 rfl)) ?_; refine GL.as_ rfl rfl ?_; refine GL.nl_ ?_; refine GC.region ?_
         iterate 2 refine GL.mv_ rfl rfl ?_
         refine GL.pure rfl (p_convR (t := 3) (r := (((byI (gt m.grp.members (k : Int))).toNat : Nat) : Int)) (by rw [Tryz.underlying3]; simp) Tryz.underlying5 rfl (cv8 (by have := (grp_rng (hr.grp (by assumption))).1 _ (gt_elem (l := m.grp.members) (k := k) (by omega)); omega) (by have := (grp_rng (hr.grp (by assumption))).1 _ (gt_elem (l := m.grp.members) (k := k) (by omega)); omega))) ?_
         refine GL.step rfl (t_buildSlice rfl Tryz.underlying25 sz_5 ze_5 rfl rfl rfl rfl rfl rfl) (GL.ex fun b_t114 => ?_); refine GL.step rfl (t_append (i := 1) (k := 0) rfl el_25 rfl rfl rfl rfl rfl (allOne_mem rfl) (by (try simp only [List.length_append, List.length_cons, List.length_nil, List.length_map, List.length_take, flZ_length, flI_length, leN_length]); first | omega | (have := opB_len (hr.op (by assumption)); omega) | (have := resB_len (hr.res (by assumption)); omega) | (have := grp_rng (hr.grp (by assumption)); omega) | (have := sttB_len (hr.stt (by assumption)); omega) | (have := log_len hr k; have := entB_len (hr.log _ (gt_elem (l := m.log) (k := k) (by omega))); have : k * 400000 ≤ 100000 * 400000 := Nat.mul_le_mul_right _ (by omega); omega)) (fun _ => rfl)) (GL.ex fun v115 => ?_)
         refine GL.rowIs (i := 1) (m' := ((hdB m ++ pO m ++ pR m ++ flI 8 [u64 m.grp.epoch] ++ [byI (m.grp.members.length : Int)] ++ (m.grp.members.take k).map byI ++ [byI (gt m.grp.members (k : Int))])).length) (cs' := ((hdB m ++ pO m ++ pR m ++ flI 8 [u64 m.grp.epoch] ++ [byI (m.grp.members.length : Int)] ++ (m.grp.members.take k).map byI ++ [byI (gt m.grp.members (k : Int))])).map u8v) rfl (by first | (simp only [List.length_append, List.length_cons, List.length_nil, List.append_assoc]; done) | (simp only [List.length_append, List.length_cons, List.length_nil, List.append_assoc]; omega) | (simp [leN_length, flI_length, hdB]; done) | (simp [leN_length, flI_length, hdB]; omega) | rfl) (by first | (simp only [List.map_append, List.map_cons, List.map_nil, List.append_assoc]; done) | (simp [leN_length, flI_length, hdB]; done) | rfl) rfl ?_
         refine GL.shape (i := 1) rfl (fun A_b c_b e_b l_b k_b => ?_)
         subst e_b
         refine GL.as_ rfl rfl ?_
         refine GL.nil (?_ : GC _ _ _ _)
         refine GC.region ?_; refine GL.pure rfl (p_add rfl rfl (w64 (by omega) (by omega))) ?_; refine GL.mv_ rfl rfl ?_; refine GL.nil ?_
         exact fun a w h => ⟨(k + 1), (A_b), (c_b), (by omega), by omega, by rw [take_gt (by omega), List.map_append, ← List.append_assoc]; exact h.cut (is := [1, 1, 1, 1]) (js := [1, 2, 3, 4, 5, 6, 7, 8, 9, 10, 11, 12]) ⟨rfl, rfl, rfl, rfl, rfl, rfl, trivial⟩ rfl rfl⟩
        ·try simp only [tst_, bi1, bi2, bi4, bi8] at h4
         refine GC.exit ?_
         obtain rfl : k = m.grp.members.length := by omega
         exact fun a w h => ⟨(_), (_), trivial, by rw [show pG m = flI 8 [u64 m.grp.epoch] ++ [byI (m.grp.members.length : Int)] ++ (m.grp.members.take m.grp.members.length).map byI from by rw [pG, if_neg (by assumption), grpB, flZ1 [_] (by intro x hx; simp at hx; omega), flZ1 _ (fun x hx => by have := gr.1 x hx; omega), flI_flZ (by omega) (by omega), List.take_length]; rfl]; simp only [← List.append_assoc]; exact h.cut (is := [0, 1, 1]) (js := [2, 3, 4, 5, 6, 7, 8, 9, 10, 11]) ⟨rfl, rfl, rfl, trivial⟩ rfl rfl⟩
       exact GAs.nil
      exact GAs.nil
     refine GAs.cons (i := 8) rfl rfl (t_buildSlice rfl Tryz.underlying25 sz_5 ze_5 rfl rfl rfl rfl rfl rfl) (by rintro a w ⟨_, h⟩; exact h.mem (is := [2, 2]) (js := [0, 1, 2, 3, 4, 5, 6, 7, 8, 9, 10, 11]) rfl rfl) (GA.ex fun b_t101 => ?_) ?_
     ·refine GA.all (rs := [2]) (by kernel_rfl) (by simp) ?_
      refine GAs.cons (i := 2) rfl rfl (t_appendS (i := 1) (k := 0) rfl el_25 rfl rfl rfl rfl (by (try simp only [List.length_append, List.length_cons, List.length_nil, List.length_map, List.length_take, flZ_length, flI_length, leN_length]); first | omega | (have := opB_len (hr.op (by assumption)); omega) | (have := resB_len (hr.res (by assumption)); omega) | (have := grp_rng (hr.grp (by assumption)); omega) | (have := sttB_len (hr.stt (by assumption)); omega) | (have := log_len hr k; have := entB_len (hr.log _ (gt_elem (l := m.log) (k := k) (by omega))); have : k * 400000 ≤ 100000 * 400000 := Nat.mul_le_mul_right _ (by omega); omega)) (fun _ => rfl)) (by rintro a w ⟨_, h⟩; exact h.mem (is := [2, 2]) (js := [0, 1, 2, 3, 4, 5, 6, 7, 8, 9, 10, 11]) rfl rfl) (GA.ex fun v95 => ?_) ?_
      ·refine GA.all (rs := [9]) (by kernel_rfl) (by simp) ?_
       refine GAs.cons (i := 9) rfl rfl (t_append (i := 1) (k := 0) rfl el_25 rfl rfl rfl rfl rfl (allOne_mem rfl) (by (try simp only [List.length_append, List.length_cons, List.length_nil, List.length_map, List.length_take, flZ_length, flI_length, leN_length]); first | omega | (have := opB_len (hr.op (by assumption)); omega) | (have := resB_len (hr.res (by assumption)); omega) | (have := grp_rng (hr.grp (by assumption)); omega) | (have := sttB_len (hr.stt (by assumption)); omega) | (have := log_len hr k; have := entB_len (hr.log _ (gt_elem (l := m.log) (k := k) (by omega))); have : k * 400000 ≤ 100000 * 400000 := Nat.mul_le_mul_right _ (by omega); omega)) (fun _ => rfl)) (by rintro a w ⟨_, h⟩; exact h.mem (is := [2, 2]) (js := [0, 1, 2, 3, 4, 5, 6, 7, 8, 9, 10, 11]) rfl rfl) (GA.ex fun v102 => ?_) ?_
       ·refine GA.take 10 rfl (by kernel_rfl) (by kernel_rfl) (by kernel_rfl) rfl (fun a w h => h.mem (is := [2, 2]) (js := [0, 1, 2, 3, 4, 5, 6, 7, 8, 9, 10, 11]) rfl rfl) (i_pure (p_assign rfl)) ?_; refine GA.rowIs (i := 1) (m' := ((hdB m ++ pO m ++ pR m ++ flI 8 [u64 m.grp.epoch] ++ [byI (m.grp.members.length : Int)])).length) (cs' := ((hdB m ++ pO m ++ pR m ++ flI 8 [u64 m.grp.epoch] ++ [byI (m.grp.members.length : Int)])).map u8v) rfl (by first | (simp only [List.length_append, List.length_cons, List.length_nil, List.append_assoc]; done) | (simp only [List.length_append, List.length_cons, List.length_nil, List.append_assoc]; omega) | (simp [leN_length, flI_length, hdB]; done) | (simp [leN_length, flI_length, hdB]; omega) | rfl) (by first | (simp only [List.map_append, List.map_cons, List.map_nil, List.append_assoc]; done) | (simp [leN_length, flI_length, hdB]; done) | rfl) rfl ?_
        refine GA.shape (i := 1) rfl (fun A_b c_b e_b l_b k_b => ?_)
        subst e_b
        refine GA.done (by kernel_rfl) (?_ : GC _ _ _ _)
        refine GC.sr_ ?_; refine GL.pure rfl (p_fieldAddr fo_42_13 rfl) ?_; refine GL.pure rfl (p_fieldAddr fo_33_1 rfl) ?_; refine GL.step rfl (t_mem rfl (m_load (i := 3) rfl rfl ag_31 rfl)) ?_; refine GL.pure rfl (p_len Tryz.underlying31 rfl) ?_
        refine GL.mv_ rfl rfl ?_; refine GL.nl_ ?_; refine GC.block ?_; refine GC.loopK3 (ks := [1, 4, 105, 106]) (is := [0, 2, 3]) (js := [0, 1, 2, 3, 4, 5, 6, 7, 8, 9, 10, 11]) (fun (k : Nat) (A1 : Option Addr) (c1 : Nat) => k ≤ m.grp.members.length) (fun (k : Nat) (A1 : Option Addr) (c1 : Nat) => [(5, .slice A1 (hdB m ++ pO m ++ pR m ++ flI 8 [u64 m.grp.epoch] ++ [byI (m.grp.members.length : Int)] ++ (m.grp.members.take k).map byI).length c1), (107, .int .i64 (k : Int))]) (fun (k : Nat) (A1 : Option Addr) (c1 : Nat) => [rowOf A1 c1 (hdB m ++ pO m ++ pR m ++ flI 8 [u64 m.grp.epoch] ++ [byI (m.grp.members.length : Int)] ++ (m.grp.members.take k).map byI)]) (fun (k : Nat) (A1 : Option Addr) (c1 : Nat) => []) (fun (k : Nat) (A1 : Option Addr) (c1 : Nat) => m.grp.members.length - k) (0) (_) (_) rfl rfl rfl (fun a w h => ⟨by omega, by simp only [List.take_zero, List.map_nil, List.append_nil]; exact h.cutK (is := [1, 0, 0, 0]) (js := [0, 1, 2, 3, 4, 5, 6, 7, 8, 9, 10, 11]) (ks := [1, 4, 105, 106]) ⟨rfl, rfl, trivial⟩ rfl rfl rfl⟩) ?_
        intro k A1 c1 hk
        try dsimp only [List.cons_append, List.nil_append] at hk ⊢
        refine GC.sr_ ?_; refine GL.pure rfl (p_lss rfl rfl) ?_; refine GL.nl_ ?_; refine GC.seq' ?_; refine GC.cond rfl (fun h4 => ?_) (fun h4 => ?_)
        ·try simp only [tst_, bi1, bi2, bi4, bi8] at h4
         refine GC.skip (?_ : GC _ _ _ _)
         refine GC.seq' ?_; refine GC.block ?_; refine GC.sr_ ?_; refine GL.step rfl (t_index (i := 7) rfl rfl rfl rfl Tryz.underlying31 sz_3 (by omega) (gt_ok (by omega) (by omega))) (GL.ex fun p_x109 => GL.ex fun r_x109 => GL.and fun ok_x109 => ?_)
         rcases r_x109 with _
         refine GL.step rfl (t_mem rfl (m_loadP (i := 0) rfl rfl ag_3 rfl)) ?_; refine GL.as_ rfl rfl ?_; refine GL.nl_ ?_; refine GC.region ?_
         iterate 2 refine GL.mv_ rfl rfl ?_
         refine GL.pure rfl (p_convR (t := 3) (r := (((byI (gt m.grp.members (k : Int))).toNat : Nat) : Int)) (by rw [Tryz.underlying3]; simp) Tryz.underlying5 rfl (cv8 (by have := (grp_rng (hr.grp (by assumption))).1 _ (gt_elem (l := m.grp.members) (k := k) (by omega)); omega) (by have := (grp_rng (hr.grp (by assumption))).1 _ (gt_elem (l := m.grp.members) (k := k) (by omega)); omega))) ?_
         refine GL.step rfl (t_buildSlice rfl Tryz.underlying25 sz_5 ze_5 rfl rfl rfl rfl rfl rfl) (GL.ex fun b_t114 => ?_); refine GL.step rfl (t_append (i := 1) (k := 0) rfl el_25 rfl rfl rfl rfl rfl (allOne_mem rfl) (by (try simp only [List.length_append, List.length_cons, List.length_nil, List.length_map, List.length_take, flZ_length, flI_length, leN_length]); first | omega | (have := opB_len (hr.op (by assumption)); omega) | (have := resB_len (hr.res (by assumption)); omega) | (have := grp_rng (hr.grp (by assumption)); omega) | (have := sttB_len (hr.stt (by assumption)); omega) | (have := log_len hr k; have := entB_len (hr.log _ (gt_elem (l := m.log) (k := k) (by omega))); have : k * 400000 ≤ 100000 * 400000 := Nat.mul_le_mul_right _ (by omega); omega)) (fun _ => rfl)) (GL.ex fun v115 => ?_)
         refine GL.rowIs (i := 1) (m' := ((hdB m ++ pO m ++ pR m ++ flI 8 [u64 m.grp.epoch] ++ [byI (m.grp.members.length : Int)] ++ (m.grp.members.take k).map byI ++ [byI (gt m.grp.members (k : Int))])).length) (cs' := ((hdB m ++ pO m ++ pR m ++ flI 8 [u64 m.grp.epoch] ++ [byI (m.grp.members.length : Int)] ++ (m.grp.members.take k).map byI ++ [byI (gt m.grp.members (k : Int))])).map u8v) rfl (by first | (simp only [List.length_append, List.length_cons, List.length_nil, List.append_assoc]; done) | (simp only [List.length_append, List.length_cons, List.length_nil, List.append_assoc]; omega) | (simp [leN_length, flI_length, hdB]; done) | (simp [leN_length, flI_length, hdB]; omega) | rfl) (by first | (simp only [List.map_append, List.map_cons, List.map_nil, List.append_assoc]; done) | (simp [leN_length, flI_length, hdB]; done) | rfl) rfl ?_
         refine GL.shape (i := 1) rfl (fun A_b c_b e_b l_b k_b => ?_)
         subst e_b
         refine GL.as_ rfl rfl ?_
         refine GL.nil (?_ : GC _ _ _ _)
         refine GC.region ?_; refine GL.pure rfl (p_add rfl rfl (w64 (by omega) (by omega))) ?_; refine GL.mv_ rfl rfl ?_; refine GL.nil ?_
         exact fun a w h => ⟨(k + 1), (A_b), (c_b), (by omega), by omega, by rw [take_gt (by omega), List.map_append, ← List.append_assoc]; exact h.cut (is := [1, 1, 1, 1]) (js := [1, 2, 3, 4, 5, 6, 7, 8, 9, 10, 11, 12]) ⟨rfl, rfl, rfl, rfl, rfl, rfl, trivial⟩ rfl rfl⟩
        ·try simp only [tst_, bi1, bi2, bi4, bi8] at h4
         refine GC.exit ?_
         obtain rfl : k = m.grp.members.length := by omega
         exact fun a w h => ⟨(_), (_), trivial, by rw [show pG m = flI 8 [u64 m.grp.epoch] ++ [byI (m.grp.members.length : Int)] ++ (m.grp.members.take m.grp.members.length).map byI from by rw [pG, if_neg (by assumption), grpB, flZ1 [_] (by intro x hx; simp at hx; omega), flZ1 _ (fun x hx => by have := gr.1 x hx; omega), flI_flZ (by omega) (by omega), List.take_length]; rfl]; simp only [← List.append_assoc]; exact h.cut (is := [0, 1, 1]) (js := [2, 3, 4, 5, 6, 7, 8, 9, 10, 11]) ⟨rfl, rfl, rfl, trivial⟩ rfl rfl⟩
       exact GAs.nil
      exact GAs.nil
     exact GAs.nil
    ·try simp only [tst_, bi1, bi2, bi4, bi8] at h3
     refine GC.skip ?_
     exact fun a w h => ⟨(_), (_), trivial, by rw [show pG m = [] from if_pos (by assumption), List.append_nil]; exact h.cut (is := [0, 0, 0]) (js := [0, 1, 2, 3, 4, 5, 6, 7, 8, 9]) ⟨rfl, rfl, rfl, trivial⟩ rfl rfl⟩
   ·intro A1 c1 hj11
    try dsimp only [List.cons_append, List.nil_append] at hj11 ⊢
    refine GC.joinK2 (ks := [1]) (is := [1, 2]) (js := [0, 1, 2, 3, 4, 5, 6, 7, 8, 9]) (fun (A1 : Option Addr) (c1 : Nat) => True) (fun (A1 : Option Addr) (c1 : Nat) => [(5, .slice A1 (hdB m ++ pO m ++ pR m ++ pG m ++ pS m).length c1)]) (fun (A1 : Option Addr) (c1 : Nat) => [rowOf A1 c1 (hdB m ++ pO m ++ pR m ++ pG m ++ pS m)]) (fun (A1 : Option Addr) (c1 : Nat) => []) rfl rfl rfl ?_ ?_
    ·refine GC.sr_ ?_; refine GL.mv_ rfl rfl ?_; refine GL.pure rfl (p_andR rfl rfl (and_b8 _ _ _ _)) ?_; refine GL.pure rfl (p_neq rfl rfl) ?_; refine GL.nl_ ?_; refine GC.cond rfl (fun h5 => ?_) (fun h5 => ?_)
     ·try simp only [tst_, bi1, bi2, bi4, bi8] at h5
      refine GC.seq' ?_
      by_cases hsl : (sttB m.stt).length ≤ 33554432
      ·skip
       refine GC.region ?_; refine GL.pure rfl (p_fieldAddr fo_42_14 rfl) ?_; refine GL.step rfl (t_mem rfl (m_loadN (i := 2) rfl rfl ag_39 (vs := [_, _, _, _, _, _, _]) sz_39 ⟨rfl, rfl, rfl, rfl, rfl, rfl, rfl, trivial⟩)) ?_
       refine GL.step rfl (t_call rfl fn_79 rfl (is := []) (js := [6, 7, 8]) rfl rfl (by exact encstt_ok m.stt _ _ _ _ _ _ hm.s (hr.stt (by assumption)) hsl)) (GL.ret ?_)
       rintro _ _ _ ⟨A123, cp123, l123, k123, rfl, rfl, rfl⟩
       refine GL.mv_ rfl rfl ?_
       iterate 2 refine GL.pure rfl (p_extract rfl rfl) ?_
       iterate 2 refine GL.as_ rfl rfl ?_
       refine GL.nil (?_ : GC _ _ _ _)
       refine GC.seq' ?_; refine GC.sr_ ?_; refine GL.mv_ rfl rfl ?_; refine GL.pure rfl (p_neq rfl rfl) ?_; refine GL.nl_ ?_; refine GC.cond_false rfl ?_
       refine GC.skip (?_ : GC _ _ _ _)
       refine GC.region ?_
       iterate 2 refine GL.mv_ rfl rfl ?_
       refine GL.freezeB (i := 0) rfl ?_; refine GL.step rfl (t_appendS (i := 0) (k := 0) rfl el_25 rfl rfl rfl rfl (by (try simp only [List.length_append, List.length_cons, List.length_nil, List.length_map, List.length_take, flZ_length, flI_length, leN_length]); first | omega | (have := opB_len (hr.op (by assumption)); omega) | (have := resB_len (hr.res (by assumption)); omega) | (have := grp_rng (hr.grp (by assumption)); omega) | (have := sttB_len (hr.stt (by assumption)); omega) | (have := log_len hr k; have := entB_len (hr.log _ (gt_elem (l := m.log) (k := k) (by omega))); have : k * 400000 ≤ 100000 * 400000 := Nat.mul_le_mul_right _ (by omega); omega)) (fun _ => rfl)) (GL.ex fun v130 => ?_)
       refine GL.rowIs (i := 0) (m' := ((hdB m ++ pO m ++ pR m ++ pG m ++ sttB m.stt)).length) (cs' := ((hdB m ++ pO m ++ pR m ++ pG m ++ sttB m.stt)).map u8v) rfl (by first | (simp only [List.length_append, List.length_cons, List.length_nil, List.append_assoc]; done) | (simp only [List.length_append, List.length_cons, List.length_nil, List.append_assoc]; omega) | (simp [leN_length, flI_length, hdB]; done) | (simp [leN_length, flI_length, hdB]; omega) | rfl) (by first | (simp only [List.map_append, List.map_cons, List.map_nil, List.append_assoc]; done) | (simp [leN_length, flI_length, hdB]; done) | rfl) rfl ?_
       refine GL.shape (i := 0) rfl (fun A_b c_b e_b l_b k_b => ?_)
       subst e_b
       refine GL.as_ rfl rfl ?_; refine GL.nil ?_
       exact fun a w h => ⟨(A_b), (c_b), trivial, by rw [show pS m = sttB m.stt from if_neg (by assumption)]; exact h.cut (is := [0, 0, 0]) (js := [1, 2, 3, 4, 5, 6, 7, 8, 9, 10]) ⟨rfl, rfl, trivial⟩ rfl rfl⟩
      ·skip
       refine GC.region ?_; refine GL.pure rfl (p_fieldAddr fo_42_14 rfl) ?_; refine GL.step rfl (t_mem rfl (m_loadN (i := 2) rfl rfl ag_39 (vs := [_, _, _, _, _, _, _]) sz_39 ⟨rfl, rfl, rfl, rfl, rfl, rfl, rfl, trivial⟩)) ?_
       refine GL.step rfl (t_call rfl fn_79 rfl (is := []) (js := [6, 7, 8]) rfl rfl (by exact encstt_long m.stt _ _ _ _ _ _ hm.s (hr.stt (by assumption)) (by omega))) (GL.ret ?_)
       rintro _ _ _ ⟨rfl, rfl, rfl⟩
       refine GL.mv_ rfl rfl ?_
       iterate 2 refine GL.pure rfl (p_extract rfl rfl) ?_
       iterate 2 refine GL.as_ rfl rfl ?_
       refine GL.nil (?_ : GC _ _ _ _)
       refine GC.seq' ?_; refine GC.sr_ ?_; refine GL.mv_ rfl rfl ?_; refine GL.pure rfl (p_neq rfl rfl) ?_; refine GL.nl_ ?_; refine GC.cond_true rfl ?_; refine GC.sr_ ?_
       iterate 2 refine GL.as_ rfl rfl ?_
       refine GL.nl_ ?_; refine GC.ret ?_
       refine fun a w h => Fin.back (rs := [.tmp 2, .tmp 3]) (vs := [_, _]) (is := []) (js := []) rfl ⟨rfl, rfl, trivial⟩ rfl rfl ?_ h
       clear h
       have e : pS m = sttB m.stt := if_neg (by assumption)
       rw [e] at lS
       exact .inr ⟨by omega, ⟨_, _, _, rfl⟩, rfl, rfl⟩
     ·try simp only [tst_, bi1, bi2, bi4, bi8] at h5
      refine GC.skip ?_
      exact fun a w h => ⟨(_), (_), trivial, by rw [show pS m = [] from if_pos (by assumption), List.append_nil]; exact h.cut (is := [0, 0, 0]) (js := [0, 1, 2, 3, 4, 5, 6, 7, 8, 9]) ⟨rfl, rfl, trivial⟩ rfl rfl⟩
    ·intro A1 c1 hj19
     try dsimp only [List.cons_append, List.nil_append] at hj19 ⊢
     refine GC.sr_ ?_; refine GL.mv_ rfl rfl ?_; refine GL.pure rfl (p_fieldAddr fo_42_15 rfl) ?_; refine GL.step rfl (t_mem rfl (m_load (i := 2) rfl rfl ag_40 rfl)) ?_; refine GL.pure rfl (p_len Tryz.underlying40 rfl) ?_
     refine GL.pure rfl (p_convR (t := 3) (r := ((m.log.length : Nat) : Int)) (by rw [Tryz.underlying3]; simp) Tryz.underlying23 rfl (cvU (by omega) (by omega))) ?_; refine GL.freezeB (i := 0) rfl ?_; refine GL.step rfl (t_call rfl fn_80 rfl (is := []) (js := [0]) rfl rfl (by exact oput_ct _ (hdB m ++ pO m ++ pR m ++ pG m ++ pS m) _ m.log.length 4 (by omega) (by omega) (by simp; omega) (by rw [p256_4]; omega))) (GL.ret ?_)
     rintro _ _ _ ⟨A137, cp137, l137, k137, rfl, rfl, rfl⟩
     refine GL.mv_ rfl rfl ?_
     iterate 2 refine GL.pure rfl (p_extract rfl rfl) ?_
     refine GL.as_ rfl rfl ?_; refine GL.nl_ ?_; refine GC.seq' ?_; refine GC.sr_ ?_; refine GL.pure rfl (p_fieldAddr fo_42_15 rfl) ?_; refine GL.step rfl (t_mem rfl (m_load (i := 2) rfl rfl ag_40 rfl)) ?_; refine GL.pure rfl (p_len Tryz.underlying40 rfl) ?_
     refine GL.mv_ rfl rfl ?_; refine GL.nl_ ?_; refine GC.block ?_; refine GC.loopK3 (ks := [141, 142]) (is := [1, 2]) (js := [0, 1, 2, 3, 4, 5, 6, 7, 8, 9, 10]) (fun (k : Nat) (A1 : Option Addr) (c1 : Nat) => k ≤ m.log.length ∧ (preB m ++ (m.log.take k).flatMap entB).length ≤ c1 ∧ c1 ≤ 9223372036854775807) (fun (k : Nat) (A1 : Option Addr) (c1 : Nat) => [(5, .slice A1 (preB m ++ (m.log.take k).flatMap entB).length c1), (143, .int .i64 (k : Int))]) (fun (k : Nat) (A1 : Option Addr) (c1 : Nat) => [rowOf A1 c1 (preB m ++ (m.log.take k).flatMap entB)]) (fun (k : Nat) (A1 : Option Addr) (c1 : Nat) => []) (fun (k : Nat) (A1 : Option Addr) (c1 : Nat) => m.log.length - k) (0) (_) (_) rfl rfl rfl (fun a w h => ⟨⟨by omega, by simp only [List.take_zero, List.flatMap_nil, List.append_nil]; exact l137, k137⟩, by simp only [List.take_zero, List.flatMap_nil, List.append_nil]; exact h.cutK (is := [0, 0, 0]) (js := [0, 1, 2, 3, 4, 5, 6, 7, 8, 9, 10]) (ks := [141, 142]) ⟨rfl, rfl, trivial⟩ rfl rfl rfl⟩) ?_
     intro k A1 c1 hk
     try dsimp only [List.cons_append, List.nil_append] at hk ⊢
     obtain ⟨hk, hc1, hc2⟩ := hk
     refine GC.sr_ ?_; refine GL.pure rfl (p_lss rfl rfl) ?_; refine GL.nl_ ?_; refine GC.seq' ?_; refine GC.cond rfl (fun h6 => ?_) (fun h6 => ?_)
     ·try simp only [tst_, bi1, bi2, bi4, bi8] at h6
      refine GC.skip (?_ : GC _ _ _ _)
      refine GC.seq' ?_; refine GC.block ?_; refine GC.sr_ ?_; refine GL.step rfl (t_index (i := 10) rfl rfl rfl rfl Tryz.underlying40 sz_64 (by omega) (gt_ok (by omega) (by omega))) (GL.ex fun p_x145 => GL.ex fun r_x145 => GL.and fun ok_x145 => ?_)
      rcases r_x145 with ⟨_, ⟨_, ⟨_, ⟨_, ⟨_, ⟨⟨_, ⟨_, ⟨_, ⟨⟨Ax145_0, cpx145_0⟩, ⟨Ax145_1, cpx145_1⟩⟩⟩⟩⟩, ⟨_, ⟨Ax145_2, cpx145_2⟩⟩⟩⟩⟩⟩⟩⟩
      refine GL.step rfl (t_mem rfl (m_loadPN (i := 0) rfl rfl ag_64 (vs := [_, _, _, _, _, _, _, _, _, _, _, _]) sz_64 ⟨rfl, rfl, rfl, rfl, rfl, rfl, rfl, rfl, rfl, rfl, rfl, rfl, trivial⟩)) ?_; refine GL.step rfl (t_alloc rfl ze_64) (GL.ex fun b_t13 => ?_)
      refine GL.step rfl (t_storeN (i := 0) rfl rfl rfl sz_64 rfl rfl rfl) ?_; refine GL.nl_ ?_; refine GC.seq' ?_; refine GC.sr_ ?_; refine GL.step rfl (t_mem rfl (m_loadN (i := 0) rfl rfl ag_64 (vs := [_, _, _, _, _, _, _, _, _, _, _, _]) sz_64 ⟨rfl, rfl, rfl, rfl, rfl, rfl, rfl, rfl, rfl, rfl, rfl, rfl, trivial⟩)) ?_
      have hel := (hm.e _ (gt_elem (l := m.log) (k := k) (by omega))).m
      refine GL.step rfl (t_call rfl fn_81 rfl (is := []) (js := [1, 2, 3]) rfl rfl (by exact encent_ct (gt m.log (k : Int)) _ _ _ _ _ _ (hr.log _ (gt_elem (by omega))) (by omega))) (GL.ret ?_)
      rintro _ _ _ ⟨A149, cp149, l149, k149, rfl, rfl, rfl⟩
      refine GL.mv_ rfl rfl ?_
      iterate 2 refine GL.pure rfl (p_extract rfl rfl) ?_
      refine GL.as_ rfl rfl ?_; refine GL.nl_ ?_; refine GC.seq' ?_
      have hlk := log_len hr k
      have hek := entB_len (hr.log _ (gt_elem (l := m.log) (k := k) (by omega)))
      have hk4 : k * 400000 ≤ 100000 * 400000 := Nat.mul_le_mul_right _ (by omega)
      have hpl : (preB m ++ (m.log.take k).flatMap entB).length = (preB m).length + ((m.log.take k).flatMap entB).length := List.length_append
      refine GC.region ?_; refine GL.mv_ rfl rfl ?_; refine GL.pure rfl (p_len Tryz.underlying25 rfl) ?_; refine GL.mv_ rfl rfl ?_; refine GL.pure rfl (p_len Tryz.underlying25 rfl) ?_; refine GL.pure rfl (p_add rfl rfl (w64 (by omega) (by omega))) ?_
      refine GL.pure rfl (p_gtr rfl rfl) ?_
      refine GL.nil (?_ : GC _ _ _ _)
      refine GC.cond rfl (fun h7 => ?_) (fun h7 => ?_)
      ·try simp only [tst_, bi1, bi2, bi4, bi8] at h7
       refine GC.sr_ ?_
       iterate 2 refine GL.as_ rfl rfl ?_
       refine GL.nl_ ?_; refine GC.ret ?_
       refine fun a w h => Fin.back (rs := [.tmp 2, .tmp 3]) (vs := [_, _]) (is := []) (js := []) rfl ⟨rfl, rfl, trivial⟩ rfl rfl ?_ h
       clear h
       have := body_ge' (m := m) (k := k) (by omega)
       rw [List.length_append] at *
       exact .inr ⟨by omega, ⟨_, _, _, rfl⟩, rfl, rfl⟩
      ·try simp only [tst_, bi1, bi2, bi4, bi8] at h7
       refine GC.skip (?_ : GC _ _ _ _)
       refine GC.region ?_
       iterate 2 refine GL.mv_ rfl rfl ?_
       refine GL.freezeB (i := 0) rfl ?_; refine GL.step rfl (t_appendS (i := 1) (k := 0) rfl el_25 rfl rfl rfl rfl (by (try simp only [List.length_append, List.length_cons, List.length_nil, List.length_map, List.length_take, flZ_length, flI_length, leN_length]); first | omega | (have := opB_len (hr.op (by assumption)); omega) | (have := resB_len (hr.res (by assumption)); omega) | (have := grp_rng (hr.grp (by assumption)); omega) | (have := sttB_len (hr.stt (by assumption)); omega) | (have := log_len hr k; have := entB_len (hr.log _ (gt_elem (l := m.log) (k := k) (by omega))); have : k * 400000 ≤ 100000 * 400000 := Nat.mul_le_mul_right _ (by omega); omega)) (fun _ => rfl)) (GL.ex fun v160 => ?_)
       refine GL.rowIs (i := 1) (m' := ((preB m ++ (m.log.take k).flatMap entB ++ entB (gt m.log (k : Int)))).length) (cs' := ((preB m ++ (m.log.take k).flatMap entB ++ entB (gt m.log (k : Int)))).map u8v) rfl (by first | (simp only [List.length_append, List.length_cons, List.length_nil, List.append_assoc]; done) | (simp only [List.length_append, List.length_cons, List.length_nil, List.append_assoc]; omega) | (simp [leN_length, flI_length, hdB]; done) | (simp [leN_length, flI_length, hdB]; omega) | rfl) (by first | (simp only [List.map_append, List.map_cons, List.map_nil, List.append_assoc]; done) | (simp [leN_length, flI_length, hdB]; done) | rfl) rfl ?_
       refine GL.shape (i := 1) rfl (fun A_b c_b e_b l_b k_b => ?_)
       subst e_b
       refine GL.as_ rfl rfl ?_
       refine GL.nil (?_ : GC _ _ _ _)
       refine GC.region ?_; refine GL.pure rfl (p_add rfl rfl (w64 (by omega) (by omega))) ?_; refine GL.mv_ rfl rfl ?_; refine GL.nil ?_
       exact fun a w h => ⟨(k + 1), (A_b), (c_b), (by omega), ⟨by omega, by rw [fm_take (by omega), ← List.append_assoc]; exact l_b, k_b⟩, by rw [fm_take (by omega), ← List.append_assoc]; exact h.cut (is := [1, 1, 1]) (js := [5, 6, 7, 8, 9, 10, 11, 12, 13, 14, 15]) ⟨rfl, rfl, rfl, rfl, trivial⟩ rfl rfl⟩
     ·try simp only [tst_, bi1, bi2, bi4, bi8] at h6
      refine GC.exit (?_ : GC _ _ _ _)
      refine GC.seq' ?_
      obtain rfl : k = m.log.length := by omega
      rw [List.take_length] at hc1 ⊢
      have hbe : preB m ++ m.log.flatMap entB = bodyB m := rfl
      rw [hbe] at hc1 ⊢
      by_cases hfit : (bodyB m).length ≤ 16777216
      ·skip
       refine GC.region ?_
       iterate 2 refine GL.mv_ rfl rfl ?_
       refine GL.pure rfl (p_len Tryz.underlying25 rfl) ?_; refine GL.pure rfl (p_leq rfl rfl) ?_
       iterate 2 refine GL.as_ rfl rfl ?_
       refine GL.nil (?_ : GC _ _ _ _)
       refine GC.ret ?_
       refine fun a w h => Fin.back (rs := [.tmp 2, .tmp 3]) (vs := [_, _]) (is := [0]) (js := []) rfl ⟨rfl, rfl, trivial⟩ rfl rfl ?_ h
       clear h
       refine .inl ⟨hfit, _, _, hc1, hc2, ?_, rfl, rfl⟩
       exact congrArg (fun b => Value.tuple #[.slice _ _ _, .bool b]) (decide_eq_true (by omega))
      ·skip
       refine GC.region ?_
       iterate 2 refine GL.mv_ rfl rfl ?_
       refine GL.pure rfl (p_len Tryz.underlying25 rfl) ?_; refine GL.pure rfl (p_leq rfl rfl) ?_
       iterate 2 refine GL.as_ rfl rfl ?_
       refine GL.nil (?_ : GC _ _ _ _)
       refine GC.ret ?_
       refine fun a w h => Fin.back (rs := [.tmp 2, .tmp 3]) (vs := [_, _]) (is := []) (js := []) rfl ⟨rfl, rfl, trivial⟩ rfl rfl ?_ h
       clear h
       refine .inr ⟨by omega, ⟨A1, (bodyB m).length, c1, ?_⟩, rfl, rfl⟩
       exact congrArg (fun b => Value.tuple #[.slice _ _ _, .bool b]) (decide_eq_false (by omega))
end Go.Proofs.YtdhdmbmknpjhbaaGreat
namespace Go.Proofs.YtdhdmbmknpjhbaaGreat
open Go Go.Sx Go.Proofs
section
variable {P : Program} {n : Nat} {env : List (Nat × Value)} {d : Nat} {t u ty : TypeId} {pos : String} {aft : Array Edge} {g : Option (Nat × Bool)} {x y : Operand} {k k' yk : IntKind} {m l r : Int}
theorem p_addR (hx : ev env x = some (.int k m)) (hy : ev env y = some (.int k l)) (hr : k.wrap (m + l) = r) : Pv P n env ⟨some d, .binOp .add t x y u, ty, pos, aft, g⟩ (.int k r) := hr ▸ p_addw hx hy
end
end Go.Proofs.YtdhdmbmknpjhbaaGreat
namespace Go.Proofs.YtdhdmbmknpjhbaaGreat
open Go Go.Sx Go.Proofs
theorem add_b1 : IntKind.u8.wrap (0 + 1) = pbit true false false false := by decide
theorem add_b2 (a : Bool) : IntKind.u8.wrap (pbit a false false false + 2) = pbit a true false false := by cases a <;> decide
theorem add_b4 (a b : Bool) : IntKind.u8.wrap (pbit a b false false + 4) = pbit a b true false := by cases a <;> cases b <;> decide
theorem add_b8 (a b c : Bool) : IntKind.u8.wrap (pbit a b c false + 8) = pbit a b c true := by cases a <;> cases b <;> cases c <;> decide
theorem rem_b (a b c d : Bool) : (pbit a b c d).tmod 2 = bi a 1 := by revert a b c d; decide
theorem quo_b2 (a b c d : Bool) : IntKind.u8.wrap ((pbit a b c d).tdiv 2) = pbit b c d false := by revert a b c d; decide
theorem quo_b4 (a b c d : Bool) : IntKind.u8.wrap ((pbit a b c d).tdiv 4) = pbit c d false false := by revert a b c d; decide
theorem quo_b8 (a b c d : Bool) : IntKind.u8.wrap ((pbit a b c d).tdiv 8) = pbit d false false false := by revert a b c d; decide
theorem bi1t (a : Bool) : (bi a 1 = 1) = (a = true) := by cases a <;> simp [bi]
theorem rparts_ct (m : Msg) (s : Lie) (hm : MsgLen m) : Ct Tryz.prog 85 [msgV m s] [] (msgQ m s) (fun u G Q => u = .int .u8 (partsN m) ∧ G = [] ∧ Q = []) := by
 refine Ct.intro Tryz.func85 rfl rfl rfl (fun c hc => ?_)
 refine GC.sr_ ?_; refine GL.step rfl (t_box rfl rfl rfl) (GL.ex fun b_t1 => ?_); refine GL.as_ rfl rfl ?_; refine GL.nl_ ?_; refine GC.sr_ ?_; refine GL.as_ rfl rfl ?_; refine GL.nl_ ?_; refine GC.joinK1 (ks := [1, 2]) (is := [0]) (js := [0, 1, 2, 3, 4, 5, 6, 7]) (fun (u_ : Unit) => True) (fun (u_ : Unit) => [(3, .int .u8 (pbit (decide (¬ m.op = zop)) false false false))]) (fun (u_ : Unit) => []) (fun (u_ : Unit) => []) rfl rfl rfl ?_ ?_
 ·refine GC.sr_ ?_; refine GL.pure rfl (p_fieldAddr fo_42_11 rfl) ?_; refine GL.step rfl (t_mem rfl (m_loadN (i := 0) rfl rfl ag_27 (vs := [_, _, _, _, _]) sz_27 ⟨rfl, rfl, rfl, rfl, rfl, trivial⟩)) ?_; refine GL.pure rfl (p_build ze_27 of_27 rfl rfl) ?_
  refine GL.step rfl (t_call rfl fn_27 rfl (is := []) (js := [0, 1]) rfl rfl (by exact rbzero_ct m.op _ _ _ _)) (GL.ret ?_)
  rintro _ _ _ ⟨rfl, rfl, rfl⟩
  refine GL.pure rfl (p_not rfl) ?_; refine GL.nl_ ?_; refine GC.cond rfl (fun h1 => ?_) (fun h1 => ?_)
  ·try simp only [tst_] at h1
   refine GC.region ?_; refine GL.mv_ rfl rfl ?_; refine GL.pure rfl (p_addR rfl rfl add_b1) ?_; refine GL.as_ rfl rfl ?_; refine GL.nil ?_
   exact fun a w h => ⟨(()), trivial, by rw [decide_eq_true (show ¬ m.op = zop by simp_all)]; exact h.cut (is := [0]) (js := [0, 1, 2, 3, 4, 5, 6, 7]) ⟨rfl, rfl, rfl, trivial⟩ rfl rfl⟩
  ·try simp only [tst_] at h1
   refine GC.skip ?_
   exact fun a w h => ⟨(()), trivial, by rw [decide_eq_false (show ¬ ¬ m.op = zop by simp_all)]; exact h.cut (is := [0]) (js := [0, 1, 2, 3, 4, 5, 6, 7]) ⟨rfl, rfl, rfl, trivial⟩ rfl rfl⟩
 ·intro u_ hj2
  try dsimp only [List.cons_append, List.nil_append] at hj2 ⊢
  refine GC.joinK1 (ks := [1, 2]) (is := [0]) (js := [0, 1, 2, 3, 4, 5, 6, 7]) (fun (u_ : Unit) => True) (fun (u_ : Unit) => [(3, .int .u8 (pbit (decide (¬ m.op = zop)) (decide (¬ m.res = rz)) false false))]) (fun (u_ : Unit) => []) (fun (u_ : Unit) => []) rfl rfl rfl ?_ ?_
  ·refine GC.sr_ ?_; refine GL.pure rfl (p_fieldAddr fo_42_12 rfl) ?_; refine GL.step rfl (t_mem rfl (m_loadN (i := 0) rfl rfl ag_30 (vs := [_, _]) sz_30 ⟨rfl, rfl, trivial⟩)) ?_; refine GL.step rfl (t_call rfl fn_29 rfl (is := []) (js := []) rfl rfl (by exact zres_ct m.res _ _)) (GL.ret ?_)
   rintro _ _ _ ⟨rfl, rfl, rfl⟩
   refine GL.pure rfl (p_not rfl) ?_; refine GL.nl_ ?_; refine GC.cond rfl (fun h2 => ?_) (fun h2 => ?_)
   ·try simp only [tst_] at h2
    refine GC.region ?_; refine GL.mv_ rfl rfl ?_; refine GL.pure rfl (p_addR rfl rfl (add_b2 _)) ?_; refine GL.as_ rfl rfl ?_; refine GL.nil ?_
    exact fun a w h => ⟨(()), trivial, by rw [decide_eq_true (show ¬ m.res = rz by simp_all)]; exact h.cut (is := [0]) (js := [0, 1, 2, 3, 4, 5, 6, 7]) ⟨rfl, rfl, rfl, trivial⟩ rfl rfl⟩
   ·try simp only [tst_] at h2
    refine GC.skip ?_
    exact fun a w h => ⟨(()), trivial, by rw [decide_eq_false (show ¬ ¬ m.res = rz by simp_all)]; exact h.cut (is := [0]) (js := [0, 1, 2, 3, 4, 5, 6, 7]) ⟨rfl, rfl, rfl, trivial⟩ rfl rfl⟩
  ·intro u_ hj4
   try dsimp only [List.cons_append, List.nil_append] at hj4 ⊢
   refine GC.joinK1 (ks := [1, 2]) (is := [0]) (js := [0, 1, 2, 3, 4, 5, 6, 7]) (fun (u_ : Unit) => True) (fun (u_ : Unit) => [(3, .int .u8 (pbit (decide (¬ m.op = zop)) (decide (¬ m.res = rz)) (decide (¬ m.grp = zgr)) false))]) (fun (u_ : Unit) => []) (fun (u_ : Unit) => []) rfl rfl rfl ?_ ?_
   ·refine GC.sr_ ?_; refine GL.pure rfl (p_fieldAddr fo_42_13 rfl) ?_; refine GL.step rfl (t_mem rfl (m_loadN (i := 0) rfl rfl ag_33 (vs := [_, _]) sz_33 ⟨rfl, rfl, trivial⟩)) ?_; refine GL.step rfl (t_call rfl fn_31 rfl (is := []) (js := []) rfl rfl (by exact zgrp_ct m.grp _ _)) (GL.ret ?_)
    rintro _ _ _ ⟨rfl, rfl, rfl⟩
    refine GL.pure rfl (p_not rfl) ?_; refine GL.nl_ ?_; refine GC.cond rfl (fun h3 => ?_) (fun h3 => ?_)
    ·try simp only [tst_] at h3
     refine GC.region ?_; refine GL.mv_ rfl rfl ?_; refine GL.pure rfl (p_addR rfl rfl (add_b4 _ _)) ?_; refine GL.as_ rfl rfl ?_; refine GL.nil ?_
     exact fun a w h => ⟨(()), trivial, by rw [decide_eq_true (show ¬ m.grp = zgr by simp_all)]; exact h.cut (is := [0]) (js := [0, 1, 2, 3, 4, 5, 6, 7]) ⟨rfl, rfl, rfl, trivial⟩ rfl rfl⟩
    ·try simp only [tst_] at h3
     refine GC.skip ?_
     exact fun a w h => ⟨(()), trivial, by rw [decide_eq_false (show ¬ ¬ m.grp = zgr by simp_all)]; exact h.cut (is := [0]) (js := [0, 1, 2, 3, 4, 5, 6, 7]) ⟨rfl, rfl, rfl, trivial⟩ rfl rfl⟩
   ·intro u_ hj6
    try dsimp only [List.cons_append, List.nil_append] at hj6 ⊢
    refine GC.joinK1 (ks := [2]) (is := [0]) (js := [0, 1, 2, 3, 4, 5, 6, 7]) (fun (u_ : Unit) => True) (fun (u_ : Unit) => [(3, .int .u8 (partsN m))]) (fun (u_ : Unit) => []) (fun (u_ : Unit) => []) rfl rfl rfl ?_ ?_
    ·refine GC.sr_ ?_; refine GL.pure rfl (p_fieldAddr fo_42_14 rfl) ?_; refine GL.step rfl (t_mem rfl (m_loadN (i := 0) rfl rfl ag_39 (vs := [_, _, _, _, _, _, _]) sz_39 ⟨rfl, rfl, rfl, rfl, rfl, rfl, rfl, trivial⟩)) ?_
     refine GL.step rfl (t_call rfl fn_33 rfl (is := []) (js := [4, 5, 6]) rfl rfl (by exact rzero_ct m.stt _ _ _ _ _ _ hm.s)) (GL.ret ?_)
     rintro _ _ _ ⟨rfl, rfl, rfl⟩
     refine GL.pure rfl (p_not rfl) ?_; refine GL.nl_ ?_; refine GC.cond rfl (fun h4 => ?_) (fun h4 => ?_)
     ·try simp only [tst_] at h4
      refine GC.region ?_; refine GL.mv_ rfl rfl ?_; refine GL.pure rfl (p_addR rfl rfl (add_b8 _ _ _)) ?_; refine GL.as_ rfl rfl ?_; refine GL.nil ?_
      exact fun a w h => ⟨(()), trivial, by rw [partsN, decide_eq_true (show ¬ m.stt = zst by simp_all)]; exact h.cut (is := [0]) (js := [0, 1, 2, 3, 4, 5, 6, 7]) ⟨rfl, rfl, trivial⟩ rfl rfl⟩
     ·try simp only [tst_] at h4
      refine GC.skip ?_
      exact fun a w h => ⟨(()), trivial, by rw [partsN, decide_eq_false (show ¬ ¬ m.stt = zst by simp_all)]; exact h.cut (is := [0]) (js := [0, 1, 2, 3, 4, 5, 6, 7]) ⟨rfl, rfl, trivial⟩ rfl rfl⟩
    ·intro u_ hj8
     try dsimp only [List.cons_append, List.nil_append] at hj8 ⊢
     refine GC.sr_ ?_; refine GL.mv_ rfl rfl ?_; refine GL.as_ rfl rfl ?_; refine GL.nl_ ?_; refine GC.ret ?_
     refine fun a w h => Fin.back (rs := [.tmp 2]) (vs := [_]) (is := []) (js := []) rfl ⟨rfl, trivial⟩ rfl rfl ?_ h
     clear h
     exact ⟨rfl, rfl, rfl⟩
theorem grpB_eq {g : Grp} (h : groupOk g.epoch g.members = true) : leN 8 g.epoch.toNat ++ [byI (g.members.length : Int)] ++ g.members.map byI = grpB g := by
  have r := grp_rng h
  rw [grpB, flZ_one, flZ1 [_] (by intro x hx; simp at hx; omega), flZ1 _ (fun x hx => by have := r.1 x hx; omega)]
  rfl
theorem r16grp_ct (A : Option Addr) (b : List UInt8) (cp : Nat) (g : Grp) (B : Option Addr) (cq : Nat) (hg : groupOk g.epoch g.members = true) (hb : b.length ≤ 1000000000000) : Ct Tryz.prog 88 [.slice A b.length cp, grpV g.epoch B g.members.length cq] [] [Pers.row Kd.u8 A b, Pers.row kI B g.members]
    (fun u G Q => ∃ A' cp', (b ++ grpB g).length ≤ cp' ∧ cp' ≤ 9223372036854775807 ∧ u = .slice A' (b ++ grpB g).length cp' ∧ G = [rowOf A' cp' (b ++ grpB g)] ∧ Q = []) := by
 obtain ⟨r1, r2, r3, r4, r5⟩ := grp_rng hg
 refine Ct.intro Tryz.func88 rfl rfl rfl (fun c hc => ?_)
 refine GC.sr_ ?_; refine GL.step rfl (t_box rfl rfl rfl) (GL.ex fun b_t3 => ?_); refine GL.as_ rfl rfl ?_; refine GL.nl_ ?_; refine GC.sr_ ?_; refine GL.mv_ rfl rfl ?_; refine GL.pure rfl (p_fieldAddr fo_33_0 rfl) ?_; refine GL.step rfl (t_mem rfl (m_load (i := 0) rfl rfl ag_3 rfl)) ?_
 refine GL.pure rfl (p_convR (t := 3) (r := ((g.epoch.toNat : Nat) : Int)) (by rw [Tryz.underlying3]; simp) Tryz.underlying23 rfl (cvZ (by omega) (by omega))) ?_; refine GL.step rfl (t_call rfl fn_55 rfl (is := []) (js := [0]) rfl rfl (by exact r1put_ct _ b _ g.epoch.toNat 8 (by omega) (by omega) (by omega) (by rw [p256_8]; omega))) (GL.ret ?_)
 rintro _ _ _ ⟨A11, cp11, l11, k11, rfl, rfl, rfl⟩
 refine GL.mv_ rfl rfl ?_
 iterate 2 refine GL.pure rfl (p_extract rfl rfl) ?_
 refine GL.as_ rfl rfl ?_; refine GL.nl_ ?_; refine GC.sr_ ?_; refine GL.mv_ rfl rfl ?_; refine GL.pure rfl (p_fieldAddr fo_33_1 rfl) ?_; refine GL.step rfl (t_mem rfl (m_load (i := 1) rfl rfl ag_31 rfl)) ?_; refine GL.pure rfl (p_len Tryz.underlying31 rfl) ?_
 refine GL.pure rfl (p_convR (t := 3) (r := (((byI (g.members.length : Int)).toNat : Nat) : Int)) (by rw [Tryz.underlying3]; simp) Tryz.underlying5 rfl (cv8 (by omega) (by omega))) ?_; refine GL.step rfl (t_buildSlice rfl Tryz.underlying25 sz_5 ze_5 rfl rfl rfl rfl rfl rfl) (GL.ex fun b_t19 => ?_)
 refine GL.step rfl (t_append (i := 1) (k := 0) rfl el_25 rfl rfl rfl rfl rfl (allOne_mem rfl) (by (try simp only [List.length_append, List.length_cons, List.length_nil, List.length_map, List.length_take, flZ_length, flI_length, leN_length]); omega) (fun _ => rfl)) (GL.ex fun v20 => ?_)
 refine GL.rowIs (i := 1) (m' := ((b ++ leN 8 g.epoch.toNat ++ [byI (g.members.length : Int)])).length) (cs' := ((b ++ leN 8 g.epoch.toNat ++ [byI (g.members.length : Int)])).map u8v) rfl (by first | (simp only [List.length_append, List.length_cons, List.length_nil, List.append_assoc]; done) | (simp only [List.length_append, List.length_cons, List.length_nil, List.append_assoc]; omega) | (simp; done) | (simp; omega) | rfl) (by first | (simp only [List.map_append, List.map_cons, List.map_nil, List.append_assoc]; done) | (simp; done) | rfl) rfl ?_
 refine GL.shape (i := 1) rfl (fun A_rp11 c_rp11 e_rp11 l_rp11 k_rp11 => ?_)
 subst e_rp11
 refine GL.as_ rfl rfl ?_; refine GL.nl_ ?_; refine GC.seq' ?_; refine GC.sr_ ?_; refine GL.as_ rfl rfl ?_; refine GL.nl_ ?_; refine GC.block ?_; refine GC.loopK3 (ks := [3]) (is := [0, 2]) (js := [0, 1]) (fun (k : Nat) (A1 : Option Addr) (c1 : Nat) => k ≤ g.members.length ∧ (b ++ leN 8 g.epoch.toNat ++ [byI (g.members.length : Int)] ++ (g.members.take k).map byI).length ≤ c1 ∧ c1 ≤ 9223372036854775807) (fun (k : Nat) (A1 : Option Addr) (c1 : Nat) => [(0, .slice A1 (b ++ leN 8 g.epoch.toNat ++ [byI (g.members.length : Int)] ++ (g.members.take k).map byI).length c1), (5, .int .i64 (k : Int))]) (fun (k : Nat) (A1 : Option Addr) (c1 : Nat) => [rowOf A1 c1 (b ++ leN 8 g.epoch.toNat ++ [byI (g.members.length : Int)] ++ (g.members.take k).map byI)]) (fun (k : Nat) (A1 : Option Addr) (c1 : Nat) => []) (fun (k : Nat) (A1 : Option Addr) (c1 : Nat) => g.members.length - k) (0) (_) (_) rfl rfl rfl (fun a w h => ⟨⟨by omega, by simp only [List.take_zero, List.map_nil, List.append_nil]; exact l_rp11, k_rp11⟩, by simp only [List.take_zero, List.map_nil, List.append_nil]; exact h.cutK (is := [1, 0, 0]) (js := [0, 1]) (ks := [3]) ⟨rfl, rfl, trivial⟩ rfl rfl rfl⟩) ?_
 intro k A1 c1 hk
 try dsimp only [List.cons_append, List.nil_append] at hk ⊢
 obtain ⟨hk, hc1, hc2⟩ := hk
 refine GC.seq' ?_; refine GC.sr_ ?_; refine GL.mv_ rfl rfl ?_; refine GL.pure rfl (p_fieldAddr fo_33_1 rfl) ?_; refine GL.step rfl (t_mem rfl (m_load (i := 2) rfl rfl ag_31 rfl)) ?_; refine GL.pure rfl (p_len Tryz.underlying31 rfl) ?_
 refine GL.pure rfl (p_lss rfl rfl) ?_; refine GL.nl_ ?_; refine GC.cond rfl (fun h1 => ?_) (fun h1 => ?_)
 ·try simp only [tst_] at h1
  refine GC.skip (?_ : GC _ _ _ _)
  refine GC.seq' ?_; refine GC.block ?_
  have hx := r1 _ (gt_elem (l := g.members) (k := k) (by omega))
  refine GC.region ?_; refine GL.mv_ rfl rfl ?_; refine GL.pure rfl (p_fieldAddr fo_33_1 rfl) ?_; refine GL.step rfl (t_mem rfl (m_load (i := 2) rfl rfl ag_31 rfl)) ?_; refine GL.mv_ rfl rfl ?_; refine GL.step rfl (t_index (i := 1) rfl rfl rfl rfl Tryz.underlying31 sz_3 (by omega) (gt_ok (by omega) (by omega))) (GL.ex fun p_x32 => GL.ex fun r_x32 => GL.and fun ok_x32 => ?_)
  rcases r_x32 with _
  refine GL.step rfl (t_mem rfl (m_loadP (i := 0) rfl rfl ag_3 rfl)) ?_; refine GL.pure rfl (p_convR (t := 3) (r := (((byI (gt g.members (k : Int))).toNat : Nat) : Int)) (by rw [Tryz.underlying3]; simp) Tryz.underlying5 rfl (cv8 (by omega) (by omega))) ?_
  refine GL.step rfl (t_buildSlice rfl Tryz.underlying25 sz_5 ze_5 rfl rfl rfl rfl rfl rfl) (GL.ex fun b_t35 => ?_); refine GL.step rfl (t_append (i := 1) (k := 0) rfl el_25 rfl rfl rfl rfl rfl (allOne_mem rfl) (by (try simp only [List.length_append, List.length_cons, List.length_nil, List.length_map, List.length_take, flZ_length, flI_length, leN_length]); omega) (fun _ => rfl)) (GL.ex fun v36 => ?_)
  refine GL.rowIs (i := 1) (m' := ((b ++ leN 8 g.epoch.toNat ++ [byI (g.members.length : Int)] ++ (g.members.take k).map byI ++ [byI (gt g.members (k : Int))])).length) (cs' := ((b ++ leN 8 g.epoch.toNat ++ [byI (g.members.length : Int)] ++ (g.members.take k).map byI ++ [byI (gt g.members (k : Int))])).map u8v) rfl (by first | (simp only [List.length_append, List.length_cons, List.length_nil, List.append_assoc]; done) | (simp only [List.length_append, List.length_cons, List.length_nil, List.append_assoc]; omega) | (simp; done) | (simp; omega) | rfl) (by first | (simp only [List.map_append, List.map_cons, List.map_nil, List.append_assoc]; done) | (simp; done) | rfl) rfl ?_
  refine GL.shape (i := 1) rfl (fun A_b c_b e_b l_b k_b => ?_)
  subst e_b
  refine GL.as_ rfl rfl ?_
  refine GL.nil (?_ : GC _ _ _ _)
  refine GC.region ?_; refine GL.mv_ rfl rfl ?_; refine GL.pure rfl (p_add rfl rfl (w64 (by omega) (by omega))) ?_; refine GL.as_ rfl rfl ?_; refine GL.nil ?_
  exact fun a w h => ⟨(k + 1), (A_b), (c_b), (by omega), ⟨by omega, by rw [take_gt (by omega), List.map_append, ← List.append_assoc]; exact l_b, k_b⟩, by rw [take_gt (by omega), List.map_append, ← List.append_assoc]; exact h.cut (is := [1, 1, 1]) (js := [1, 2]) ⟨rfl, rfl, rfl, trivial⟩ rfl rfl⟩
 ·try simp only [tst_] at h1
  refine GC.exit (?_ : GC _ _ _ _)
  refine GC.sr_ ?_; refine GL.mv_ rfl rfl ?_; refine GL.as_ rfl rfl ?_; refine GL.nl_ ?_; refine GC.ret ?_
  refine fun a w h => Fin.back (rs := [.tmp 4]) (vs := [_]) (is := [0]) (js := []) rfl ⟨rfl, trivial⟩ rfl rfl ?_ h
  clear h
  obtain rfl : k = g.members.length := by omega
  have e : b ++ leN 8 g.epoch.toNat ++ [byI (g.members.length : Int)] ++ g.members.map byI = b ++ grpB g := by rw [← grpB_eq hg]; simp only [List.append_assoc]
  rw [List.take_length, e] at hc1
  rw [List.take_length, e]
  exact ⟨_, _, hc1, hc2, rfl, rfl, rfl⟩
theorem rbody_all (m : Msg) (s : Lie) (hm : MsgLen m) (hok : msgOk m) (hn : 0 ≤ m.nonce ∧ m.nonce < 18446744073709551616) (hlog : m.log.length < 100000) : Ct Tryz.prog 47 [msgV m s] [] (msgQ m s)
    (fun u G Q => ((bodyB m).length ≤ 16777216 ∧ ∃ A cp, (bodyB m).length ≤ cp ∧ cp ≤ 9223372036854775807 ∧ u = .slice A (bodyB m).length cp ∧ G = [rowOf A cp (bodyB m)] ∧ Q = []) ∨ (16777216 < (bodyB m).length ∧ (∃ A n cp, 16777216 < n ∧ u = .slice A n cp) ∧ G = [] ∧ Q = [])) := by
 have hr := msg_rng hok
 have hpn := partsN_rng m
 have hk := hr.kind
 have l0 := hdB_len m
 have l1 := pO_len hr
 have l2 := pR_len hr
 have l3 := pG_len hr
 have l4 := pS_len hr
 have l5 := preB_len hr
 have lS := pS_body m
 refine Ct.intro Tryz.func47 rfl rfl rfl (fun c hc => ?_)
 refine GC.sr_ ?_; refine GL.step rfl (t_box rfl rfl rfl) (GL.ex fun b_t1 => ?_); refine GL.as_ rfl rfl ?_; refine GL.nl_ ?_; refine GC.sr_ ?_; refine GL.pure rfl (p_fieldAddr fo_42_0 rfl) ?_; refine GL.step rfl (t_mem rfl (m_load (i := 0) rfl rfl ag_22 rfl)) ?_
 refine GL.reval 15 rfl (congrArg (Value.int .u8) (byI_eq (by omega) (by omega))) ?_; refine GL.step rfl (t_buildSlice rfl Tryz.underlying25 sz_5 ze_5 rfl rfl rfl rfl rfl rfl) (GL.ex fun b_t16 => ?_); refine GL.as_ rfl rfl ?_
 refine GL.nl_ ?_; refine GC.sr_ ?_; refine GL.mv_ rfl rfl ?_; refine GL.pure rfl (p_fieldAddr fo_42_1 rfl) ?_; refine GL.step rfl (t_mem rfl (m_load (i := 1) rfl rfl ag_3 rfl)) ?_; refine GL.pure rfl (p_convR (t := 3) (by rw [Tryz.underlying3]; simp) Tryz.underlying23 rfl (cvU64 m.src)) ?_
 refine GL.pure rfl (p_fieldAddr fo_42_2 rfl) ?_; refine GL.step rfl (t_mem rfl (m_load (i := 1) rfl rfl ag_3 rfl)) ?_; refine GL.pure rfl (p_convR (t := 3) (by rw [Tryz.underlying3]; simp) Tryz.underlying23 rfl (cvU64 m.dst)) ?_
 refine GL.pure rfl (p_fieldAddr fo_42_3 rfl) ?_; refine GL.step rfl (t_mem rfl (m_load (i := 1) rfl rfl ag_3 rfl)) ?_; refine GL.pure rfl (p_convR (t := 3) (by rw [Tryz.underlying3]; simp) Tryz.underlying23 rfl (cvU64 m.epoch)) ?_
 refine GL.pure rfl (p_fieldAddr fo_42_4 rfl) ?_; refine GL.step rfl (t_mem rfl (m_load (i := 1) rfl rfl ag_3 rfl)) ?_; refine GL.pure rfl (p_convR (t := 3) (by rw [Tryz.underlying3]; simp) Tryz.underlying23 rfl (cvU64 m.view)) ?_
 refine GL.pure rfl (p_fieldAddr fo_42_5 rfl) ?_; refine GL.step rfl (t_mem rfl (m_load (i := 1) rfl rfl ag_3 rfl)) ?_; refine GL.pure rfl (p_convR (t := 3) (by rw [Tryz.underlying3]; simp) Tryz.underlying23 rfl (cvU64 m.num)) ?_
 refine GL.pure rfl (p_fieldAddr fo_42_6 rfl) ?_; refine GL.step rfl (t_mem rfl (m_load (i := 1) rfl rfl ag_3 rfl)) ?_; refine GL.pure rfl (p_convR (t := 3) (by rw [Tryz.underlying3]; simp) Tryz.underlying23 rfl (cvU64 m.commit)) ?_
 refine GL.pure rfl (p_fieldAddr fo_42_7 rfl) ?_; refine GL.step rfl (t_mem rfl (m_load (i := 1) rfl rfl ag_3 rfl)) ?_; refine GL.pure rfl (p_convR (t := 3) (by rw [Tryz.underlying3]; simp) Tryz.underlying23 rfl (cvU64 m.normal)) ?_
 refine GL.pure rfl (p_fieldAddr fo_42_8 rfl) ?_; refine GL.step rfl (t_mem rfl (m_load (i := 1) rfl rfl ag_23 rfl)) ?_; refine GL.reval 41 rfl (congrArg (Value.int .u64) (u64_eq hn.1 hn.2)) ?_; refine GL.pure rfl (p_fieldAddr fo_42_9 rfl) ?_
 refine GL.step rfl (t_mem rfl (m_load (i := 1) rfl rfl ag_3 rfl)) ?_; refine GL.pure rfl (p_convR (t := 3) (by rw [Tryz.underlying3]; simp) Tryz.underlying23 rfl (cvU64 m.client)) ?_
 refine GL.pure rfl (p_fieldAddr fo_42_10 rfl) ?_; refine GL.step rfl (t_mem rfl (m_load (i := 1) rfl rfl ag_3 rfl)) ?_; refine GL.pure rfl (p_convR (t := 3) (by rw [Tryz.underlying3]; simp) Tryz.underlying23 rfl (cvU64 m.serial)) ?_
 refine GL.step rfl (t_buildSlice rfl Tryz.underlying126 sz_23 ze_23 rfl rfl rfl rfl rfl rfl) (GL.ex fun b_t48 => ?_); refine GL.freezeC (enc := u8v) (xs := [byI m.kind]) (h1 := fun _ => rfl) (i := 1) rfl ?_; refine GL.freezeC (enc := uv) (xs := [u64 m.src, u64 m.dst, u64 m.epoch, u64 m.view, u64 m.num, u64 m.commit, u64 m.normal, u64 m.nonce, u64 m.client, u64 m.serial]) (h1 := fun _ => rfl) (i := 0) rfl ?_
 refine GL.step rfl (t_call rfl fn_84 rfl (is := []) (js := [1, 0]) rfl rfl (by exact rputall_ct _ [byI m.kind] _ 8 _ [u64 m.src, u64 m.dst, u64 m.epoch, u64 m.view, u64 m.num, u64 m.commit, u64 m.normal, u64 m.nonce, u64 m.client, u64 m.serial] _ (by omega) (by omega) (by simp) (by rw [p256_8]; intro x hx; simp only [List.mem_cons, List.not_mem_nil, or_false] at hx; rcases hx with rfl | rfl | rfl | rfl | rfl | rfl | rfl | rfl | rfl | rfl <;> exact u64_lt _))) (GL.ret ?_)
 rintro _ _ _ ⟨A49, cp49, l49, k49, rfl, rfl, rfl⟩
 refine GL.mv_ rfl rfl ?_
 iterate 2 refine GL.pure rfl (p_extract rfl rfl) ?_
 refine GL.as_ rfl rfl ?_; refine GL.nl_ ?_; refine GC.sr_ ?_; refine GL.step rfl (t_mem rfl (m_loadN (i := 1) rfl rfl ag_42 (vs := [_, _, _, _, _, _, _, _, _, _, _, _, _, _, _, _, _, _, _, _, _, _, _, _, _, _, _, _]) sz_42 ⟨rfl, rfl, rfl, rfl, rfl, rfl, rfl, rfl, rfl, rfl, rfl, rfl, rfl, rfl, rfl, rfl, rfl, rfl, rfl, rfl, rfl, rfl, rfl, rfl, rfl, rfl, rfl, rfl, trivial⟩)) ?_
 refine GL.step rfl (t_call rfl fn_85 rfl (is := []) (js := [2, 3, 4, 5, 6, 7, 8, 9]) rfl rfl (by exact rparts_ct m s hm)) (GL.ret ?_)
 rintro _ _ _ ⟨rfl, rfl, rfl⟩
 refine GL.as_ rfl rfl ?_; refine GL.nl_ ?_; refine GC.sr_ ?_
 iterate 2 refine GL.mv_ rfl rfl ?_
 refine GL.reval 55 rfl (congrArg (Value.int .u8) (byI_eq hpn.1 hpn.2)) ?_; refine GL.step rfl (t_buildSlice rfl Tryz.underlying25 sz_5 ze_5 rfl rfl rfl rfl rfl rfl) (GL.ex fun b_t56 => ?_); refine GL.step rfl (t_append (i := 1) (k := 0) rfl el_25 rfl rfl rfl rfl rfl (allOne_mem rfl) (by (try simp only [List.length_append, List.length_cons, List.length_nil, List.length_map, List.length_take, flZ_length, flI_length, leN_length]); first | omega | (have := opB_len (hr.op (by assumption)); omega) | (have := resB_len (hr.res (by assumption)); omega) | (have := grp_rng (hr.grp (by assumption)); omega) | (have := sttB_len (hr.stt (by assumption)); omega) | (have := log_len hr k; have := entB_len (hr.log _ (gt_elem (l := m.log) (k := k) (by omega))); have : k * 400000 ≤ 100000 * 400000 := Nat.mul_le_mul_right _ (by omega); omega)) (fun _ => rfl)) (GL.ex fun v57 => ?_)
 refine GL.rowIs (i := 1) (m' := ((hdB m)).length) (cs' := ((hdB m)).map u8v) rfl (by first | (simp only [List.length_append, List.length_cons, List.length_nil, List.append_assoc]; done) | (simp only [List.length_append, List.length_cons, List.length_nil, List.append_assoc]; omega) | (simp [leN_length, flI_length, hdB]; done) | (simp [leN_length, flI_length, hdB]; omega) | rfl) (by first | (simp only [List.map_append, List.map_cons, List.map_nil, List.append_assoc]; done) | (simp [leN_length, flI_length, hdB]; done) | rfl) rfl ?_
 refine GL.shape (i := 1) rfl (fun A_ra49 c_ra49 e_ra49 l_ra49 k_ra49 => ?_)
 subst e_ra49
 refine GL.as_ rfl rfl ?_; refine GL.nl_ ?_; refine GC.joinK2 (ks := [1, 4]) (is := [0, 2]) (js := [0, 1, 2, 3, 4, 5, 6, 7, 8, 9]) (fun (A1 : Option Addr) (c1 : Nat) => True) (fun (A1 : Option Addr) (c1 : Nat) => [(3, .slice A1 (hdB m ++ pO m).length c1)]) (fun (A1 : Option Addr) (c1 : Nat) => [rowOf A1 c1 (hdB m ++ pO m)]) (fun (A1 : Option Addr) (c1 : Nat) => []) rfl rfl rfl ?_ ?_
 ·refine GC.sr_ ?_; refine GL.mv_ rfl rfl ?_; refine GL.pure rfl (p_rem rfl rfl (by decide) (rem_b _ _ _ _)) ?_; refine GL.pure rfl (p_eql rfl rfl) ?_; refine GL.nl_ ?_; refine GC.cond rfl (fun h1 => ?_) (fun h1 => ?_)
  ·try simp only [tst_, bi1t] at h1
   refine GC.sr_ ?_; refine GL.pure rfl (p_fieldAddr fo_42_11 rfl) ?_; refine GL.step rfl (t_mem rfl (m_loadN (i := 2) rfl rfl ag_27 (vs := [_, _, _, _, _]) sz_27 ⟨rfl, rfl, rfl, rfl, rfl, trivial⟩)) ?_; refine GL.step rfl (t_call rfl fn_86 rfl (is := []) (js := [2, 3]) rfl rfl (by exact rencop_ct m.op _ _ _ _ (hr.op (by assumption)))) (GL.ret ?_)
   rintro _ _ _ ⟨A64, cp64, l64, k64, rfl, rfl, rfl⟩
   refine GL.mv_ rfl rfl ?_
   iterate 2 refine GL.pure rfl (p_extract rfl rfl) ?_
   iterate 2 refine GL.as_ rfl rfl ?_
   refine GL.nl_ ?_; refine GC.region ?_
   iterate 2 refine GL.mv_ rfl rfl ?_
   refine GL.freezeB (i := 0) rfl ?_; refine GL.step rfl (t_appendS (i := 1) (k := 0) rfl el_25 rfl rfl rfl rfl (by (try simp only [List.length_append, List.length_cons, List.length_nil, List.length_map, List.length_take, flZ_length, flI_length, leN_length]); first | omega | (have := opB_len (hr.op (by assumption)); omega) | (have := resB_len (hr.res (by assumption)); omega) | (have := grp_rng (hr.grp (by assumption)); omega) | (have := sttB_len (hr.stt (by assumption)); omega) | (have := log_len hr k; have := entB_len (hr.log _ (gt_elem (l := m.log) (k := k) (by omega))); have : k * 400000 ≤ 100000 * 400000 := Nat.mul_le_mul_right _ (by omega); omega)) (fun _ => rfl)) (GL.ex fun v69 => ?_)
   refine GL.rowIs (i := 1) (m' := ((hdB m ++ opB m.op)).length) (cs' := ((hdB m ++ opB m.op)).map u8v) rfl (by first | (simp only [List.length_append, List.length_cons, List.length_nil, List.append_assoc]; done) | (simp only [List.length_append, List.length_cons, List.length_nil, List.append_assoc]; omega) | (simp [leN_length, flI_length, hdB]; done) | (simp [leN_length, flI_length, hdB]; omega) | rfl) (by first | (simp only [List.map_append, List.map_cons, List.map_nil, List.append_assoc]; done) | (simp [leN_length, flI_length, hdB]; done) | rfl) rfl ?_
   refine GL.shape (i := 1) rfl (fun A_ra49 c_ra49 e_ra49 l_ra49 k_ra49 => ?_)
   subst e_ra49
   refine GL.as_ rfl rfl ?_; refine GL.nil ?_
   exact fun a w h => ⟨(A_ra49), (c_ra49), trivial, by rw [show pO m = opB m.op from if_neg (by assumption)]; exact h.cut (is := [1, 0, 0]) (js := [1, 2, 3, 4, 5, 6, 7, 8, 9, 10]) ⟨rfl, rfl, rfl, trivial⟩ rfl rfl⟩
  ·try simp only [tst_, bi1t] at h1
   refine GC.skip ?_
   exact fun a w h => ⟨(A_ra49), (c_ra49), trivial, by rw [show pO m = [] from if_pos (by simp_all), List.append_nil]; exact h.cut (is := [1, 0, 0]) (js := [0, 1, 2, 3, 4, 5, 6, 7, 8, 9]) ⟨rfl, rfl, rfl, trivial⟩ rfl rfl⟩
 ·intro A1 c1 hj5
  try dsimp only [List.cons_append, List.nil_append] at hj5 ⊢
  refine GC.joinK2 (ks := [1, 4]) (is := [1, 2]) (js := [0, 1, 2, 3, 4, 5, 6, 7, 8, 9]) (fun (A1 : Option Addr) (c1 : Nat) => True) (fun (A1 : Option Addr) (c1 : Nat) => [(3, .slice A1 (hdB m ++ pO m ++ pR m).length c1)]) (fun (A1 : Option Addr) (c1 : Nat) => [rowOf A1 c1 (hdB m ++ pO m ++ pR m)]) (fun (A1 : Option Addr) (c1 : Nat) => []) rfl rfl rfl ?_ ?_
  ·refine GC.sr_ ?_; refine GL.mv_ rfl rfl ?_; refine GL.pure rfl (p_quo rfl rfl (by decide) (quo_b2 _ _ _ _)) ?_; refine GL.pure rfl (p_rem rfl rfl (by decide) (rem_b _ _ _ _)) ?_; refine GL.pure rfl (p_eql rfl rfl) ?_; refine GL.nl_ ?_
   refine GC.cond rfl (fun h2 => ?_) (fun h2 => ?_)
   ·try simp only [tst_, bi1t] at h2
    refine GC.sr_ ?_; refine GL.pure rfl (p_fieldAddr fo_42_12 rfl) ?_; refine GL.step rfl (t_mem rfl (m_loadN (i := 2) rfl rfl ag_30 (vs := [_, _]) sz_30 ⟨rfl, rfl, trivial⟩)) ?_; refine GL.step rfl (t_call rfl fn_87 rfl (is := []) (js := [4]) rfl rfl (by exact rencres_ct m.res _ _ (hr.res (by assumption)))) (GL.ret ?_)
    rintro _ _ _ ⟨A77, cp77, l77, k77, rfl, rfl, rfl⟩
    refine GL.mv_ rfl rfl ?_
    iterate 2 refine GL.pure rfl (p_extract rfl rfl) ?_
    iterate 2 refine GL.as_ rfl rfl ?_
    refine GL.nl_ ?_; refine GC.region ?_
    iterate 2 refine GL.mv_ rfl rfl ?_
    refine GL.freezeB (i := 0) rfl ?_; refine GL.step rfl (t_appendS (i := 0) (k := 0) rfl el_25 rfl rfl rfl rfl (by (try simp only [List.length_append, List.length_cons, List.length_nil, List.length_map, List.length_take, flZ_length, flI_length, leN_length]); first | omega | (have := opB_len (hr.op (by assumption)); omega) | (have := resB_len (hr.res (by assumption)); omega) | (have := grp_rng (hr.grp (by assumption)); omega) | (have := sttB_len (hr.stt (by assumption)); omega) | (have := log_len hr k; have := entB_len (hr.log _ (gt_elem (l := m.log) (k := k) (by omega))); have : k * 400000 ≤ 100000 * 400000 := Nat.mul_le_mul_right _ (by omega); omega)) (fun _ => rfl)) (GL.ex fun v82 => ?_)
    refine GL.rowIs (i := 0) (m' := ((hdB m ++ pO m ++ resB m.res)).length) (cs' := ((hdB m ++ pO m ++ resB m.res)).map u8v) rfl (by first | (simp only [List.length_append, List.length_cons, List.length_nil, List.append_assoc]; done) | (simp only [List.length_append, List.length_cons, List.length_nil, List.append_assoc]; omega) | (simp [leN_length, flI_length, hdB]; done) | (simp [leN_length, flI_length, hdB]; omega) | rfl) (by first | (simp only [List.map_append, List.map_cons, List.map_nil, List.append_assoc]; done) | (simp [leN_length, flI_length, hdB]; done) | rfl) rfl ?_
    refine GL.shape (i := 0) rfl (fun A_b c_b e_b l_b k_b => ?_)
    subst e_b
    refine GL.as_ rfl rfl ?_; refine GL.nil ?_
    exact fun a w h => ⟨(A_b), (c_b), trivial, by rw [show pR m = resB m.res from if_neg (by assumption)]; exact h.cut (is := [0, 0, 0]) (js := [1, 2, 3, 4, 5, 6, 7, 8, 9, 10]) ⟨rfl, rfl, rfl, trivial⟩ rfl rfl⟩
   ·try simp only [tst_, bi1t] at h2
    refine GC.skip ?_
    exact fun a w h => ⟨(_), (_), trivial, by rw [show pR m = [] from if_pos (by simp_all), List.append_nil]; exact h.cut (is := [0, 0, 0]) (js := [0, 1, 2, 3, 4, 5, 6, 7, 8, 9]) ⟨rfl, rfl, rfl, trivial⟩ rfl rfl⟩
  ·intro A1 c1 hj8
   try dsimp only [List.cons_append, List.nil_append] at hj8 ⊢
   refine GC.joinK2 (ks := [1, 4]) (is := [1, 2]) (js := [0, 1, 2, 3, 4, 5, 6, 7, 8, 9]) (fun (A1 : Option Addr) (c1 : Nat) => True) (fun (A1 : Option Addr) (c1 : Nat) => [(3, .slice A1 (hdB m ++ pO m ++ pR m ++ pG m).length c1)]) (fun (A1 : Option Addr) (c1 : Nat) => [rowOf A1 c1 (hdB m ++ pO m ++ pR m ++ pG m)]) (fun (A1 : Option Addr) (c1 : Nat) => []) rfl rfl rfl ?_ ?_
   ·refine GC.sr_ ?_; refine GL.mv_ rfl rfl ?_; refine GL.pure rfl (p_quo rfl rfl (by decide) (quo_b4 _ _ _ _)) ?_; refine GL.pure rfl (p_rem rfl rfl (by decide) (rem_b _ _ _ _)) ?_; refine GL.pure rfl (p_eql rfl rfl) ?_
    refine GL.nl_ ?_; refine GC.cond rfl (fun h3 => ?_) (fun h3 => ?_)
    ·try simp only [tst_, bi1t] at h3
     refine GC.region ?_; refine GL.mv_ rfl rfl ?_; refine GL.pure rfl (p_fieldAddr fo_42_13 rfl) ?_; refine GL.step rfl (t_mem rfl (m_loadN (i := 2) rfl rfl ag_33 (vs := [_, _]) sz_33 ⟨rfl, rfl, trivial⟩)) ?_; refine GL.freezeB (i := 0) rfl ?_
     refine GL.step rfl (t_call rfl fn_88 rfl (is := []) (js := [0, 6]) rfl rfl (by exact r16grp_ct _ (hdB m ++ pO m ++ pR m) _ m.grp _ _ (hr.grp (by assumption)) (by simp only [List.length_append]; omega))) (GL.ret ?_)
     rintro _ _ _ ⟨A90, cp90, l90, k90, rfl, rfl, rfl⟩
     refine GL.as_ rfl rfl ?_; refine GL.nil ?_
     exact fun a w h => ⟨(_), (_), trivial, by rw [show pG m = grpB m.grp from if_neg (by assumption)]; exact h.cut (is := [0, 0, 0]) (js := [1, 2, 3, 4, 5, 6, 7, 8, 9, 10]) ⟨rfl, rfl, rfl, trivial⟩ rfl rfl⟩
    ·try simp only [tst_, bi1t] at h3
     refine GC.skip ?_
     exact fun a w h => ⟨(_), (_), trivial, by rw [show pG m = [] from if_pos (by simp_all), List.append_nil]; exact h.cut (is := [0, 0, 0]) (js := [0, 1, 2, 3, 4, 5, 6, 7, 8, 9]) ⟨rfl, rfl, rfl, trivial⟩ rfl rfl⟩
   ·intro A1 c1 hj11
    try dsimp only [List.cons_append, List.nil_append] at hj11 ⊢
    refine GC.joinK2 (ks := [1]) (is := [1, 2]) (js := [0, 1, 2, 3, 4, 5, 6, 7, 8, 9]) (fun (A1 : Option Addr) (c1 : Nat) => True) (fun (A1 : Option Addr) (c1 : Nat) => [(3, .slice A1 (hdB m ++ pO m ++ pR m ++ pG m ++ pS m).length c1)]) (fun (A1 : Option Addr) (c1 : Nat) => [rowOf A1 c1 (hdB m ++ pO m ++ pR m ++ pG m ++ pS m)]) (fun (A1 : Option Addr) (c1 : Nat) => []) rfl rfl rfl ?_ ?_
    ·refine GC.sr_ ?_; refine GL.mv_ rfl rfl ?_; refine GL.pure rfl (p_quo rfl rfl (by decide) (quo_b8 _ _ _ _)) ?_; refine GL.pure rfl (p_rem rfl rfl (by decide) (rem_b _ _ _ _)) ?_; refine GL.pure rfl (p_eql rfl rfl) ?_
     refine GL.nl_ ?_; refine GC.cond rfl (fun h4 => ?_) (fun h4 => ?_)
     ·try simp only [tst_, bi1t] at h4
      refine GC.seq' ?_
      by_cases hsl : (sttB m.stt).length ≤ 33554432
      ·skip
       refine GC.region ?_; refine GL.pure rfl (p_fieldAddr fo_42_14 rfl) ?_; refine GL.step rfl (t_mem rfl (m_loadN (i := 2) rfl rfl ag_39 (vs := [_, _, _, _, _, _, _]) sz_39 ⟨rfl, rfl, rfl, rfl, rfl, rfl, rfl, trivial⟩)) ?_
       refine GL.step rfl (t_call rfl fn_89 rfl (is := []) (js := [6, 7, 8]) rfl rfl (by exact rencstt_ok m.stt _ _ _ _ _ _ hm.s (hr.stt (by assumption)) hsl)) (GL.ret ?_)
       rintro _ _ _ ⟨A98, cp98, l98, k98, rfl, rfl, rfl⟩
       refine GL.mv_ rfl rfl ?_
       iterate 2 refine GL.pure rfl (p_extract rfl rfl) ?_
       iterate 2 refine GL.as_ rfl rfl ?_
       refine GL.nil (?_ : GC _ _ _ _)
       refine GC.seq' ?_; refine GC.sr_ ?_; refine GL.mv_ rfl rfl ?_; refine GL.pure rfl (p_neq rfl rfl) ?_; refine GL.nl_ ?_; refine GC.cond_false rfl ?_
       refine GC.skip (?_ : GC _ _ _ _)
       refine GC.region ?_
       iterate 2 refine GL.mv_ rfl rfl ?_
       refine GL.freezeB (i := 0) rfl ?_; refine GL.step rfl (t_appendS (i := 0) (k := 0) rfl el_25 rfl rfl rfl rfl (by (try simp only [List.length_append, List.length_cons, List.length_nil, List.length_map, List.length_take, flZ_length, flI_length, leN_length]); first | omega | (have := opB_len (hr.op (by assumption)); omega) | (have := resB_len (hr.res (by assumption)); omega) | (have := grp_rng (hr.grp (by assumption)); omega) | (have := sttB_len (hr.stt (by assumption)); omega) | (have := log_len hr k; have := entB_len (hr.log _ (gt_elem (l := m.log) (k := k) (by omega))); have : k * 400000 ≤ 100000 * 400000 := Nat.mul_le_mul_right _ (by omega); omega)) (fun _ => rfl)) (GL.ex fun v106 => ?_)
       refine GL.rowIs (i := 0) (m' := ((hdB m ++ pO m ++ pR m ++ pG m ++ sttB m.stt)).length) (cs' := ((hdB m ++ pO m ++ pR m ++ pG m ++ sttB m.stt)).map u8v) rfl (by first | (simp only [List.length_append, List.length_cons, List.length_nil, List.append_assoc]; done) | (simp only [List.length_append, List.length_cons, List.length_nil, List.append_assoc]; omega) | (simp [leN_length, flI_length, hdB]; done) | (simp [leN_length, flI_length, hdB]; omega) | rfl) (by first | (simp only [List.map_append, List.map_cons, List.map_nil, List.append_assoc]; done) | (simp [leN_length, flI_length, hdB]; done) | rfl) rfl ?_
       refine GL.shape (i := 0) rfl (fun A_b c_b e_b l_b k_b => ?_)
       subst e_b
       refine GL.as_ rfl rfl ?_; refine GL.nil ?_
       exact fun a w h => ⟨(A_b), (c_b), trivial, by rw [show pS m = sttB m.stt from if_neg (by assumption)]; exact h.cut (is := [0, 0, 0]) (js := [1, 2, 3, 4, 5, 6, 7, 8, 9, 10]) ⟨rfl, rfl, trivial⟩ rfl rfl⟩
      ·skip
       refine GC.region ?_; refine GL.pure rfl (p_fieldAddr fo_42_14 rfl) ?_; refine GL.step rfl (t_mem rfl (m_loadN (i := 2) rfl rfl ag_39 (vs := [_, _, _, _, _, _, _]) sz_39 ⟨rfl, rfl, rfl, rfl, rfl, rfl, rfl, trivial⟩)) ?_
       refine GL.step rfl (t_call rfl fn_89 rfl (is := []) (js := [6, 7, 8]) rfl rfl (by exact rencstt_long m.stt _ _ _ _ _ _ hm.s (hr.stt (by assumption)) (by omega))) (GL.ret ?_)
       rintro _ _ _ ⟨rfl, rfl, rfl⟩
       refine GL.mv_ rfl rfl ?_
       iterate 2 refine GL.pure rfl (p_extract rfl rfl) ?_
       iterate 2 refine GL.as_ rfl rfl ?_
       refine GL.nil (?_ : GC _ _ _ _)
       refine GC.seq' ?_; refine GC.sr_ ?_; refine GL.mv_ rfl rfl ?_; refine GL.pure rfl (p_neq rfl rfl) ?_; refine GL.nl_ ?_; refine GC.cond_true rfl ?_; refine GC.sr_ ?_; refine GL.step rfl (t_make rfl el_25 rfl rfl (by omega) (by omega)) (GL.ex fun b_t103 => ?_)
       rw [reps_u8]
       refine GL.as_ rfl rfl ?_; refine GL.nl_ ?_; refine GC.ret ?_
       refine fun a w h => Fin.back (rs := [.tmp 2]) (vs := [_]) (is := []) (js := []) rfl ⟨rfl, trivial⟩ rfl rfl ?_ h
       clear h
       have e : pS m = sttB m.stt := if_neg (by assumption)
       rw [e] at lS
       exact .inr ⟨by omega, ⟨_, 16777217, _, by omega, rfl⟩, rfl, rfl⟩
     ·try simp only [tst_, bi1t] at h4
      refine GC.skip ?_
      exact fun a w h => ⟨(_), (_), trivial, by rw [show pS m = [] from if_pos (by simp_all), List.append_nil]; exact h.cut (is := [0, 0, 0]) (js := [0, 1, 2, 3, 4, 5, 6, 7, 8, 9]) ⟨rfl, rfl, trivial⟩ rfl rfl⟩
    ·intro A1 c1 hj13
     try dsimp only [List.cons_append, List.nil_append] at hj13 ⊢
     refine GC.sr_ ?_; refine GL.mv_ rfl rfl ?_; refine GL.pure rfl (p_fieldAddr fo_42_15 rfl) ?_; refine GL.step rfl (t_mem rfl (m_load (i := 2) rfl rfl ag_40 rfl)) ?_; refine GL.pure rfl (p_len Tryz.underlying40 rfl) ?_
     refine GL.pure rfl (p_convR (t := 3) (r := ((m.log.length : Nat) : Int)) (by rw [Tryz.underlying3]; simp) Tryz.underlying23 rfl (cvU (by omega) (by omega))) ?_; refine GL.freezeB (i := 0) rfl ?_; refine GL.step rfl (t_call rfl fn_55 rfl (is := []) (js := [0]) rfl rfl (by exact r1put_ct _ (hdB m ++ pO m ++ pR m ++ pG m ++ pS m) _ m.log.length 4 (by omega) (by omega) (by simp only [List.length_append]; omega) (by rw [p256_4]; omega))) (GL.ret ?_)
     rintro _ _ _ ⟨A113, cp113, l113, k113, rfl, rfl, rfl⟩
     refine GL.mv_ rfl rfl ?_
     iterate 2 refine GL.pure rfl (p_extract rfl rfl) ?_
     refine GL.as_ rfl rfl ?_; refine GL.nl_ ?_; refine GC.seq' ?_; refine GC.sr_ ?_; refine GL.as_ rfl rfl ?_; refine GL.nl_ ?_; refine GC.block ?_; refine GC.loopK3 (ks := [1]) (is := [1, 2]) (js := [0, 1, 2, 3, 4, 5, 6, 7, 8, 9, 10]) (fun (k : Nat) (A1 : Option Addr) (c1 : Nat) => k ≤ m.log.length ∧ (preB m ++ (m.log.take k).flatMap entB).length ≤ c1 ∧ c1 ≤ 9223372036854775807) (fun (k : Nat) (A1 : Option Addr) (c1 : Nat) => [(3, .slice A1 (preB m ++ (m.log.take k).flatMap entB).length c1), (11, .int .i64 (k : Int))]) (fun (k : Nat) (A1 : Option Addr) (c1 : Nat) => [rowOf A1 c1 (preB m ++ (m.log.take k).flatMap entB)]) (fun (k : Nat) (A1 : Option Addr) (c1 : Nat) => []) (fun (k : Nat) (A1 : Option Addr) (c1 : Nat) => m.log.length - k) (0) (_) (_) rfl rfl rfl (fun a w h => ⟨⟨by omega, by simp only [List.take_zero, List.flatMap_nil, List.append_nil]; exact l113, k113⟩, by simp only [List.take_zero, List.flatMap_nil, List.append_nil]; exact h.cutK (is := [0, 0, 0]) (js := [0, 1, 2, 3, 4, 5, 6, 7, 8, 9, 10]) (ks := [1]) ⟨rfl, rfl, trivial⟩ rfl rfl rfl⟩) ?_
     intro k A1 c1 hk
     try dsimp only [List.cons_append, List.nil_append] at hk ⊢
     obtain ⟨hk, hc1, hc2⟩ := hk
     refine GC.seq' ?_; refine GC.sr_ ?_; refine GL.mv_ rfl rfl ?_; refine GL.pure rfl (p_fieldAddr fo_42_15 rfl) ?_; refine GL.step rfl (t_mem rfl (m_load (i := 2) rfl rfl ag_40 rfl)) ?_; refine GL.pure rfl (p_len Tryz.underlying40 rfl) ?_
     refine GL.pure rfl (p_lss rfl rfl) ?_; refine GL.mv_ rfl rfl ?_; refine GL.split (i := 121) rfl (fun h5 => ?_) (fun h5 => ?_)
     ·try simp only [tst_, bi1t] at h5
      refine GL.pureG (s := 121) rfl rfl rfl (p_move rfl) ?_; refine GL.pureG (s := 121) rfl rfl rfl (p_len Tryz.underlying25 rfl) ?_; refine GL.pureG (s := 121) rfl rfl rfl (p_leq rfl rfl) ?_; refine GL.pure rfl (p_pick_true rfl rfl) ?_
      refine GL.nl_ ?_; refine GC.cond rfl (fun h6 => ?_) (fun h6 => ?_)
      ·try simp only [tst_, bi1t] at h6
       refine GC.skip (?_ : GC _ _ _ _)
       refine GC.seq' ?_; refine GC.block ?_; refine GC.seq' ?_
       have hel := hm.e _ (gt_elem (l := m.log) (k := k) (by omega))
       refine GC.region ?_; refine GL.pure rfl (p_fieldAddr fo_42_15 rfl) ?_; refine GL.step rfl (t_mem rfl (m_load (i := 2) rfl rfl ag_40 rfl)) ?_; refine GL.mv_ rfl rfl ?_; refine GL.step rfl (t_index (i := 10) rfl rfl rfl rfl Tryz.underlying40 sz_64 (by omega) (gt_ok (by omega) (by omega))) (GL.ex fun p_x132 => GL.ex fun r_x132 => GL.and fun ok_x132 => ?_)
       rcases r_x132 with ⟨_, ⟨_, ⟨_, ⟨_, ⟨_, ⟨⟨_, ⟨_, ⟨_, ⟨⟨Ax132_0, cpx132_0⟩, ⟨Ax132_1, cpx132_1⟩⟩⟩⟩⟩, ⟨_, ⟨Ax132_2, cpx132_2⟩⟩⟩⟩⟩⟩⟩⟩
       refine GL.step rfl (t_mem rfl (m_loadPN (i := 0) rfl rfl ag_64 (vs := [_, _, _, _, _, _, _, _, _, _, _, _]) sz_64 ⟨rfl, rfl, rfl, rfl, rfl, rfl, rfl, rfl, rfl, rfl, rfl, rfl, trivial⟩)) ?_; refine GL.step rfl (t_call rfl fn_90 rfl (is := []) (js := [1, 2, 3]) rfl rfl (by exact rencent_ct (gt m.log (k : Int)) _ _ _ _ _ _ (hr.log _ (gt_elem (by omega))) hel)) (GL.ret ?_)
       rintro _ _ _ ⟨A134, cp134, l134, k134, rfl, rfl, rfl⟩
       refine GL.mv_ rfl rfl ?_
       iterate 2 refine GL.pure rfl (p_extract rfl rfl) ?_
       iterate 2 refine GL.as_ rfl rfl ?_
       refine GL.nil (?_ : GC _ _ _ _)
       refine GC.region ?_
       iterate 2 refine GL.mv_ rfl rfl ?_
       refine GL.freezeB (i := 0) rfl ?_; refine GL.step rfl (t_appendS (i := 0) (k := 0) rfl el_25 rfl rfl rfl rfl (by (try simp only [List.length_append, List.length_cons, List.length_nil, List.length_map, List.length_take, flZ_length, flI_length, leN_length]); first | omega | (have := opB_len (hr.op (by assumption)); omega) | (have := resB_len (hr.res (by assumption)); omega) | (have := grp_rng (hr.grp (by assumption)); omega) | (have := sttB_len (hr.stt (by assumption)); omega) | (have := log_len hr k; have := entB_len (hr.log _ (gt_elem (l := m.log) (k := k) (by omega))); have : k * 400000 ≤ 100000 * 400000 := Nat.mul_le_mul_right _ (by omega); omega)) (fun _ => rfl)) (GL.ex fun v139 => ?_)
       refine GL.rowIs (i := 0) (m' := ((preB m ++ (m.log.take k).flatMap entB ++ entB (gt m.log (k : Int)))).length) (cs' := ((preB m ++ (m.log.take k).flatMap entB ++ entB (gt m.log (k : Int)))).map u8v) rfl (by first | (simp only [List.length_append, List.length_cons, List.length_nil, List.append_assoc]; done) | (simp only [List.length_append, List.length_cons, List.length_nil, List.append_assoc]; omega) | (simp [leN_length, flI_length, hdB]; done) | (simp [leN_length, flI_length, hdB]; omega) | rfl) (by first | (simp only [List.map_append, List.map_cons, List.map_nil, List.append_assoc]; done) | (simp [leN_length, flI_length, hdB]; done) | rfl) rfl ?_
       refine GL.shape (i := 0) rfl (fun A_b c_b e_b l_b k_b => ?_)
       subst e_b
       refine GL.as_ rfl rfl ?_
       refine GL.nil (?_ : GC _ _ _ _)
       refine GC.region ?_; refine GL.mv_ rfl rfl ?_; refine GL.pure rfl (p_add rfl rfl (w64 (by omega) (by omega))) ?_; refine GL.as_ rfl rfl ?_; refine GL.nil ?_
       exact fun a w h => ⟨(k + 1), (A_b), (c_b), (by omega), ⟨by omega, by rw [fm_take (by omega), ← List.append_assoc]; exact l_b, k_b⟩, by rw [fm_take (by omega), ← List.append_assoc]; exact h.cut (is := [0, 0, 0]) (js := [5, 6, 7, 8, 9, 10, 11, 12, 13, 14, 15]) ⟨rfl, rfl, rfl, trivial⟩ rfl rfl⟩
      ·try simp only [tst_, bi1t] at h6
       refine GC.exit (?_ : GC _ _ _ _)
       refine GC.seq' ?_
       by_cases hfit : (bodyB m).length ≤ 16777216
       ·skip
        refine GC.region ?_; refine GL.mv_ rfl rfl ?_; refine GL.as_ rfl rfl ?_
        refine GL.nil (?_ : GC _ _ _ _)
        refine GC.ret ?_
        refine fun a w h => Fin.back (rs := [.tmp 2]) (vs := [_]) (is := [0]) (js := []) rfl ⟨rfl, trivial⟩ rfl rfl ?_ h
        clear h
        have hge := body_ge (m := m) (k := k) hk
        have hpl : (preB m ++ (m.log.take k).flatMap entB).length = (preB m).length + ((m.log.take k).flatMap entB).length := List.length_append
        obtain rfl : k = m.log.length := by omega
        have hbe : preB m ++ m.log.flatMap entB = bodyB m := rfl
        rw [List.take_length, hbe] at hc1
        rw [List.take_length, hbe]
        exact .inl ⟨hfit, _, _, hc1, hc2, rfl, rfl, rfl⟩
       ·skip
        refine GC.region ?_; refine GL.mv_ rfl rfl ?_; refine GL.as_ rfl rfl ?_
        refine GL.nil (?_ : GC _ _ _ _)
        refine GC.ret ?_
        refine fun a w h => Fin.back (rs := [.tmp 2]) (vs := [_]) (is := []) (js := []) rfl ⟨rfl, trivial⟩ rfl rfl ?_ h
        clear h
        refine .inr ⟨by omega, ⟨A1, (preB m ++ (m.log.take k).flatMap entB).length, c1, ?_, rfl⟩, rfl, rfl⟩
        by_cases hkl : k = m.log.length
        ·subst hkl
         rw [List.take_length]
         exact Nat.lt_of_not_le hfit
        ·omega
     ·try simp only [tst_, bi1t] at h5
      iterate 3 refine GL.pass (s := 121) rfl rfl rfl ?_
      refine GL.pure rfl (p_pick_false rfl rfl) ?_; refine GL.nl_ ?_; refine GC.cond_false rfl ?_
      refine GC.exit (?_ : GC _ _ _ _)
      refine GC.seq' ?_
      by_cases hfit : (bodyB m).length ≤ 16777216
      ·skip
       refine GC.region ?_; refine GL.mv_ rfl rfl ?_; refine GL.as_ rfl rfl ?_
       refine GL.nil (?_ : GC _ _ _ _)
       refine GC.ret ?_
       refine fun a w h => Fin.back (rs := [.tmp 2]) (vs := [_]) (is := [0]) (js := []) rfl ⟨rfl, trivial⟩ rfl rfl ?_ h
       clear h
       have hge := body_ge (m := m) (k := k) hk
       have hpl : (preB m ++ (m.log.take k).flatMap entB).length = (preB m).length + ((m.log.take k).flatMap entB).length := List.length_append
       obtain rfl : k = m.log.length := by omega
       have hbe : preB m ++ m.log.flatMap entB = bodyB m := rfl
       rw [List.take_length, hbe] at hc1
       rw [List.take_length, hbe]
       exact .inl ⟨hfit, _, _, hc1, hc2, rfl, rfl, rfl⟩
      ·skip
       refine GC.region ?_; refine GL.mv_ rfl rfl ?_; refine GL.as_ rfl rfl ?_
       refine GL.nil (?_ : GC _ _ _ _)
       refine GC.ret ?_
       refine fun a w h => Fin.back (rs := [.tmp 2]) (vs := [_]) (is := []) (js := []) rfl ⟨rfl, trivial⟩ rfl rfl ?_ h
       clear h
       refine .inr ⟨by omega, ⟨A1, (preB m ++ (m.log.take k).flatMap entB).length, c1, ?_, rfl⟩, rfl, rfl⟩
       by_cases hkl : k = m.log.length
       ·subst hkl
        rw [List.take_length]
        exact Nat.lt_of_not_le hfit
       ·omega
end Go.Proofs.YtdhdmbmknpjhbaaGreat
namespace Go.Proofs.YtdhdmbmknpjhbaaGreat
open Go Go.Sx Go.Proofs
theorem wbody_ok (m : Msg) (s : Lie) (hm : MsgLen m) (hok : msgOk m) (hn : 0 ≤ m.nonce ∧ m.nonce < 18446744073709551616) (hlog : m.log.length < 100000) (hf : (bodyB m).length ≤ 16777216) : Ct Tryz.prog 45 [msgV m s] [] (msgQ m s)
    (fun u G Q => ∃ A cp, (bodyB m).length ≤ cp ∧ cp ≤ 9223372036854775807 ∧ u = .tuple #[.slice A (bodyB m).length cp, .bool true] ∧ G = [rowOf A cp (bodyB m)] ∧ Q = []) :=
  Ct.mono (wbody_all m s hm hok hn hlog) fun u G Q h => h.elim (fun h => h.2) (fun h => by omega)
theorem wbody_long (m : Msg) (s : Lie) (hm : MsgLen m) (hok : msgOk m) (hn : 0 ≤ m.nonce ∧ m.nonce < 18446744073709551616) (hlog : m.log.length < 100000) (hf : ¬ (bodyB m).length ≤ 16777216) : Ct Tryz.prog 45 [msgV m s] [] (msgQ m s)
    (fun u G Q => (∃ A n cp, u = .tuple #[.slice A n cp, .bool false]) ∧ G = [] ∧ Q = []) :=
  Ct.mono (wbody_all m s hm hok hn hlog) fun u G Q h => h.elim (fun h => by omega) (fun h => h.2)
theorem rbody_ok (m : Msg) (s : Lie) (hm : MsgLen m) (hok : msgOk m) (hn : 0 ≤ m.nonce ∧ m.nonce < 18446744073709551616) (hlog : m.log.length < 100000) (hf : (bodyB m).length ≤ 16777216) : Ct Tryz.prog 47 [msgV m s] [] (msgQ m s)
    (fun u G Q => ∃ A cp, (bodyB m).length ≤ cp ∧ cp ≤ 9223372036854775807 ∧ u = .slice A (bodyB m).length cp ∧ G = [rowOf A cp (bodyB m)] ∧ Q = []) :=
  Ct.mono (rbody_all m s hm hok hn hlog) fun u G Q h => h.elim (fun h => h.2) (fun h => by omega)
theorem rbody_long (m : Msg) (s : Lie) (hm : MsgLen m) (hok : msgOk m) (hn : 0 ≤ m.nonce ∧ m.nonce < 18446744073709551616) (hlog : m.log.length < 100000) (hf : ¬ (bodyB m).length ≤ 16777216) : Ct Tryz.prog 47 [msgV m s] [] (msgQ m s)
    (fun u G Q => (∃ A n cp, 16777216 < n ∧ u = .slice A n cp) ∧ G = [] ∧ Q = []) :=
  Ct.mono (rbody_all m s hm hok hn hlog) fun u G Q h => h.elim (fun h => by omega) (fun h => h.2)
theorem wchk_ok (m : Msg) (s : Lie) (hm : MsgLen m) (h : msgOk m) : Ct Tryz.prog 12 [msgV m s] [] (msgQ m s) (fun u G Q => u = .int .i64 0 ∧ G = [] ∧ Q = []) := by
  have := wchk_ct m s hm; rw [msgE_yes h] at this; exact this
theorem wchk_no (m : Msg) (s : Lie) (hm : MsgLen m) (h : ¬ msgOk m) : Ct Tryz.prog 12 [msgV m s] [] (msgQ m s) (fun u G Q => u = .int .i64 160 ∧ G = [] ∧ Q = []) := by
  have := wchk_ct m s hm; rw [msgE_no h] at this; exact this
theorem rchk_ok (m : Msg) (s : Lie) (hm : MsgLen m) (h : msgOk m) : Ct Tryz.prog 13 [msgV m s] [] (msgQ m s) (fun u G Q => u = .int .i64 0 ∧ G = [] ∧ Q = []) := by
  have := rchk_ct m s hm; rw [msgE_yes h] at this; exact this
theorem rchk_no (m : Msg) (s : Lie) (hm : MsgLen m) (h : ¬ msgOk m) : Ct Tryz.prog 13 [msgV m s] [] (msgQ m s) (fun u G Q => u = .int .i64 160 ∧ G = [] ∧ Q = []) := by
  have := rchk_ct m s hm; rw [msgE_no h] at this; exact this
def encF (m : Msg) : Int × List UInt8 := if msgOk m then (if (bodyB m).length ≤ 16777216 then (0, frameB (bodyB m)) else (2, [])) else (160, [])
abbrev EncR (x : Int × List UInt8) (u : Value) (G : List Own) (Q : List Pers) : Prop := ∃ A cp, x.2.length ≤ cp ∧ cp ≤ 9223372036854775807 ∧ u = .tuple #[.slice A x.2.length cp, .int .i64 x.1] ∧ G = [] ∧ Q = [Pers.row Kd.u8 A x.2]
theorem wenc_bad (m : Msg) (s : Lie) (hm : MsgLen m) (h : ¬ msgOk m) : Ct Tryz.prog 16 [msgV m s] [] (msgQ m s) (EncR (160, [])) := by
 refine Ct.intro Tryz.func16 rfl rfl rfl (fun c hc => ?_)
 refine GC.sr_ ?_; refine GL.step rfl (t_box rfl rfl rfl) (GL.ex fun b_t1 => ?_)
 iterate 2 refine GL.as_ rfl rfl ?_
 refine GL.nl_ ?_; refine GC.seq' ?_; refine GC.sr_ ?_; refine GL.step rfl (t_mem rfl (m_loadN (i := 0) rfl rfl ag_42 (vs := [_, _, _, _, _, _, _, _, _, _, _, _, _, _, _, _, _, _, _, _, _, _, _, _, _, _, _, _]) sz_42 ⟨rfl, rfl, rfl, rfl, rfl, rfl, rfl, rfl, rfl, rfl, rfl, rfl, rfl, rfl, rfl, rfl, rfl, rfl, rfl, rfl, rfl, rfl, rfl, rfl, rfl, rfl, rfl, rfl, trivial⟩)) ?_
 refine GL.step rfl (t_call rfl fn_12 rfl (is := []) (js := [0, 1, 2, 3, 4, 5, 6, 7]) rfl rfl (by exact wchk_no m s hm h)) (GL.ret ?_)
 rintro _ _ _ ⟨rfl, rfl, rfl⟩
 refine GL.as_ rfl rfl ?_; refine GL.nl_ ?_; refine GC.sr_ ?_; refine GL.mv_ rfl rfl ?_; refine GL.pure rfl (p_neq rfl rfl) ?_; refine GL.nl_ ?_; refine GC.cond_true rfl ?_; refine GC.sr_ ?_; refine GL.mv_ rfl rfl ?_
 iterate 2 refine GL.as_ rfl rfl ?_
 refine GL.nl_ ?_; refine GC.know (q := Pers.row Kd.u8 none []) (fun _ _ _ => .inl rfl) ?_; refine GC.ret ?_
 refine fun a w h => Fin.back (rs := [.tmp 2, .tmp 3]) (vs := [_, _]) (is := []) (js := [0]) rfl ⟨rfl, rfl, trivial⟩ rfl rfl ?_ h
 clear h
 exact ⟨none, 0, by simp, by simp, rfl, rfl, rfl⟩
theorem wenc_ok (m : Msg) (s : Lie) (hm : MsgLen m) (hn : 0 ≤ m.nonce ∧ m.nonce < 18446744073709551616) (hlog : m.log.length < 100000) (h : msgOk m) (hf : (bodyB m).length ≤ 16777216) : Ct Tryz.prog 16 [msgV m s] [] (msgQ m s) (EncR (0, frameB (bodyB m))) := by
 refine Ct.intro Tryz.func16 rfl rfl rfl (fun c hc => ?_)
 refine GC.sr_ ?_; refine GL.step rfl (t_box rfl rfl rfl) (GL.ex fun b_t1 => ?_)
 iterate 2 refine GL.as_ rfl rfl ?_
 refine GL.nl_ ?_; refine GC.seq' ?_; refine GC.sr_ ?_; refine GL.step rfl (t_mem rfl (m_loadN (i := 0) rfl rfl ag_42 (vs := [_, _, _, _, _, _, _, _, _, _, _, _, _, _, _, _, _, _, _, _, _, _, _, _, _, _, _, _]) sz_42 ⟨rfl, rfl, rfl, rfl, rfl, rfl, rfl, rfl, rfl, rfl, rfl, rfl, rfl, rfl, rfl, rfl, rfl, rfl, rfl, rfl, rfl, rfl, rfl, rfl, rfl, rfl, rfl, rfl, trivial⟩)) ?_
 refine GL.step rfl (t_call rfl fn_12 rfl (is := []) (js := [0, 1, 2, 3, 4, 5, 6, 7]) rfl rfl (by exact wchk_ok m s hm h)) (GL.ret ?_)
 rintro _ _ _ ⟨rfl, rfl, rfl⟩
 refine GL.as_ rfl rfl ?_; refine GL.nl_ ?_; refine GC.sr_ ?_; refine GL.mv_ rfl rfl ?_; refine GL.pure rfl (p_neq rfl rfl) ?_; refine GL.nl_ ?_; refine GC.cond_false rfl ?_
 refine GC.skip (?_ : GC _ _ _ _)
 refine GC.sr_ ?_; refine GL.step rfl (t_mem rfl (m_loadN (i := 0) rfl rfl ag_42 (vs := [_, _, _, _, _, _, _, _, _, _, _, _, _, _, _, _, _, _, _, _, _, _, _, _, _, _, _, _]) sz_42 ⟨rfl, rfl, rfl, rfl, rfl, rfl, rfl, rfl, rfl, rfl, rfl, rfl, rfl, rfl, rfl, rfl, rfl, rfl, rfl, rfl, rfl, rfl, rfl, rfl, rfl, rfl, rfl, rfl, trivial⟩)) ?_
 refine GL.step rfl (t_call rfl fn_45 rfl (is := []) (js := [0, 1, 2, 3, 4, 5, 6, 7]) rfl rfl (by exact wbody_ok m s hm h hn hlog hf)) (GL.ret ?_)
 rintro _ _ _ ⟨A14, cp14, l14, k14, rfl, rfl, rfl⟩
 refine GL.mv_ rfl rfl ?_
 iterate 2 refine GL.pure rfl (p_extract rfl rfl) ?_
 iterate 2 refine GL.as_ rfl rfl ?_
 refine GL.nl_ ?_; refine GC.seq' ?_; refine GC.sr_ ?_; refine GL.mv_ rfl rfl ?_; refine GL.pure rfl (p_not rfl) ?_; refine GL.nl_ ?_; refine GC.cond_false rfl ?_
 refine GC.skip (?_ : GC _ _ _ _)
 refine GC.sr_ ?_; refine GL.freezeB (i := 0) rfl ?_; refine GL.mv_ rfl rfl ?_; refine GL.pure rfl (p_build ze_55 of_55 rfl rfl) ?_; refine GL.step rfl (t_call rfl fn_46 rfl (is := []) (js := [0]) rfl rfl (by exact fwrite_ct _ (bodyB m) _ hf)) (GL.ret ?_)
 rintro _ _ _ ⟨A21, cp21, l21, k21, rfl, rfl, rfl⟩
 iterate 2 refine GL.pure rfl (p_extract rfl rfl) ?_
 iterate 2 refine GL.as_ rfl rfl ?_
 refine GL.nl_ ?_; refine GC.freezeB (i := 0) rfl ?_; refine GC.ret ?_
 refine fun a w h => Fin.back (rs := [.tmp 2, .tmp 3]) (vs := [_, _]) (is := []) (js := [0]) rfl ⟨rfl, rfl, trivial⟩ rfl rfl ?_ h
 clear h
 exact ⟨_, _, l21, k21, rfl, rfl, rfl⟩
theorem wenc_long (m : Msg) (s : Lie) (hm : MsgLen m) (hn : 0 ≤ m.nonce ∧ m.nonce < 18446744073709551616) (hlog : m.log.length < 100000) (h : msgOk m) (hf : ¬ (bodyB m).length ≤ 16777216) : Ct Tryz.prog 16 [msgV m s] [] (msgQ m s) (EncR (2, [])) := by
 refine Ct.intro Tryz.func16 rfl rfl rfl (fun c hc => ?_)
 refine GC.sr_ ?_; refine GL.step rfl (t_box rfl rfl rfl) (GL.ex fun b_t1 => ?_)
 iterate 2 refine GL.as_ rfl rfl ?_
 refine GL.nl_ ?_; refine GC.seq' ?_; refine GC.sr_ ?_; refine GL.step rfl (t_mem rfl (m_loadN (i := 0) rfl rfl ag_42 (vs := [_, _, _, _, _, _, _, _, _, _, _, _, _, _, _, _, _, _, _, _, _, _, _, _, _, _, _, _]) sz_42 ⟨rfl, rfl, rfl, rfl, rfl, rfl, rfl, rfl, rfl, rfl, rfl, rfl, rfl, rfl, rfl, rfl, rfl, rfl, rfl, rfl, rfl, rfl, rfl, rfl, rfl, rfl, rfl, rfl, trivial⟩)) ?_
 refine GL.step rfl (t_call rfl fn_12 rfl (is := []) (js := [0, 1, 2, 3, 4, 5, 6, 7]) rfl rfl (by exact wchk_ok m s hm h)) (GL.ret ?_)
 rintro _ _ _ ⟨rfl, rfl, rfl⟩
 refine GL.as_ rfl rfl ?_; refine GL.nl_ ?_; refine GC.sr_ ?_; refine GL.mv_ rfl rfl ?_; refine GL.pure rfl (p_neq rfl rfl) ?_; refine GL.nl_ ?_; refine GC.cond_false rfl ?_
 refine GC.skip (?_ : GC _ _ _ _)
 refine GC.sr_ ?_; refine GL.step rfl (t_mem rfl (m_loadN (i := 0) rfl rfl ag_42 (vs := [_, _, _, _, _, _, _, _, _, _, _, _, _, _, _, _, _, _, _, _, _, _, _, _, _, _, _, _]) sz_42 ⟨rfl, rfl, rfl, rfl, rfl, rfl, rfl, rfl, rfl, rfl, rfl, rfl, rfl, rfl, rfl, rfl, rfl, rfl, rfl, rfl, rfl, rfl, rfl, rfl, rfl, rfl, rfl, rfl, trivial⟩)) ?_
 refine GL.step rfl (t_call rfl fn_45 rfl (is := []) (js := [0, 1, 2, 3, 4, 5, 6, 7]) rfl rfl (by exact wbody_long m s hm h hn hlog hf)) (GL.ret ?_)
 rintro _ _ _ ⟨⟨A14, n14, cp14, rfl⟩, rfl, rfl⟩
 refine GL.mv_ rfl rfl ?_
 iterate 2 refine GL.pure rfl (p_extract rfl rfl) ?_
 iterate 2 refine GL.as_ rfl rfl ?_
 refine GL.nl_ ?_; refine GC.seq' ?_; refine GC.sr_ ?_; refine GL.mv_ rfl rfl ?_; refine GL.pure rfl (p_not rfl) ?_; refine GL.nl_ ?_; refine GC.cond_true rfl ?_; refine GC.sr_ ?_
 iterate 2 refine GL.as_ rfl rfl ?_
 refine GL.nl_ ?_; refine GC.know (q := Pers.row Kd.u8 none []) (fun _ _ _ => .inl rfl) ?_; refine GC.ret ?_
 refine fun a w h => Fin.back (rs := [.tmp 2, .tmp 3]) (vs := [_, _]) (is := []) (js := [0]) rfl ⟨rfl, rfl, trivial⟩ rfl rfl ?_ h
 clear h
 exact ⟨none, 0, by simp, by simp, rfl, rfl, rfl⟩
theorem wenc_ct (m : Msg) (s : Lie) (hm : MsgLen m) (hn : 0 ≤ m.nonce ∧ m.nonce < 18446744073709551616) (hlog : m.log.length < 100000) : Ct Tryz.prog 16 [msgV m s] [] (msgQ m s) (EncR (encF m)) := by
  by_cases h : msgOk m
  · by_cases hf : (bodyB m).length ≤ 16777216
    · rw [show encF m = (0, frameB (bodyB m)) by rw [encF, if_pos h, if_pos hf]]; exact wenc_ok m s hm hn hlog h hf
    · rw [show encF m = (2, []) by rw [encF, if_pos h, if_neg hf]]; exact wenc_long m s hm hn hlog h hf
  · rw [show encF m = (160, []) by rw [encF, if_neg h]]; exact wenc_bad m s hm h
theorem renc_bad (m : Msg) (s : Lie) (hm : MsgLen m) (h : ¬ msgOk m) : Ct Tryz.prog 17 [msgV m s] [] (msgQ m s) (EncR (160, [])) := by
 refine Ct.intro Tryz.func17 rfl rfl rfl (fun c hc => ?_)
 refine GC.sr_ ?_; refine GL.step rfl (t_box rfl rfl rfl) (GL.ex fun b_t1 => ?_)
 iterate 2 refine GL.as_ rfl rfl ?_
 refine GL.nl_ ?_; refine GC.seq' ?_; refine GC.sr_ ?_; refine GL.step rfl (t_mem rfl (m_loadN (i := 0) rfl rfl ag_42 (vs := [_, _, _, _, _, _, _, _, _, _, _, _, _, _, _, _, _, _, _, _, _, _, _, _, _, _, _, _]) sz_42 ⟨rfl, rfl, rfl, rfl, rfl, rfl, rfl, rfl, rfl, rfl, rfl, rfl, rfl, rfl, rfl, rfl, rfl, rfl, rfl, rfl, rfl, rfl, rfl, rfl, rfl, rfl, rfl, rfl, trivial⟩)) ?_
 refine GL.step rfl (t_call rfl fn_13 rfl (is := []) (js := [0, 1, 2, 3, 4, 5, 6, 7]) rfl rfl (by exact rchk_no m s hm h)) (GL.ret ?_)
 rintro _ _ _ ⟨rfl, rfl, rfl⟩
 refine GL.pure rfl (p_neq rfl rfl) ?_; refine GL.nl_ ?_; refine GC.cond_true rfl ?_; refine GC.sr_ ?_
 iterate 2 refine GL.as_ rfl rfl ?_
 refine GL.nl_ ?_; refine GC.know (q := Pers.row Kd.u8 none []) (fun _ _ _ => .inl rfl) ?_; refine GC.ret ?_
 refine fun a w h => Fin.back (rs := [.tmp 2, .tmp 3]) (vs := [_, _]) (is := []) (js := [0]) rfl ⟨rfl, rfl, trivial⟩ rfl rfl ?_ h
 clear h
 exact ⟨none, 0, by simp, by simp, rfl, rfl, rfl⟩
theorem renc_ok (m : Msg) (s : Lie) (hm : MsgLen m) (hn : 0 ≤ m.nonce ∧ m.nonce < 18446744073709551616) (hlog : m.log.length < 100000) (h : msgOk m) (hf : (bodyB m).length ≤ 16777216) : Ct Tryz.prog 17 [msgV m s] [] (msgQ m s) (EncR (0, frameB (bodyB m))) := by
 refine Ct.intro Tryz.func17 rfl rfl rfl (fun c hc => ?_)
 refine GC.sr_ ?_; refine GL.step rfl (t_box rfl rfl rfl) (GL.ex fun b_t1 => ?_)
 iterate 2 refine GL.as_ rfl rfl ?_
 refine GL.nl_ ?_; refine GC.seq' ?_; refine GC.sr_ ?_; refine GL.step rfl (t_mem rfl (m_loadN (i := 0) rfl rfl ag_42 (vs := [_, _, _, _, _, _, _, _, _, _, _, _, _, _, _, _, _, _, _, _, _, _, _, _, _, _, _, _]) sz_42 ⟨rfl, rfl, rfl, rfl, rfl, rfl, rfl, rfl, rfl, rfl, rfl, rfl, rfl, rfl, rfl, rfl, rfl, rfl, rfl, rfl, rfl, rfl, rfl, rfl, rfl, rfl, rfl, rfl, trivial⟩)) ?_
 refine GL.step rfl (t_call rfl fn_13 rfl (is := []) (js := [0, 1, 2, 3, 4, 5, 6, 7]) rfl rfl (by exact rchk_ok m s hm h)) (GL.ret ?_)
 rintro _ _ _ ⟨rfl, rfl, rfl⟩
 refine GL.pure rfl (p_neq rfl rfl) ?_; refine GL.nl_ ?_; refine GC.cond_false rfl ?_
 refine GC.skip (?_ : GC _ _ _ _)
 refine GC.sr_ ?_; refine GL.step rfl (t_mem rfl (m_loadN (i := 0) rfl rfl ag_42 (vs := [_, _, _, _, _, _, _, _, _, _, _, _, _, _, _, _, _, _, _, _, _, _, _, _, _, _, _, _]) sz_42 ⟨rfl, rfl, rfl, rfl, rfl, rfl, rfl, rfl, rfl, rfl, rfl, rfl, rfl, rfl, rfl, rfl, rfl, rfl, rfl, rfl, rfl, rfl, rfl, rfl, rfl, rfl, rfl, rfl, trivial⟩)) ?_
 refine GL.step rfl (t_call rfl fn_47 rfl (is := []) (js := [0, 1, 2, 3, 4, 5, 6, 7]) rfl rfl (by exact rbody_ok m s hm h hn hlog hf)) (GL.ret ?_)
 rintro _ _ _ ⟨A8, cp8, l8, k8, rfl, rfl, rfl⟩
 refine GL.freezeB (i := 0) rfl ?_; refine GL.pure rfl (p_build ze_55 of_55 rfl rfl) ?_; refine GL.step rfl (t_call rfl fn_20 rfl (is := []) (js := [0]) rfl rfl (by exact rwrite_ct _ (bodyB m) _ hf)) (GL.ret ?_)
 rintro _ _ _ ⟨A10, cp10, l10, k10, rfl, rfl, rfl⟩
 iterate 2 refine GL.pure rfl (p_extract rfl rfl) ?_
 iterate 2 refine GL.as_ rfl rfl ?_
 refine GL.nl_ ?_; refine GC.freezeB (i := 0) rfl ?_; refine GC.ret ?_
 refine fun a w h => Fin.back (rs := [.tmp 2, .tmp 3]) (vs := [_, _]) (is := []) (js := [0]) rfl ⟨rfl, rfl, trivial⟩ rfl rfl ?_ h
 clear h
 exact ⟨_, _, l10, k10, rfl, rfl, rfl⟩
theorem renc_long (m : Msg) (s : Lie) (hm : MsgLen m) (hn : 0 ≤ m.nonce ∧ m.nonce < 18446744073709551616) (hlog : m.log.length < 100000) (h : msgOk m) (hf : ¬ (bodyB m).length ≤ 16777216) : Ct Tryz.prog 17 [msgV m s] [] (msgQ m s) (EncR (2, [])) := by
 refine Ct.intro Tryz.func17 rfl rfl rfl (fun c hc => ?_)
 refine GC.sr_ ?_; refine GL.step rfl (t_box rfl rfl rfl) (GL.ex fun b_t1 => ?_)
 iterate 2 refine GL.as_ rfl rfl ?_
 refine GL.nl_ ?_; refine GC.seq' ?_; refine GC.sr_ ?_; refine GL.step rfl (t_mem rfl (m_loadN (i := 0) rfl rfl ag_42 (vs := [_, _, _, _, _, _, _, _, _, _, _, _, _, _, _, _, _, _, _, _, _, _, _, _, _, _, _, _]) sz_42 ⟨rfl, rfl, rfl, rfl, rfl, rfl, rfl, rfl, rfl, rfl, rfl, rfl, rfl, rfl, rfl, rfl, rfl, rfl, rfl, rfl, rfl, rfl, rfl, rfl, rfl, rfl, rfl, rfl, trivial⟩)) ?_
 refine GL.step rfl (t_call rfl fn_13 rfl (is := []) (js := [0, 1, 2, 3, 4, 5, 6, 7]) rfl rfl (by exact rchk_ok m s hm h)) (GL.ret ?_)
 rintro _ _ _ ⟨rfl, rfl, rfl⟩
 refine GL.pure rfl (p_neq rfl rfl) ?_; refine GL.nl_ ?_; refine GC.cond_false rfl ?_
 refine GC.skip (?_ : GC _ _ _ _)
 refine GC.sr_ ?_; refine GL.step rfl (t_mem rfl (m_loadN (i := 0) rfl rfl ag_42 (vs := [_, _, _, _, _, _, _, _, _, _, _, _, _, _, _, _, _, _, _, _, _, _, _, _, _, _, _, _]) sz_42 ⟨rfl, rfl, rfl, rfl, rfl, rfl, rfl, rfl, rfl, rfl, rfl, rfl, rfl, rfl, rfl, rfl, rfl, rfl, rfl, rfl, rfl, rfl, rfl, rfl, rfl, rfl, rfl, rfl, trivial⟩)) ?_
 refine GL.step rfl (t_call rfl fn_47 rfl (is := []) (js := [0, 1, 2, 3, 4, 5, 6, 7]) rfl rfl (by exact rbody_long m s hm h hn hlog hf)) (GL.ret ?_)
 rintro _ _ _ ⟨⟨A8, n8, cp8, hn8, rfl⟩, rfl, rfl⟩
 refine GL.pure rfl (p_build ze_55 of_55 rfl rfl) ?_; refine GL.step rfl (t_call rfl fn_20 rfl (is := []) (js := []) rfl rfl (by exact rwrite_long _ n8 _ hn8)) (GL.ret ?_)
 rintro _ _ _ ⟨rfl, rfl, rfl⟩
 iterate 2 refine GL.pure rfl (p_extract rfl rfl) ?_
 iterate 2 refine GL.as_ rfl rfl ?_
 refine GL.nl_ ?_; refine GC.know (q := Pers.row Kd.u8 none []) (fun _ _ _ => .inl rfl) ?_; refine GC.ret ?_
 refine fun a w h => Fin.back (rs := [.tmp 2, .tmp 3]) (vs := [_, _]) (is := []) (js := [0]) rfl ⟨rfl, rfl, trivial⟩ rfl rfl ?_ h
 clear h
 exact ⟨none, 0, by simp, by simp, rfl, rfl, rfl⟩
theorem renc_ct (m : Msg) (s : Lie) (hm : MsgLen m) (hn : 0 ≤ m.nonce ∧ m.nonce < 18446744073709551616) (hlog : m.log.length < 100000) : Ct Tryz.prog 17 [msgV m s] [] (msgQ m s) (EncR (encF m)) := by
  by_cases h : msgOk m
  · by_cases hf : (bodyB m).length ≤ 16777216
    · rw [show encF m = (0, frameB (bodyB m)) by rw [encF, if_pos h, if_pos hf]]; exact renc_ok m s hm hn hlog h hf
    · rw [show encF m = (2, []) by rw [encF, if_pos h, if_neg hf]]; exact renc_long m s hm hn hlog h hf
  · rw [show encF m = (160, []) by rw [encF, if_neg h]]; exact renc_bad m s hm h
theorem wireWrites_ct (m : Msg) (s : Lie) (hm : MsgLen m) (hn : 0 ≤ m.nonce ∧ m.nonce < 18446744073709551616) : Ct Tryz.prog 4 [msgV m s] [] (msgQ m s) (fun u G Q => u = .bool true ∧ G = [] ∧ Q = []) := by
 refine Ct.intro Tryz.func4 rfl rfl rfl (fun c hc => ?_)
 refine GC.sr_ ?_; refine GL.step rfl (t_box rfl rfl rfl) (GL.ex fun b_t1 => ?_); refine GL.as_ rfl rfl ?_; refine GL.nl_ ?_; refine GC.seq' ?_; refine GC.sr_ ?_; refine GL.step rfl (t_mem rfl (m_loadN (i := 0) rfl rfl ag_42 (vs := [_, _, _, _, _, _, _, _, _, _, _, _, _, _, _, _, _, _, _, _, _, _, _, _, _, _, _, _]) sz_42 ⟨rfl, rfl, rfl, rfl, rfl, rfl, rfl, rfl, rfl, rfl, rfl, rfl, rfl, rfl, rfl, rfl, rfl, rfl, rfl, rfl, rfl, rfl, rfl, rfl, rfl, rfl, rfl, rfl, trivial⟩)) ?_
 refine GL.step rfl (t_call rfl fn_10 rfl (is := []) (js := [0, 1, 2, 3, 4, 5, 6, 7]) rfl rfl (by exact small_ct m s hm)) (GL.ret ?_)
 rintro _ _ _ ⟨b8, hb8, rfl, rfl, rfl⟩
 refine GL.pure rfl (p_not rfl) ?_; refine GL.nl_ ?_; refine GC.cond rfl (fun h1 => ?_) (fun h1 => ?_)
 ·try simp only [tst_] at h1
  first
  | (exfalso; first | exact h1 rfl | exact h1 trivial | (simp at h1; done))
  |(skip
    refine GC.sr_ ?_; refine GL.step rfl (t_call rfl fn_11 rfl (is := []) (js := []) rfl rfl (by exact awake_ct)) (GL.ret ?_)
    rintro _ _ _ ⟨rfl, rfl, rfl⟩
    refine GL.as_ rfl rfl ?_; refine GL.nl_ ?_; refine GC.ret ?_
    refine fun a w h => Fin.back (rs := [.tmp 2]) (vs := [_]) (is := []) (js := []) rfl ⟨rfl, trivial⟩ rfl rfl ?_ h
    clear h
    exact ⟨rfl, rfl, rfl⟩)
 ·try simp only [tst_] at h1
  first
  | (exfalso; first | exact h1 rfl | exact h1 trivial | (simp at h1; done))
  |(skip
    refine GC.skip (?_ : GC _ _ _ _)
    refine GC.sr_ ?_; refine GL.step rfl (t_mem rfl (m_loadN (i := 0) rfl rfl ag_42 (vs := [_, _, _, _, _, _, _, _, _, _, _, _, _, _, _, _, _, _, _, _, _, _, _, _, _, _, _, _]) sz_42 ⟨rfl, rfl, rfl, rfl, rfl, rfl, rfl, rfl, rfl, rfl, rfl, rfl, rfl, rfl, rfl, rfl, rfl, rfl, rfl, rfl, rfl, rfl, rfl, rfl, rfl, rfl, rfl, rfl, trivial⟩)) ?_
    refine GL.step rfl (t_call rfl fn_16 rfl (is := []) (js := [0, 1, 2, 3, 4, 5, 6, 7]) rfl rfl (by exact wenc_ct m s hm hn (hb8 (by assumption)))) (GL.ret ?_)
    rintro _ _ _ ⟨A13, cp13, l13, k13, rfl, rfl, rfl⟩
    refine GL.mv_ rfl rfl ?_
    iterate 2 refine GL.pure rfl (p_extract rfl rfl) ?_
    iterate 2 refine GL.as_ rfl rfl ?_
    refine GL.nl_ ?_; refine GC.sr_ ?_; refine GL.step rfl (t_mem rfl (m_loadN (i := 0) rfl rfl ag_42 (vs := [_, _, _, _, _, _, _, _, _, _, _, _, _, _, _, _, _, _, _, _, _, _, _, _, _, _, _, _]) sz_42 ⟨rfl, rfl, rfl, rfl, rfl, rfl, rfl, rfl, rfl, rfl, rfl, rfl, rfl, rfl, rfl, rfl, rfl, rfl, rfl, rfl, rfl, rfl, rfl, rfl, rfl, rfl, rfl, rfl, trivial⟩)) ?_
    refine GL.step rfl (t_call rfl fn_17 rfl (is := []) (js := [1, 2, 3, 4, 5, 6, 7, 8]) rfl rfl (by exact renc_ct m s hm hn (hb8 (by assumption)))) (GL.ret ?_)
    rintro _ _ _ ⟨A18, cp18, l18, k18, rfl, rfl, rfl⟩
    refine GL.mv_ rfl rfl ?_
    iterate 2 refine GL.pure rfl (p_extract rfl rfl) ?_
    iterate 2 refine GL.as_ rfl rfl ?_
    refine GL.nl_ ?_; refine GC.sr_ ?_; refine GL.mv_ rfl rfl ?_; refine GL.step rfl (t_mem rfl (m_str (i := 1) rfl rfl Tryz.underlying25 Tryz.underlying5 Tryz.underlying9)) ?_; refine GL.mv_ rfl rfl ?_; refine GL.step rfl (t_mem rfl (m_str (i := 0) rfl rfl Tryz.underlying25 Tryz.underlying5 Tryz.underlying9)) ?_
    refine GL.pure rfl (p_seql rfl rfl) ?_; refine GL.mv_ rfl rfl ?_; refine GL.split (i := 26) rfl (fun h2 => ?_) (fun h2 => ?_)
    ·try simp only [tst_] at h2
     first
     | (exfalso; first | exact h2 rfl | exact h2 trivial | (simp at h2; done))
     |(skip
       iterate 2 refine GL.pureG (s := 26) rfl rfl rfl (p_move rfl) ?_
       refine GL.pureG (s := 26) rfl rfl rfl (p_eql rfl rfl) ?_; refine GL.pure rfl (p_pick_true rfl rfl) ?_; refine GL.mv_ rfl rfl ?_; refine GL.split (i := 31) rfl (fun h3 => ?_) (fun h3 => ?_)
       ·try simp only [tst_] at h3
        first
        | (exfalso; first | exact h3 rfl | exact h3 trivial | (simp at h3; done))
        |(skip
          refine GL.stepG rfl (s := 31) rfl rfl (t_call rfl fn_11 rfl (is := []) (js := []) rfl rfl (by exact awake_ct)) (GL.ret ?_)
          rintro _ _ _ ⟨rfl, rfl, rfl⟩
          refine GL.pure rfl (p_pick_true rfl rfl) ?_; refine GL.as_ rfl rfl ?_; refine GL.nl_ ?_; refine GC.ret ?_
          refine fun a w h => Fin.back (rs := [.tmp 2]) (vs := [_]) (is := []) (js := []) rfl ⟨rfl, trivial⟩ rfl rfl ?_ h
          clear h
          exact ⟨rfl, rfl, rfl⟩)
       ·try simp only [tst_] at h3
        first
        | (exfalso; first | exact h3 rfl | exact h3 trivial | (simp at h3; done))
        |(skip
          refine GL.pass (s := 31) rfl rfl rfl ?_; refine GL.pure rfl (p_pick_false rfl rfl) ?_; refine GL.as_ rfl rfl ?_; refine GL.nl_ ?_; refine GC.ret ?_
          refine fun a w h => Fin.back (rs := [.tmp 2]) (vs := [_]) (is := []) (js := []) rfl ⟨rfl, trivial⟩ rfl rfl ?_ h
          clear h
          exact ⟨rfl, rfl, rfl⟩))
    ·try simp only [tst_] at h2
     first
     | (exfalso; first | exact h2 rfl | exact h2 trivial | (simp at h2; done))
     |(skip
       iterate 3 refine GL.pass (s := 26) rfl rfl rfl ?_
       refine GL.pure rfl (p_pick_false rfl rfl) ?_; refine GL.mv_ rfl rfl ?_; refine GL.pass (s := 31) rfl rfl rfl ?_; refine GL.pure rfl (p_pick_false rfl rfl) ?_; refine GL.as_ rfl rfl ?_; refine GL.nl_ ?_; refine GC.ret ?_
       refine fun a w h => Fin.back (rs := [.tmp 2]) (vs := [_]) (is := []) (js := []) rfl ⟨rfl, trivial⟩ rfl rfl ?_ h
       clear h
       exact ⟨rfl, rfl, rfl⟩))
theorem nonce_of {m : Msg} (h : okMsg m) : 0 ≤ m.nonce ∧ m.nonce < 18446744073709551616 := by
  have := h.2.2.2.2.2.2.2.2.1
  simp [Lit.wf] at this
  have e1 : IntKind.u64.min = 0 := by decide
  have e2 : IntKind.u64.max = 18446744073709551615 := by decide
  omega
end Go.Proofs.YtdhdmbmknpjhbaaGreat
