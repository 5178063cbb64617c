/- Texts of this claim, in one: what the law leans on (part 3). -/
import Derived.Test.YtdhdmbmknpjhbaaGreatR2
set_option linter.unusedVariables false
set_option linter.unusedSimpArgs false
set_option maxRecDepth 100000
namespace Go.Proofs.YtdhdmbmknpjhbaaGreat
open Go Go.Sx Go.Proofs
theorem mgroup_ct (e : Int) (A : Option Addr) (l : List Int) (cp : Nat) (hl : l.length ≤ 140737488355328) : Ct Tryz.prog 62 [grpV e A l.length cp] [] [Pers.row kI A l] (fun u G Q => u = .int .i64 (if groupOk e l = true then 0 else 71) ∧ G = [] ∧ Q = []) := by
 refine Ct.intro Tryz.func62 rfl rfl rfl (fun c hc => ?_)
 refine GC.sr_ ?_; refine GL.step rfl (t_box rfl rfl rfl) (GL.ex fun b_t1 => ?_); refine GL.as_ rfl rfl ?_; refine GL.nl_ ?_; refine GC.sr_ ?_; refine GL.pure rfl (p_fieldAddr fo_33_0 rfl) ?_; refine GL.step rfl (t_mem rfl (m_load (i := 0) rfl rfl ag_3 rfl)) ?_
 refine GL.pure rfl (p_geq rfl rfl) ?_; refine GL.mv_ rfl rfl ?_; refine GL.split (i := 10) rfl (fun h1 => ?_) (fun h1 => ?_)
 ·try simp only [tst_] at h1
  refine GL.pureG (s := 10) rfl rfl rfl (p_fieldAddr fo_33_0 rfl) ?_; refine GL.stepG rfl (s := 10) rfl rfl (t_mem rfl (m_load (i := 0) rfl rfl ag_3 rfl)) ?_; refine GL.pureG (s := 10) rfl rfl rfl (p_leq rfl rfl) ?_; refine GL.pure rfl (p_pick_true rfl rfl) ?_
  refine GL.mv_ rfl rfl ?_; refine GL.split (i := 15) rfl (fun h2 => ?_) (fun h2 => ?_)
  ·try simp only [tst_] at h2
   refine GL.pureG (s := 15) rfl rfl rfl (p_fieldAddr fo_33_1 rfl) ?_; refine GL.stepG rfl (s := 15) rfl rfl (t_mem rfl (m_load (i := 0) rfl rfl ag_31 rfl)) ?_; refine GL.pureG (s := 15) rfl rfl rfl (p_len Tryz.underlying31 rfl) ?_
   refine GL.pureG (s := 15) rfl rfl rfl (p_gtr rfl rfl) ?_; refine GL.pure rfl (p_pick_true rfl rfl) ?_; refine GL.mv_ rfl rfl ?_; refine GL.split (i := 21) rfl (fun h3 => ?_) (fun h3 => ?_)
   ·try simp only [tst_] at h3
    refine GL.pureG (s := 21) rfl rfl rfl (p_fieldAddr fo_33_1 rfl) ?_; refine GL.stepG rfl (s := 21) rfl rfl (t_mem rfl (m_load (i := 0) rfl rfl ag_31 rfl)) ?_; refine GL.pureG (s := 21) rfl rfl rfl (p_len Tryz.underlying31 rfl) ?_
    refine GL.pureG (s := 21) rfl rfl rfl (p_leq rfl rfl) ?_; refine GL.pure rfl (p_pick_true rfl rfl) ?_; refine GL.as_ rfl rfl ?_; refine GL.nl_ ?_; refine GC.sr_ ?_; refine GL.as_ rfl rfl ?_; refine GL.nl_ ?_; refine GC.seq' ?_
    refine GC.sr_ ?_; refine GL.pure rfl (p_fieldAddr fo_33_1 rfl) ?_; refine GL.step rfl (t_mem rfl (m_load (i := 0) rfl rfl ag_31 rfl)) ?_; refine GL.pure rfl (p_len Tryz.underlying31 rfl) ?_; refine GL.mv_ rfl rfl ?_; refine GL.nl_ ?_
    refine GC.block ?_; refine GC.loopK2 (ks := [28, 29]) (is := [0]) (js := [0]) (fun (k : Nat) (b : Bool) => k ≤ l.length ∧ groupOk e l = (b && incI (lastI l k) (l.drop k))) (fun (k : Nat) (b : Bool) => [(3, .bool b), (4, .int .i64 (lastI l k)), (30, .int .i64 (k : Int))]) (fun (k : Nat) (b : Bool) => []) (fun (k : Nat) (b : Bool) => []) (fun (k : Nat) (b : Bool) => l.length - k) (0) (_) rfl rfl rfl (fun a w h => ⟨⟨by omega, by unfold groupOk; congr 1; rw [Bool.eq_iff_iff]; (try simp) <;> omega⟩, h.cutK (is := [0]) (js := [0]) (ks := [28, 29]) ⟨rfl, rfl, rfl, trivial⟩ rfl rfl rfl⟩) ?_
    intro k b hk
    try dsimp only [List.cons_append, List.nil_append] at hk ⊢
    obtain ⟨hk, he⟩ := hk
    refine GC.sr_ ?_; refine GL.pure rfl (p_lss rfl rfl) ?_; refine GL.nl_ ?_; refine GC.seq' ?_; refine GC.cond rfl (fun h4 => ?_) (fun h4 => ?_)
    ·try simp only [tst_] at h4
     refine GC.skip (?_ : GC _ _ _ _)
     refine GC.seq' ?_; refine GC.block ?_; refine GC.sr_ ?_; refine GL.step rfl (t_index (i := 0) rfl rfl rfl rfl Tryz.underlying31 sz_3 (by omega) (gt_ok (by omega) (by omega))) (GL.ex fun p_x32 => GL.ex fun r_x32 => GL.and fun ok_x32 => ?_)
     rcases r_x32 with _
     refine GL.step rfl (t_mem rfl (m_loadP (i := 0) rfl rfl ag_3 rfl)) ?_; refine GL.as_ rfl rfl ?_; refine GL.nl_ ?_; refine GC.sr_ ?_
     iterate 2 refine GL.mv_ rfl rfl ?_
     refine GL.split (i := 35) rfl (fun h5 => ?_) (fun h5 => ?_)
     ·try simp only [tst_] at h5
      iterate 2 refine GL.pureG (s := 35) rfl rfl rfl (p_move rfl) ?_
      refine GL.pureG (s := 35) rfl rfl rfl (p_gtr rfl rfl) ?_; refine GL.pure rfl (p_pick_true rfl rfl) ?_; refine GL.mv_ rfl rfl ?_; refine GL.split (i := 40) rfl (fun h6 => ?_) (fun h6 => ?_)
      ·try simp only [tst_] at h6
       refine GL.pureG (s := 40) rfl rfl rfl (p_move rfl) ?_; refine GL.pureG (s := 40) rfl rfl rfl (p_lss rfl rfl) ?_; refine GL.pure rfl (p_pick_true rfl rfl) ?_; refine GL.as_ rfl rfl ?_; refine GL.nl_ ?_; refine GC.region ?_
       refine GL.mv_ rfl rfl ?_; refine GL.as_ rfl rfl ?_
       refine GL.nil (?_ : GC _ _ _ _)
       refine GC.region ?_; refine GL.pure rfl (p_add rfl rfl (w64 (by omega) (by omega))) ?_; refine GL.mv_ rfl rfl ?_; refine GL.nil ?_
       exact fun a w h => ⟨(k + 1), (_), (by omega), ⟨by omega, grp_next (by omega) he (by rw [Bool.eq_iff_iff]; (try simp [*]) <;> omega)⟩, h.cut (is := [0]) (js := [1]) ⟨rfl, rfl, rfl, rfl, rfl, trivial⟩ rfl rfl⟩
      ·try simp only [tst_] at h6
       iterate 2 refine GL.pass (s := 40) rfl rfl rfl ?_
       refine GL.pure rfl (p_pick_false rfl rfl) ?_; refine GL.as_ rfl rfl ?_; refine GL.nl_ ?_; refine GC.region ?_; refine GL.mv_ rfl rfl ?_; refine GL.as_ rfl rfl ?_
       refine GL.nil (?_ : GC _ _ _ _)
       refine GC.region ?_; refine GL.pure rfl (p_add rfl rfl (w64 (by omega) (by omega))) ?_; refine GL.mv_ rfl rfl ?_; refine GL.nil ?_
       exact fun a w h => ⟨(k + 1), (_), (by omega), ⟨by omega, grp_next (by omega) he (by rw [Bool.eq_iff_iff]; (try simp [*]) <;> omega)⟩, h.cut (is := [0]) (js := [1]) ⟨rfl, rfl, rfl, rfl, rfl, trivial⟩ rfl rfl⟩
     ·try simp only [tst_] at h5
      iterate 3 refine GL.pass (s := 35) rfl rfl rfl ?_
      refine GL.pure rfl (p_pick_false rfl rfl) ?_; refine GL.mv_ rfl rfl ?_
      iterate 2 refine GL.pass (s := 40) rfl rfl rfl ?_
      refine GL.pure rfl (p_pick_false rfl rfl) ?_; refine GL.as_ rfl rfl ?_; refine GL.nl_ ?_; refine GC.region ?_; refine GL.mv_ rfl rfl ?_; refine GL.as_ rfl rfl ?_
      refine GL.nil (?_ : GC _ _ _ _)
      refine GC.region ?_; refine GL.pure rfl (p_add rfl rfl (w64 (by omega) (by omega))) ?_; refine GL.mv_ rfl rfl ?_; refine GL.nil ?_
      exact fun a w h => ⟨(k + 1), (_), (by omega), ⟨by omega, grp_next (by omega) he (by rw [Bool.eq_iff_iff]; (try simp [*]) <;> omega)⟩, h.cut (is := [0]) (js := [1]) ⟨rfl, rfl, rfl, rfl, rfl, trivial⟩ rfl rfl⟩
    ·try simp only [tst_] at h4
     refine GC.exit (?_ : GC _ _ _ _)
     refine GC.seq' ?_; refine GC.sr_ ?_; refine GL.mv_ rfl rfl ?_; refine GL.pure rfl (p_not rfl) ?_; refine GL.nl_ ?_; refine GC.cond rfl (fun h7 => ?_) (fun h7 => ?_)
     ·try simp only [tst_] at h7
      refine GC.sr_ ?_; refine GL.as_ rfl rfl ?_; refine GL.nl_ ?_; refine GC.ret ?_
      refine fun a w h => Fin.back (rs := [.tmp 2]) (vs := [_]) (is := []) (js := []) rfl ⟨rfl, trivial⟩ rfl rfl ?_ h
      clear h
      obtain rfl : k = l.length := by omega
      rw [List.drop_of_length_le (Nat.le_refl _)] at he
      refine ⟨congrArg (Value.int .i64) ?_, rfl, rfl⟩
      rw [he]; simp [incI, *]
     ·try simp only [tst_] at h7
      refine GC.skip (?_ : GC _ _ _ _)
      refine GC.sr_ ?_; refine GL.as_ rfl rfl ?_; refine GL.nl_ ?_; refine GC.ret ?_
      refine fun a w h => Fin.back (rs := [.tmp 2]) (vs := [_]) (is := []) (js := []) rfl ⟨rfl, trivial⟩ rfl rfl ?_ h
      clear h
      obtain rfl : k = l.length := by omega
      rw [List.drop_of_length_le (Nat.le_refl _)] at he
      refine ⟨congrArg (Value.int .i64) ?_, rfl, rfl⟩
      rw [he]; simp [incI, *]
   ·try simp only [tst_] at h3
    iterate 4 refine GL.pass (s := 21) rfl rfl rfl ?_
    refine GL.pure rfl (p_pick_false rfl rfl) ?_; refine GL.as_ rfl rfl ?_; refine GL.nl_ ?_; refine GC.sr_ ?_; refine GL.as_ rfl rfl ?_; refine GL.nl_ ?_; refine GC.seq' ?_; refine GC.sr_ ?_; refine GL.pure rfl (p_fieldAddr fo_33_1 rfl) ?_
    refine GL.step rfl (t_mem rfl (m_load (i := 0) rfl rfl ag_31 rfl)) ?_; refine GL.pure rfl (p_len Tryz.underlying31 rfl) ?_; refine GL.mv_ rfl rfl ?_; refine GL.nl_ ?_; refine GC.block ?_; refine GC.loopK2 (ks := [28, 29]) (is := [0]) (js := [0]) (fun (k : Nat) (b : Bool) => k ≤ l.length ∧ groupOk e l = (b && incI (lastI l k) (l.drop k))) (fun (k : Nat) (b : Bool) => [(3, .bool b), (4, .int .i64 (lastI l k)), (30, .int .i64 (k : Int))]) (fun (k : Nat) (b : Bool) => []) (fun (k : Nat) (b : Bool) => []) (fun (k : Nat) (b : Bool) => l.length - k) (0) (_) rfl rfl rfl (fun a w h => ⟨⟨by omega, by unfold groupOk; congr 1; rw [Bool.eq_iff_iff]; (try simp) <;> omega⟩, h.cutK (is := [0]) (js := [0]) (ks := [28, 29]) ⟨rfl, rfl, rfl, trivial⟩ rfl rfl rfl⟩) ?_
    intro k b hk
    try dsimp only [List.cons_append, List.nil_append] at hk ⊢
    obtain ⟨hk, he⟩ := hk
    refine GC.sr_ ?_; refine GL.pure rfl (p_lss rfl rfl) ?_; refine GL.nl_ ?_; refine GC.seq' ?_; refine GC.cond rfl (fun h8 => ?_) (fun h8 => ?_)
    ·try simp only [tst_] at h8
     refine GC.skip (?_ : GC _ _ _ _)
     refine GC.seq' ?_; refine GC.block ?_; refine GC.sr_ ?_; refine GL.step rfl (t_index (i := 0) rfl rfl rfl rfl Tryz.underlying31 sz_3 (by omega) (gt_ok (by omega) (by omega))) (GL.ex fun p_x32 => GL.ex fun r_x32 => GL.and fun ok_x32 => ?_)
     rcases r_x32 with _
     refine GL.step rfl (t_mem rfl (m_loadP (i := 0) rfl rfl ag_3 rfl)) ?_; refine GL.as_ rfl rfl ?_; refine GL.nl_ ?_; refine GC.sr_ ?_
     iterate 2 refine GL.mv_ rfl rfl ?_
     refine GL.split (i := 35) rfl (fun h9 => ?_) (fun h9 => ?_)
     ·try simp only [tst_] at h9
      iterate 2 refine GL.pureG (s := 35) rfl rfl rfl (p_move rfl) ?_
      refine GL.pureG (s := 35) rfl rfl rfl (p_gtr rfl rfl) ?_; refine GL.pure rfl (p_pick_true rfl rfl) ?_; refine GL.mv_ rfl rfl ?_; refine GL.split (i := 40) rfl (fun h10 => ?_) (fun h10 => ?_)
      ·try simp only [tst_] at h10
       refine GL.pureG (s := 40) rfl rfl rfl (p_move rfl) ?_; refine GL.pureG (s := 40) rfl rfl rfl (p_lss rfl rfl) ?_; refine GL.pure rfl (p_pick_true rfl rfl) ?_; refine GL.as_ rfl rfl ?_; refine GL.nl_ ?_; refine GC.region ?_
       refine GL.mv_ rfl rfl ?_; refine GL.as_ rfl rfl ?_
       refine GL.nil (?_ : GC _ _ _ _)
       refine GC.region ?_; refine GL.pure rfl (p_add rfl rfl (w64 (by omega) (by omega))) ?_; refine GL.mv_ rfl rfl ?_; refine GL.nil ?_
       exact fun a w h => ⟨(k + 1), (_), (by omega), ⟨by omega, grp_next (by omega) he (by rw [Bool.eq_iff_iff]; (try simp [*]) <;> omega)⟩, h.cut (is := [0]) (js := [1]) ⟨rfl, rfl, rfl, rfl, rfl, trivial⟩ rfl rfl⟩
      ·try simp only [tst_] at h10
       iterate 2 refine GL.pass (s := 40) rfl rfl rfl ?_
       refine GL.pure rfl (p_pick_false rfl rfl) ?_; refine GL.as_ rfl rfl ?_; refine GL.nl_ ?_; refine GC.region ?_; refine GL.mv_ rfl rfl ?_; refine GL.as_ rfl rfl ?_
       refine GL.nil (?_ : GC _ _ _ _)
       refine GC.region ?_; refine GL.pure rfl (p_add rfl rfl (w64 (by omega) (by omega))) ?_; refine GL.mv_ rfl rfl ?_; refine GL.nil ?_
       exact fun a w h => ⟨(k + 1), (_), (by omega), ⟨by omega, grp_next (by omega) he (by rw [Bool.eq_iff_iff]; (try simp [*]) <;> omega)⟩, h.cut (is := [0]) (js := [1]) ⟨rfl, rfl, rfl, rfl, rfl, trivial⟩ rfl rfl⟩
     ·try simp only [tst_] at h9
      iterate 3 refine GL.pass (s := 35) rfl rfl rfl ?_
      refine GL.pure rfl (p_pick_false rfl rfl) ?_; refine GL.mv_ rfl rfl ?_
      iterate 2 refine GL.pass (s := 40) rfl rfl rfl ?_
      refine GL.pure rfl (p_pick_false rfl rfl) ?_; refine GL.as_ rfl rfl ?_; refine GL.nl_ ?_; refine GC.region ?_; refine GL.mv_ rfl rfl ?_; refine GL.as_ rfl rfl ?_
      refine GL.nil (?_ : GC _ _ _ _)
      refine GC.region ?_; refine GL.pure rfl (p_add rfl rfl (w64 (by omega) (by omega))) ?_; refine GL.mv_ rfl rfl ?_; refine GL.nil ?_
      exact fun a w h => ⟨(k + 1), (_), (by omega), ⟨by omega, grp_next (by omega) he (by rw [Bool.eq_iff_iff]; (try simp [*]) <;> omega)⟩, h.cut (is := [0]) (js := [1]) ⟨rfl, rfl, rfl, rfl, rfl, trivial⟩ rfl rfl⟩
    ·try simp only [tst_] at h8
     refine GC.exit (?_ : GC _ _ _ _)
     refine GC.seq' ?_; refine GC.sr_ ?_; refine GL.mv_ rfl rfl ?_; refine GL.pure rfl (p_not rfl) ?_; refine GL.nl_ ?_; refine GC.cond rfl (fun h11 => ?_) (fun h11 => ?_)
     ·try simp only [tst_] at h11
      refine GC.sr_ ?_; refine GL.as_ rfl rfl ?_; refine GL.nl_ ?_; refine GC.ret ?_
      refine fun a w h => Fin.back (rs := [.tmp 2]) (vs := [_]) (is := []) (js := []) rfl ⟨rfl, trivial⟩ rfl rfl ?_ h
      clear h
      obtain rfl : k = l.length := by omega
      rw [List.drop_of_length_le (Nat.le_refl _)] at he
      refine ⟨congrArg (Value.int .i64) ?_, rfl, rfl⟩
      rw [he]; simp [incI, *]
     ·try simp only [tst_] at h11
      refine GC.skip (?_ : GC _ _ _ _)
      refine GC.sr_ ?_; refine GL.as_ rfl rfl ?_; refine GL.nl_ ?_; refine GC.ret ?_
      refine fun a w h => Fin.back (rs := [.tmp 2]) (vs := [_]) (is := []) (js := []) rfl ⟨rfl, trivial⟩ rfl rfl ?_ h
      clear h
      obtain rfl : k = l.length := by omega
      rw [List.drop_of_length_le (Nat.le_refl _)] at he
      refine ⟨congrArg (Value.int .i64) ?_, rfl, rfl⟩
      rw [he]; simp [incI, *]
  ·try simp only [tst_] at h2
   iterate 4 refine GL.pass (s := 15) rfl rfl rfl ?_
   refine GL.pure rfl (p_pick_false rfl rfl) ?_; refine GL.mv_ rfl rfl ?_
   iterate 4 refine GL.pass (s := 21) rfl rfl rfl ?_
   refine GL.pure rfl (p_pick_false rfl rfl) ?_; refine GL.as_ rfl rfl ?_; refine GL.nl_ ?_; refine GC.sr_ ?_; refine GL.as_ rfl rfl ?_; refine GL.nl_ ?_; refine GC.seq' ?_; refine GC.sr_ ?_; refine GL.pure rfl (p_fieldAddr fo_33_1 rfl) ?_
   refine GL.step rfl (t_mem rfl (m_load (i := 0) rfl rfl ag_31 rfl)) ?_; refine GL.pure rfl (p_len Tryz.underlying31 rfl) ?_; refine GL.mv_ rfl rfl ?_; refine GL.nl_ ?_; refine GC.block ?_; refine GC.loopK2 (ks := [28, 29]) (is := [0]) (js := [0]) (fun (k : Nat) (b : Bool) => k ≤ l.length ∧ groupOk e l = (b && incI (lastI l k) (l.drop k))) (fun (k : Nat) (b : Bool) => [(3, .bool b), (4, .int .i64 (lastI l k)), (30, .int .i64 (k : Int))]) (fun (k : Nat) (b : Bool) => []) (fun (k : Nat) (b : Bool) => []) (fun (k : Nat) (b : Bool) => l.length - k) (0) (_) rfl rfl rfl (fun a w h => ⟨⟨by omega, by unfold groupOk; congr 1; rw [Bool.eq_iff_iff]; (try simp) <;> omega⟩, h.cutK (is := [0]) (js := [0]) (ks := [28, 29]) ⟨rfl, rfl, rfl, trivial⟩ rfl rfl rfl⟩) ?_
   intro k b hk
   try dsimp only [List.cons_append, List.nil_append] at hk ⊢
   obtain ⟨hk, he⟩ := hk
   refine GC.sr_ ?_; refine GL.pure rfl (p_lss rfl rfl) ?_; refine GL.nl_ ?_; refine GC.seq' ?_; refine GC.cond rfl (fun h12 => ?_) (fun h12 => ?_)
   ·try simp only [tst_] at h12
    refine GC.skip (?_ : GC _ _ _ _)
    refine GC.seq' ?_; refine GC.block ?_; refine GC.sr_ ?_; refine GL.step rfl (t_index (i := 0) rfl rfl rfl rfl Tryz.underlying31 sz_3 (by omega) (gt_ok (by omega) (by omega))) (GL.ex fun p_x32 => GL.ex fun r_x32 => GL.and fun ok_x32 => ?_)
    rcases r_x32 with _
    refine GL.step rfl (t_mem rfl (m_loadP (i := 0) rfl rfl ag_3 rfl)) ?_; refine GL.as_ rfl rfl ?_; refine GL.nl_ ?_; refine GC.sr_ ?_
    iterate 2 refine GL.mv_ rfl rfl ?_
    refine GL.split (i := 35) rfl (fun h13 => ?_) (fun h13 => ?_)
    ·try simp only [tst_] at h13
     iterate 2 refine GL.pureG (s := 35) rfl rfl rfl (p_move rfl) ?_
     refine GL.pureG (s := 35) rfl rfl rfl (p_gtr rfl rfl) ?_; refine GL.pure rfl (p_pick_true rfl rfl) ?_; refine GL.mv_ rfl rfl ?_; refine GL.split (i := 40) rfl (fun h14 => ?_) (fun h14 => ?_)
     ·try simp only [tst_] at h14
      refine GL.pureG (s := 40) rfl rfl rfl (p_move rfl) ?_; refine GL.pureG (s := 40) rfl rfl rfl (p_lss rfl rfl) ?_; refine GL.pure rfl (p_pick_true rfl rfl) ?_; refine GL.as_ rfl rfl ?_; refine GL.nl_ ?_; refine GC.region ?_
      refine GL.mv_ rfl rfl ?_; refine GL.as_ rfl rfl ?_
      refine GL.nil (?_ : GC _ _ _ _)
      refine GC.region ?_; refine GL.pure rfl (p_add rfl rfl (w64 (by omega) (by omega))) ?_; refine GL.mv_ rfl rfl ?_; refine GL.nil ?_
      exact fun a w h => ⟨(k + 1), (_), (by omega), ⟨by omega, grp_next (by omega) he (by rw [Bool.eq_iff_iff]; (try simp [*]) <;> omega)⟩, h.cut (is := [0]) (js := [1]) ⟨rfl, rfl, rfl, rfl, rfl, trivial⟩ rfl rfl⟩
     ·try simp only [tst_] at h14
      iterate 2 refine GL.pass (s := 40) rfl rfl rfl ?_
      refine GL.pure rfl (p_pick_false rfl rfl) ?_; refine GL.as_ rfl rfl ?_; refine GL.nl_ ?_; refine GC.region ?_; refine GL.mv_ rfl rfl ?_; refine GL.as_ rfl rfl ?_
      refine GL.nil (?_ : GC _ _ _ _)
      refine GC.region ?_; refine GL.pure rfl (p_add rfl rfl (w64 (by omega) (by omega))) ?_; refine GL.mv_ rfl rfl ?_; refine GL.nil ?_
      exact fun a w h => ⟨(k + 1), (_), (by omega), ⟨by omega, grp_next (by omega) he (by rw [Bool.eq_iff_iff]; (try simp [*]) <;> omega)⟩, h.cut (is := [0]) (js := [1]) ⟨rfl, rfl, rfl, rfl, rfl, trivial⟩ rfl rfl⟩
    ·try simp only [tst_] at h13
     iterate 3 refine GL.pass (s := 35) rfl rfl rfl ?_
     refine GL.pure rfl (p_pick_false rfl rfl) ?_; refine GL.mv_ rfl rfl ?_
     iterate 2 refine GL.pass (s := 40) rfl rfl rfl ?_
     refine GL.pure rfl (p_pick_false rfl rfl) ?_; refine GL.as_ rfl rfl ?_; refine GL.nl_ ?_; refine GC.region ?_; refine GL.mv_ rfl rfl ?_; refine GL.as_ rfl rfl ?_
     refine GL.nil (?_ : GC _ _ _ _)
     refine GC.region ?_; refine GL.pure rfl (p_add rfl rfl (w64 (by omega) (by omega))) ?_; refine GL.mv_ rfl rfl ?_; refine GL.nil ?_
     exact fun a w h => ⟨(k + 1), (_), (by omega), ⟨by omega, grp_next (by omega) he (by rw [Bool.eq_iff_iff]; (try simp [*]) <;> omega)⟩, h.cut (is := [0]) (js := [1]) ⟨rfl, rfl, rfl, rfl, rfl, trivial⟩ rfl rfl⟩
   ·try simp only [tst_] at h12
    refine GC.exit (?_ : GC _ _ _ _)
    refine GC.seq' ?_; refine GC.sr_ ?_; refine GL.mv_ rfl rfl ?_; refine GL.pure rfl (p_not rfl) ?_; refine GL.nl_ ?_; refine GC.cond rfl (fun h15 => ?_) (fun h15 => ?_)
    ·try simp only [tst_] at h15
     refine GC.sr_ ?_; refine GL.as_ rfl rfl ?_; refine GL.nl_ ?_; refine GC.ret ?_
     refine fun a w h => Fin.back (rs := [.tmp 2]) (vs := [_]) (is := []) (js := []) rfl ⟨rfl, trivial⟩ rfl rfl ?_ h
     clear h
     obtain rfl : k = l.length := by omega
     rw [List.drop_of_length_le (Nat.le_refl _)] at he
     refine ⟨congrArg (Value.int .i64) ?_, rfl, rfl⟩
     rw [he]; simp [incI, *]
    ·try simp only [tst_] at h15
     refine GC.skip (?_ : GC _ _ _ _)
     refine GC.sr_ ?_; refine GL.as_ rfl rfl ?_; refine GL.nl_ ?_; refine GC.ret ?_
     refine fun a w h => Fin.back (rs := [.tmp 2]) (vs := [_]) (is := []) (js := []) rfl ⟨rfl, trivial⟩ rfl rfl ?_ h
     clear h
     obtain rfl : k = l.length := by omega
     rw [List.drop_of_length_le (Nat.le_refl _)] at he
     refine ⟨congrArg (Value.int .i64) ?_, rfl, rfl⟩
     rw [he]; simp [incI, *]
 ·try simp only [tst_] at h1
  iterate 3 refine GL.pass (s := 10) rfl rfl rfl ?_
  refine GL.pure rfl (p_pick_false rfl rfl) ?_; refine GL.mv_ rfl rfl ?_
  iterate 4 refine GL.pass (s := 15) rfl rfl rfl ?_
  refine GL.pure rfl (p_pick_false rfl rfl) ?_; refine GL.mv_ rfl rfl ?_
  iterate 4 refine GL.pass (s := 21) rfl rfl rfl ?_
  refine GL.pure rfl (p_pick_false rfl rfl) ?_; refine GL.as_ rfl rfl ?_; refine GL.nl_ ?_; refine GC.sr_ ?_; refine GL.as_ rfl rfl ?_; refine GL.nl_ ?_; refine GC.seq' ?_; refine GC.sr_ ?_; refine GL.pure rfl (p_fieldAddr fo_33_1 rfl) ?_
  refine GL.step rfl (t_mem rfl (m_load (i := 0) rfl rfl ag_31 rfl)) ?_; refine GL.pure rfl (p_len Tryz.underlying31 rfl) ?_; refine GL.mv_ rfl rfl ?_; refine GL.nl_ ?_; refine GC.block ?_; refine GC.loopK2 (ks := [28, 29]) (is := [0]) (js := [0]) (fun (k : Nat) (b : Bool) => k ≤ l.length ∧ groupOk e l = (b && incI (lastI l k) (l.drop k))) (fun (k : Nat) (b : Bool) => [(3, .bool b), (4, .int .i64 (lastI l k)), (30, .int .i64 (k : Int))]) (fun (k : Nat) (b : Bool) => []) (fun (k : Nat) (b : Bool) => []) (fun (k : Nat) (b : Bool) => l.length - k) (0) (_) rfl rfl rfl (fun a w h => ⟨⟨by omega, by unfold groupOk; congr 1; rw [Bool.eq_iff_iff]; (try simp) <;> omega⟩, h.cutK (is := [0]) (js := [0]) (ks := [28, 29]) ⟨rfl, rfl, rfl, trivial⟩ rfl rfl rfl⟩) ?_
  intro k b hk
  try dsimp only [List.cons_append, List.nil_append] at hk ⊢
  obtain ⟨hk, he⟩ := hk
  refine GC.sr_ ?_; refine GL.pure rfl (p_lss rfl rfl) ?_; refine GL.nl_ ?_; refine GC.seq' ?_; refine GC.cond rfl (fun h16 => ?_) (fun h16 => ?_)
  ·try simp only [tst_] at h16
   refine GC.skip (?_ : GC _ _ _ _)
   refine GC.seq' ?_; refine GC.block ?_; refine GC.sr_ ?_; refine GL.step rfl (t_index (i := 0) rfl rfl rfl rfl Tryz.underlying31 sz_3 (by omega) (gt_ok (by omega) (by omega))) (GL.ex fun p_x32 => GL.ex fun r_x32 => GL.and fun ok_x32 => ?_)
   rcases r_x32 with _
   refine GL.step rfl (t_mem rfl (m_loadP (i := 0) rfl rfl ag_3 rfl)) ?_; refine GL.as_ rfl rfl ?_; refine GL.nl_ ?_; refine GC.sr_ ?_
   iterate 2 refine GL.mv_ rfl rfl ?_
   refine GL.split (i := 35) rfl (fun h17 => ?_) (fun h17 => ?_)
   ·try simp only [tst_] at h17
    iterate 2 refine GL.pureG (s := 35) rfl rfl rfl (p_move rfl) ?_
    refine GL.pureG (s := 35) rfl rfl rfl (p_gtr rfl rfl) ?_; refine GL.pure rfl (p_pick_true rfl rfl) ?_; refine GL.mv_ rfl rfl ?_; refine GL.split (i := 40) rfl (fun h18 => ?_) (fun h18 => ?_)
    ·try simp only [tst_] at h18
     refine GL.pureG (s := 40) rfl rfl rfl (p_move rfl) ?_; refine GL.pureG (s := 40) rfl rfl rfl (p_lss rfl rfl) ?_; refine GL.pure rfl (p_pick_true rfl rfl) ?_; refine GL.as_ rfl rfl ?_; refine GL.nl_ ?_; refine GC.region ?_
     refine GL.mv_ rfl rfl ?_; refine GL.as_ rfl rfl ?_
     refine GL.nil (?_ : GC _ _ _ _)
     refine GC.region ?_; refine GL.pure rfl (p_add rfl rfl (w64 (by omega) (by omega))) ?_; refine GL.mv_ rfl rfl ?_; refine GL.nil ?_
     exact fun a w h => ⟨(k + 1), (_), (by omega), ⟨by omega, grp_next (by omega) he (by rw [Bool.eq_iff_iff]; (try simp [*]) <;> omega)⟩, h.cut (is := [0]) (js := [1]) ⟨rfl, rfl, rfl, rfl, rfl, trivial⟩ rfl rfl⟩
    ·try simp only [tst_] at h18
     iterate 2 refine GL.pass (s := 40) rfl rfl rfl ?_
     refine GL.pure rfl (p_pick_false rfl rfl) ?_; refine GL.as_ rfl rfl ?_; refine GL.nl_ ?_; refine GC.region ?_; refine GL.mv_ rfl rfl ?_; refine GL.as_ rfl rfl ?_
     refine GL.nil (?_ : GC _ _ _ _)
     refine GC.region ?_; refine GL.pure rfl (p_add rfl rfl (w64 (by omega) (by omega))) ?_; refine GL.mv_ rfl rfl ?_; refine GL.nil ?_
     exact fun a w h => ⟨(k + 1), (_), (by omega), ⟨by omega, grp_next (by omega) he (by rw [Bool.eq_iff_iff]; (try simp [*]) <;> omega)⟩, h.cut (is := [0]) (js := [1]) ⟨rfl, rfl, rfl, rfl, rfl, trivial⟩ rfl rfl⟩
   ·try simp only [tst_] at h17
    iterate 3 refine GL.pass (s := 35) rfl rfl rfl ?_
    refine GL.pure rfl (p_pick_false rfl rfl) ?_; refine GL.mv_ rfl rfl ?_
    iterate 2 refine GL.pass (s := 40) rfl rfl rfl ?_
    refine GL.pure rfl (p_pick_false rfl rfl) ?_; refine GL.as_ rfl rfl ?_; refine GL.nl_ ?_; refine GC.region ?_; refine GL.mv_ rfl rfl ?_; refine GL.as_ rfl rfl ?_
    refine GL.nil (?_ : GC _ _ _ _)
    refine GC.region ?_; refine GL.pure rfl (p_add rfl rfl (w64 (by omega) (by omega))) ?_; refine GL.mv_ rfl rfl ?_; refine GL.nil ?_
    exact fun a w h => ⟨(k + 1), (_), (by omega), ⟨by omega, grp_next (by omega) he (by rw [Bool.eq_iff_iff]; (try simp [*]) <;> omega)⟩, h.cut (is := [0]) (js := [1]) ⟨rfl, rfl, rfl, rfl, rfl, trivial⟩ rfl rfl⟩
  ·try simp only [tst_] at h16
   refine GC.exit (?_ : GC _ _ _ _)
   refine GC.seq' ?_; refine GC.sr_ ?_; refine GL.mv_ rfl rfl ?_; refine GL.pure rfl (p_not rfl) ?_; refine GL.nl_ ?_; refine GC.cond rfl (fun h19 => ?_) (fun h19 => ?_)
   ·try simp only [tst_] at h19
    refine GC.sr_ ?_; refine GL.as_ rfl rfl ?_; refine GL.nl_ ?_; refine GC.ret ?_
    refine fun a w h => Fin.back (rs := [.tmp 2]) (vs := [_]) (is := []) (js := []) rfl ⟨rfl, trivial⟩ rfl rfl ?_ h
    clear h
    obtain rfl : k = l.length := by omega
    rw [List.drop_of_length_le (Nat.le_refl _)] at he
    refine ⟨congrArg (Value.int .i64) ?_, rfl, rfl⟩
    rw [he]; simp [incI, *]
   ·try simp only [tst_] at h19
    refine GC.skip (?_ : GC _ _ _ _)
    refine GC.sr_ ?_; refine GL.as_ rfl rfl ?_; refine GL.nl_ ?_; refine GC.ret ?_
    refine fun a w h => Fin.back (rs := [.tmp 2]) (vs := [_]) (is := []) (js := []) rfl ⟨rfl, trivial⟩ rfl rfl ?_ h
    clear h
    obtain rfl : k = l.length := by omega
    rw [List.drop_of_length_le (Nat.le_refl _)] at he
    refine ⟨congrArg (Value.int .i64) ?_, rfl, rfl⟩
    rw [he]; simp [incI, *]
end Go.Proofs.YtdhdmbmknpjhbaaGreat
namespace Go.Proofs.YtdhdmbmknpjhbaaGreat
open Go Go.Sx Go.Proofs
theorem incI_end {l : List Int} {k : Nat} (h : l.length ≤ k) (b : Int) : incI b (l.drop k) = true := by rw [List.drop_of_length_le h]; rfl
theorem rgroup_ct (e : Int) (A : Option Addr) (l : List Int) (cp : Nat) (hl : l.length ≤ 140737488355328) : Ct Tryz.prog 32 [grpV e A l.length cp] [] [Pers.row kI A l] (fun u G Q => u = .int .i64 (if groupOk e l = true then 0 else 71) ∧ G = [] ∧ Q = []) := by
 refine Ct.intro Tryz.func32 rfl rfl rfl (fun c hc => ?_)
 refine GC.sr_ ?_; refine GL.step rfl (t_box rfl rfl rfl) (GL.ex fun b_t1 => ?_); refine GL.as_ rfl rfl ?_; refine GL.nl_ ?_; refine GC.seq' ?_; refine GC.sr_ ?_; refine GL.pure rfl (p_fieldAddr fo_33_0 rfl) ?_; refine GL.step rfl (t_mem rfl (m_load (i := 0) rfl rfl ag_3 rfl)) ?_
 refine GL.pure rfl (p_lss rfl rfl) ?_; refine GL.mv_ rfl rfl ?_; refine GL.split (i := 7) rfl (fun h1 => ?_) (fun h1 => ?_)
 ·try simp only [tst_] at h1
  first
  | (exfalso; omega)
  |(skip
    iterate 3 refine GL.pass (s := 7) rfl rfl rfl ?_
    refine GL.pure rfl (p_pick_true rfl rfl) ?_; refine GL.mv_ rfl rfl ?_
    iterate 4 refine GL.pass (s := 12) rfl rfl rfl ?_
    refine GL.pure rfl (p_pick_true rfl rfl) ?_; refine GL.mv_ rfl rfl ?_
    iterate 4 refine GL.pass (s := 18) rfl rfl rfl ?_
    refine GL.pure rfl (p_pick_true rfl rfl) ?_; refine GL.nl_ ?_; refine GC.cond_true rfl ?_; refine GC.sr_ ?_; refine GL.as_ rfl rfl ?_; refine GL.nl_ ?_; refine GC.ret ?_
    refine fun a w h => Fin.back (rs := [.tmp 2]) (vs := [_]) (is := []) (js := []) rfl ⟨rfl, trivial⟩ rfl rfl ?_ h
    clear h
    exact ⟨by rw [if_neg (by unfold groupOk; simp; omega)]; rfl, rfl, rfl⟩)
 ·try simp only [tst_] at h1
  first
  | (exfalso; omega)
  |(skip
    refine GL.pureG (s := 7) rfl rfl rfl (p_fieldAddr fo_33_0 rfl) ?_; refine GL.stepG rfl (s := 7) rfl rfl (t_mem rfl (m_load (i := 0) rfl rfl ag_3 rfl)) ?_; refine GL.pureG (s := 7) rfl rfl rfl (p_gtr rfl rfl) ?_; refine GL.pure rfl (p_pick_false rfl rfl) ?_
    refine GL.mv_ rfl rfl ?_; refine GL.split (i := 12) rfl (fun h2 => ?_) (fun h2 => ?_)
    ·try simp only [tst_] at h2
     first
     | (exfalso; omega)
     |(skip
       iterate 4 refine GL.pass (s := 12) rfl rfl rfl ?_
       refine GL.pure rfl (p_pick_true rfl rfl) ?_; refine GL.mv_ rfl rfl ?_
       iterate 4 refine GL.pass (s := 18) rfl rfl rfl ?_
       refine GL.pure rfl (p_pick_true rfl rfl) ?_; refine GL.nl_ ?_; refine GC.cond_true rfl ?_; refine GC.sr_ ?_; refine GL.as_ rfl rfl ?_; refine GL.nl_ ?_; refine GC.ret ?_
       refine fun a w h => Fin.back (rs := [.tmp 2]) (vs := [_]) (is := []) (js := []) rfl ⟨rfl, trivial⟩ rfl rfl ?_ h
       clear h
       exact ⟨by rw [if_neg (by unfold groupOk; simp; omega)]; rfl, rfl, rfl⟩)
    ·try simp only [tst_] at h2
     first
     | (exfalso; omega)
     |(skip
       refine GL.pureG (s := 12) rfl rfl rfl (p_fieldAddr fo_33_1 rfl) ?_; refine GL.stepG rfl (s := 12) rfl rfl (t_mem rfl (m_load (i := 0) rfl rfl ag_31 rfl)) ?_; refine GL.pureG (s := 12) rfl rfl rfl (p_len Tryz.underlying31 rfl) ?_
       refine GL.pureG (s := 12) rfl rfl rfl (p_lss rfl rfl) ?_; refine GL.pure rfl (p_pick_false rfl rfl) ?_; refine GL.mv_ rfl rfl ?_; refine GL.split (i := 18) rfl (fun h3 => ?_) (fun h3 => ?_)
       ·try simp only [tst_] at h3
        first
        | (exfalso; omega)
        |(skip
          iterate 4 refine GL.pass (s := 18) rfl rfl rfl ?_
          refine GL.pure rfl (p_pick_true rfl rfl) ?_; refine GL.nl_ ?_; refine GC.cond_true rfl ?_; refine GC.sr_ ?_; refine GL.as_ rfl rfl ?_; refine GL.nl_ ?_; refine GC.ret ?_
          refine fun a w h => Fin.back (rs := [.tmp 2]) (vs := [_]) (is := []) (js := []) rfl ⟨rfl, trivial⟩ rfl rfl ?_ h
          clear h
          exact ⟨by rw [if_neg (by unfold groupOk; simp; omega)]; rfl, rfl, rfl⟩)
       ·try simp only [tst_] at h3
        first
        | (exfalso; omega)
        |(skip
          refine GL.pureG (s := 18) rfl rfl rfl (p_fieldAddr fo_33_1 rfl) ?_; refine GL.stepG rfl (s := 18) rfl rfl (t_mem rfl (m_load (i := 0) rfl rfl ag_31 rfl)) ?_; refine GL.pureG (s := 18) rfl rfl rfl (p_len Tryz.underlying31 rfl) ?_
          refine GL.pureG (s := 18) rfl rfl rfl (p_gtr rfl rfl) ?_; refine GL.pure rfl (p_pick_false rfl rfl) ?_; refine GL.nl_ ?_; refine GC.cond rfl (fun h4 => ?_) (fun h4 => ?_)
          ·try simp only [tst_] at h4
           first
           | (exfalso; omega)
           |(skip
             refine GC.sr_ ?_; refine GL.as_ rfl rfl ?_; refine GL.nl_ ?_; refine GC.ret ?_
             refine fun a w h => Fin.back (rs := [.tmp 2]) (vs := [_]) (is := []) (js := []) rfl ⟨rfl, trivial⟩ rfl rfl ?_ h
             clear h
             exact ⟨by rw [if_neg (by unfold groupOk; simp; omega)]; rfl, rfl, rfl⟩)
          ·try simp only [tst_] at h4
           first
           | (exfalso; omega)
           |(skip
             refine GC.skip (?_ : GC _ _ _ _)
             refine GC.seq' ?_; refine GC.sr_ ?_; refine GL.as_ rfl rfl ?_; refine GL.nl_ ?_; refine GC.block ?_; refine GC.loopK1 (ks := [1]) (is := [0]) (js := [0]) (fun (k : Nat) => k ≤ l.length ∧ incI (-1) l = incI (lastI l k) (l.drop k) ∧ -1 ≤ lastI l k) (fun (k : Nat) => [(3, .int .i64 (k : Int))]) (fun (k : Nat) => []) (fun (k : Nat) => []) (fun (k : Nat) => l.length - k) (0) rfl rfl rfl (fun a w h => ⟨⟨by omega, rfl, by simp [lastI]⟩, h.cutK (is := [0]) (js := [0]) (ks := [1]) ⟨rfl, trivial⟩ rfl rfl rfl⟩) ?_
             intro k hk
             try dsimp only [List.cons_append, List.nil_append] at hk ⊢
             obtain ⟨hk, he, hlast⟩ := hk
             refine GC.seq' ?_; refine GC.sr_ ?_; refine GL.mv_ rfl rfl ?_; refine GL.pure rfl (p_fieldAddr fo_33_1 rfl) ?_; refine GL.step rfl (t_mem rfl (m_load (i := 0) rfl rfl ag_31 rfl)) ?_; refine GL.pure rfl (p_len Tryz.underlying31 rfl) ?_
             refine GL.pure rfl (p_lss rfl rfl) ?_; refine GL.nl_ ?_; refine GC.cond rfl (fun h5 => ?_) (fun h5 => ?_)
             ·try simp only [tst_] at h5
              first
              | (exfalso; omega)
              |(skip
                refine GC.skip (?_ : GC _ _ _ _)
                refine GC.seq' ?_; refine GC.block ?_; refine GC.seq' ?_
                rcases k with _ | k
                ·skip
                 refine GC.layQ (y := .tmp 3) (j := 0) rfl rfl (by omega) (gt_ok (by omega) (by omega)) (fun p_x34 r_x34 hA_x34 ok_x34 => ?_)
                 rcases r_x34 with _
                 refine GC.layQ (y := .tmp 3) (j := 1) rfl rfl (by omega) (gt_ok (by omega) (by omega)) (fun p_x41 r_x41 hA_x41 ok_x41 => ?_)
                 rcases r_x41 with _
                 refine GC.layQ (y := .tmp 3) (j := 2) rfl rfl (by omega) (gt_ok (by omega) (by omega)) (fun p_x52 r_x52 hA_x52 ok_x52 => ?_)
                 rcases r_x52 with _
                 refine GC.regionQ wide_ (by kernel_rfl) ?_; refine GQ.step rfl (q_pure (p_fieldAddr fo_33_1 rfl)) ?_; refine GQ.step rfl (q_mem (m_load (i := 0) rfl rfl ag_31 rfl)) ?_; refine GQ.step rfl (q_pure (p_move rfl)) ?_
                 refine GQ.step rfl (q_pure (p_indexL hA_x34 rfl rfl Tryz.underlying31 sz_3 (by omega) (by omega))) ?_; refine GQ.step rfl (q_mem (m_loadP (i := 2) rfl rfl ag_3 rfl)) ?_; refine GQ.step rfl (q_pure (p_lss rfl rfl)) ?_
                 refine GQ.step rfl (q_pure (p_move rfl)) ?_; refine GQ.split (i := 37) rfl (fun h6 => ?_) (fun h6 => ?_)
                 ·try simp only [tst_] at h6
                  first
                  | (exfalso; omega)
                  |(skip
                    iterate 6 refine GQ.pass (s := 37) rfl rfl rfl ?_
                    refine GQ.step rfl (q_pure (p_pick_true rfl rfl)) ?_; refine GQ.step rfl (q_pure (p_move rfl)) ?_
                    iterate 3 refine GQ.pass (s := 45) rfl rfl rfl ?_
                    iterate 12 refine GQ.passU (s := 48) rfl rfl rfl ?_
                    refine GQ.pass (s := 45) rfl rfl rfl ?_; refine GQ.step rfl (q_pure (p_pick_true rfl rfl)) ?_
                    refine GQ.nil (?_ : GC _ _ _ _)
                    refine GC.cond_true rfl ?_; refine GC.sr_ ?_; refine GL.as_ rfl rfl ?_; refine GL.nl_ ?_; refine GC.ret ?_
                    refine fun a w h => Fin.back (rs := [.tmp 2]) (vs := [_]) (is := []) (js := []) rfl ⟨rfl, trivial⟩ rfl rfl ?_ h
                    clear h
                    refine ⟨?_, rfl, rfl⟩
                    (try simp only [show ∀ x : Nat, ((x + 1 : Nat) : Int) - 1 = x by omega] at *)
                    rw [if_neg (by unfold groupOk; rw [he, incI_bad (by omega) (by simp only [lastI] at hlast ⊢; omega), Bool.and_false]; simp)]
                    rfl)
                 ·try simp only [tst_] at h6
                  first
                  | (exfalso; omega)
                  |(skip
                    refine GQ.stepG (s := 37) rfl rfl rfl (q_pure (p_fieldAddr fo_33_1 rfl)) ?_; refine GQ.stepG (s := 37) rfl rfl rfl (q_mem (m_load (i := 0) rfl rfl ag_31 rfl)) ?_; refine GQ.stepG (s := 37) rfl rfl rfl (q_pure (p_move rfl)) ?_
                    refine GQ.stepG (s := 37) rfl rfl rfl (q_pure (p_indexL hA_x41 rfl rfl Tryz.underlying31 sz_3 (by omega) (by omega))) ?_; refine GQ.stepG (s := 37) rfl rfl rfl (q_mem (m_loadP (i := 1) rfl rfl ag_3 rfl)) ?_
                    refine GQ.stepG (s := 37) rfl rfl rfl (q_pure (p_geq rfl rfl)) ?_; refine GQ.step rfl (q_pure (p_pick_false rfl rfl)) ?_; refine GQ.step rfl (q_pure (p_move rfl)) ?_; refine GQ.split (i := 45) rfl (fun h7 => ?_) (fun h7 => ?_)
                    ·try simp only [tst_] at h7
                     first
                     | (exfalso; omega)
                     |(skip
                       iterate 3 refine GQ.pass (s := 45) rfl rfl rfl ?_
                       iterate 12 refine GQ.passU (s := 48) rfl rfl rfl ?_
                       refine GQ.pass (s := 45) rfl rfl rfl ?_; refine GQ.step rfl (q_pure (p_pick_true rfl rfl)) ?_
                       refine GQ.nil (?_ : GC _ _ _ _)
                       refine GC.cond_true rfl ?_; refine GC.sr_ ?_; refine GL.as_ rfl rfl ?_; refine GL.nl_ ?_; refine GC.ret ?_
                       refine fun a w h => Fin.back (rs := [.tmp 2]) (vs := [_]) (is := []) (js := []) rfl ⟨rfl, trivial⟩ rfl rfl ?_ h
                       clear h
                       refine ⟨?_, rfl, rfl⟩
                       (try simp only [show ∀ x : Nat, ((x + 1 : Nat) : Int) - 1 = x by omega] at *)
                       rw [if_neg (by unfold groupOk; rw [he, incI_bad (by omega) (by simp only [lastI] at hlast ⊢; omega), Bool.and_false]; simp)]
                       rfl)
                    ·try simp only [tst_] at h7
                     first
                     | (exfalso; omega)
                     |(skip
                       refine GQ.stepG (s := 45) rfl rfl rfl (q_pure (p_move rfl)) ?_; refine GQ.stepG (s := 45) rfl rfl rfl (q_pure (p_gtr rfl rfl)) ?_; refine GQ.stepG (s := 45) rfl rfl rfl (q_pure (p_move rfl)) ?_; refine GQ.split (i := 48) rfl (fun h8 => ?_) (fun h8 => ?_)
                       ·try simp only [tst_] at h8
                        first
                        | (exfalso; omega)
                        |(skip
                          refine GQ.stepG (s := 48) rfl rfl rfl (q_pure (p_fieldAddr fo_33_1 rfl)) ?_; refine GQ.stepG (s := 48) rfl rfl rfl (q_mem (m_load (i := 0) rfl rfl ag_31 rfl)) ?_; refine GQ.stepG (s := 48) rfl rfl rfl (q_pure (p_move rfl)) ?_
                          refine GQ.stepG (s := 48) rfl rfl rfl (q_pure (p_indexL hA_x52 rfl rfl Tryz.underlying31 sz_3 (by omega) (by omega))) ?_; refine GQ.stepG (s := 48) rfl rfl rfl (q_mem (m_loadP (i := 0) rfl rfl ag_3 rfl)) ?_
                          refine GQ.stepG (s := 48) rfl rfl rfl (q_pure (p_fieldAddr fo_33_1 rfl)) ?_; refine GQ.stepG (s := 48) rfl rfl rfl (q_mem (m_load (i := 0) rfl rfl ag_31 rfl)) ?_; refine GQ.stepG (s := 48) rfl rfl rfl (q_pure (p_move rfl)) ?_
                          refine GQ.stepG (s := 48) rfl rfl rfl (q_pure (p_sub rfl rfl (w64 (by omega) (by omega)))) ?_
                          exact (by omega : False).elim)
                       ·try simp only [tst_] at h8
                        first
                        | (exfalso; omega)
                        |(skip
                          iterate 12 refine GQ.pass (s := 48) rfl rfl rfl ?_
                          refine GQ.stepG (s := 45) rfl rfl rfl (q_pure (p_pick_false rfl rfl)) ?_; refine GQ.step rfl (q_pure (p_pick_false rfl rfl)) ?_
                          refine GQ.nil (?_ : GC _ _ _ _)
                          refine GC.cond_false rfl ?_
                          refine GC.skip (?_ : GC _ _ _ _)
                          refine GC.region ?_; refine GL.mv_ rfl rfl ?_; refine GL.pure rfl (p_add rfl rfl (w64 (by omega) (by omega))) ?_; refine GL.as_ rfl rfl ?_; refine GL.nil ?_
                          (try simp only [show ∀ x : Nat, ((x + 1 : Nat) : Int) - 1 = x by omega] at *)
                          exact fun a w h => ⟨(_ + 1), (by omega), ⟨by omega, by rw [he, incI_ok (by omega) (by simp only [lastI]; omega) (by omega)]; rfl, by simp only [lastI]; omega⟩, h.cut (is := [0]) (js := [3]) ⟨rfl, rfl, trivial⟩ rfl rfl⟩)))
                ·skip
                 refine GC.lay (x := .const (.slice A l.length cp)) (y := .const (.int .i64 (((k + 1 : Nat) : Int) - 1))) (j := 0) rfl rfl rfl (by omega) (gt_ok (by omega) (by omega)) (fun p_xp r_xp hA_xp ok_xp => ?_)
                 rcases r_xp with _
                 refine GC.layQ (y := .tmp 3) (j := 1) rfl rfl (by omega) (gt_ok (by omega) (by omega)) (fun p_x34 r_x34 hA_x34 ok_x34 => ?_)
                 rcases r_x34 with _
                 refine GC.layQ (y := .tmp 3) (j := 2) rfl rfl (by omega) (gt_ok (by omega) (by omega)) (fun p_x41 r_x41 hA_x41 ok_x41 => ?_)
                 rcases r_x41 with _
                 refine GC.layQ (y := .tmp 3) (j := 3) rfl rfl (by omega) (gt_ok (by omega) (by omega)) (fun p_x52 r_x52 hA_x52 ok_x52 => ?_)
                 rcases r_x52 with _
                 refine GC.regionQ wide_ (by kernel_rfl) ?_; refine GQ.step rfl (q_pure (p_fieldAddr fo_33_1 rfl)) ?_; refine GQ.step rfl (q_mem (m_load (i := 0) rfl rfl ag_31 rfl)) ?_; refine GQ.step rfl (q_pure (p_move rfl)) ?_
                 refine GQ.step rfl (q_pure (p_indexL hA_x34 rfl rfl Tryz.underlying31 sz_3 (by omega) (by omega))) ?_; refine GQ.step rfl (q_mem (m_loadP (i := 2) rfl rfl ag_3 rfl)) ?_; refine GQ.step rfl (q_pure (p_lss rfl rfl)) ?_
                 refine GQ.step rfl (q_pure (p_move rfl)) ?_; refine GQ.split (i := 37) rfl (fun h9 => ?_) (fun h9 => ?_)
                 ·try simp only [tst_] at h9
                  first
                  | (exfalso; omega)
                  |(skip
                    iterate 6 refine GQ.pass (s := 37) rfl rfl rfl ?_
                    refine GQ.step rfl (q_pure (p_pick_true rfl rfl)) ?_; refine GQ.step rfl (q_pure (p_move rfl)) ?_
                    iterate 3 refine GQ.pass (s := 45) rfl rfl rfl ?_
                    iterate 12 refine GQ.passU (s := 48) rfl rfl rfl ?_
                    refine GQ.pass (s := 45) rfl rfl rfl ?_; refine GQ.step rfl (q_pure (p_pick_true rfl rfl)) ?_
                    refine GQ.nil (?_ : GC _ _ _ _)
                    refine GC.cond_true rfl ?_; refine GC.sr_ ?_; refine GL.as_ rfl rfl ?_; refine GL.nl_ ?_; refine GC.ret ?_
                    refine fun a w h => Fin.back (rs := [.tmp 2]) (vs := [_]) (is := []) (js := []) rfl ⟨rfl, trivial⟩ rfl rfl ?_ h
                    clear h
                    refine ⟨?_, rfl, rfl⟩
                    (try simp only [show ∀ x : Nat, ((x + 1 : Nat) : Int) - 1 = x by omega] at *)
                    rw [if_neg (by unfold groupOk; rw [he, incI_bad (by omega) (by simp only [lastI] at hlast ⊢; omega), Bool.and_false]; simp)]
                    rfl)
                 ·try simp only [tst_] at h9
                  first
                  | (exfalso; omega)
                  |(skip
                    refine GQ.stepG (s := 37) rfl rfl rfl (q_pure (p_fieldAddr fo_33_1 rfl)) ?_; refine GQ.stepG (s := 37) rfl rfl rfl (q_mem (m_load (i := 0) rfl rfl ag_31 rfl)) ?_; refine GQ.stepG (s := 37) rfl rfl rfl (q_pure (p_move rfl)) ?_
                    refine GQ.stepG (s := 37) rfl rfl rfl (q_pure (p_indexL hA_x41 rfl rfl Tryz.underlying31 sz_3 (by omega) (by omega))) ?_; refine GQ.stepG (s := 37) rfl rfl rfl (q_mem (m_loadP (i := 1) rfl rfl ag_3 rfl)) ?_
                    refine GQ.stepG (s := 37) rfl rfl rfl (q_pure (p_geq rfl rfl)) ?_; refine GQ.step rfl (q_pure (p_pick_false rfl rfl)) ?_; refine GQ.step rfl (q_pure (p_move rfl)) ?_; refine GQ.split (i := 45) rfl (fun h10 => ?_) (fun h10 => ?_)
                    ·try simp only [tst_] at h10
                     first
                     | (exfalso; omega)
                     |(skip
                       iterate 3 refine GQ.pass (s := 45) rfl rfl rfl ?_
                       iterate 12 refine GQ.passU (s := 48) rfl rfl rfl ?_
                       refine GQ.pass (s := 45) rfl rfl rfl ?_; refine GQ.step rfl (q_pure (p_pick_true rfl rfl)) ?_
                       refine GQ.nil (?_ : GC _ _ _ _)
                       refine GC.cond_true rfl ?_; refine GC.sr_ ?_; refine GL.as_ rfl rfl ?_; refine GL.nl_ ?_; refine GC.ret ?_
                       refine fun a w h => Fin.back (rs := [.tmp 2]) (vs := [_]) (is := []) (js := []) rfl ⟨rfl, trivial⟩ rfl rfl ?_ h
                       clear h
                       refine ⟨?_, rfl, rfl⟩
                       (try simp only [show ∀ x : Nat, ((x + 1 : Nat) : Int) - 1 = x by omega] at *)
                       rw [if_neg (by unfold groupOk; rw [he, incI_bad (by omega) (by simp only [lastI] at hlast ⊢; omega), Bool.and_false]; simp)]
                       rfl)
                    ·try simp only [tst_] at h10
                     first
                     | (exfalso; omega)
                     |(skip
                       refine GQ.stepG (s := 45) rfl rfl rfl (q_pure (p_move rfl)) ?_; refine GQ.stepG (s := 45) rfl rfl rfl (q_pure (p_gtr rfl rfl)) ?_; refine GQ.stepG (s := 45) rfl rfl rfl (q_pure (p_move rfl)) ?_; refine GQ.split (i := 48) rfl (fun h11 => ?_) (fun h11 => ?_)
                       ·try simp only [tst_] at h11
                        first
                        | (exfalso; omega)
                        |(skip
                          refine GQ.stepG (s := 48) rfl rfl rfl (q_pure (p_fieldAddr fo_33_1 rfl)) ?_; refine GQ.stepG (s := 48) rfl rfl rfl (q_mem (m_load (i := 0) rfl rfl ag_31 rfl)) ?_; refine GQ.stepG (s := 48) rfl rfl rfl (q_pure (p_move rfl)) ?_
                          refine GQ.stepG (s := 48) rfl rfl rfl (q_pure (p_indexL hA_x52 rfl rfl Tryz.underlying31 sz_3 (by omega) (by omega))) ?_; refine GQ.stepG (s := 48) rfl rfl rfl (q_mem (m_loadP (i := 0) rfl rfl ag_3 rfl)) ?_
                          refine GQ.stepG (s := 48) rfl rfl rfl (q_pure (p_fieldAddr fo_33_1 rfl)) ?_; refine GQ.stepG (s := 48) rfl rfl rfl (q_mem (m_load (i := 0) rfl rfl ag_31 rfl)) ?_; refine GQ.stepG (s := 48) rfl rfl rfl (q_pure (p_move rfl)) ?_
                          refine GQ.stepG (s := 48) rfl rfl rfl (q_pure (p_sub rfl rfl (w64 (by omega) (by omega)))) ?_; refine GQ.stepG (s := 48) rfl rfl rfl (q_pure (p_indexL hA_xp rfl rfl Tryz.underlying31 sz_3 (by omega) (by omega))) ?_
                          refine GQ.stepG (s := 48) rfl rfl rfl (q_mem (m_loadP (i := 3) rfl rfl ag_3 rfl)) ?_; refine GQ.stepG (s := 48) rfl rfl rfl (q_pure (p_leq rfl rfl)) ?_; refine GQ.stepG (s := 45) rfl rfl rfl (q_pure (p_pick_true rfl rfl)) ?_
                          refine GQ.step rfl (q_pure (p_pick_false rfl rfl)) ?_
                          refine GQ.nil (?_ : GC _ _ _ _)
                          refine GC.cond rfl (fun h12 => ?_) (fun h12 => ?_)
                          ·try simp only [tst_] at h12
                           first
                           | (exfalso; omega)
                           |(skip
                             refine GC.sr_ ?_; refine GL.as_ rfl rfl ?_; refine GL.nl_ ?_; refine GC.ret ?_
                             refine fun a w h => Fin.back (rs := [.tmp 2]) (vs := [_]) (is := []) (js := []) rfl ⟨rfl, trivial⟩ rfl rfl ?_ h
                             clear h
                             refine ⟨?_, rfl, rfl⟩
                             (try simp only [show ∀ x : Nat, ((x + 1 : Nat) : Int) - 1 = x by omega] at *)
                             rw [if_neg (by unfold groupOk; rw [he, incI_bad (by omega) (by simp only [lastI] at hlast ⊢; omega), Bool.and_false]; simp)]
                             rfl)
                          ·try simp only [tst_] at h12
                           first
                           | (exfalso; omega)
                           |(skip
                             refine GC.skip (?_ : GC _ _ _ _)
                             refine GC.region ?_; refine GL.mv_ rfl rfl ?_; refine GL.pure rfl (p_add rfl rfl (w64 (by omega) (by omega))) ?_; refine GL.as_ rfl rfl ?_; refine GL.nil ?_
                             (try simp only [show ∀ x : Nat, ((x + 1 : Nat) : Int) - 1 = x by omega] at *)
                             exact fun a w h => ⟨(_ + 1), (by omega), ⟨by omega, by rw [he, incI_ok (by omega) (by simp only [lastI]; omega) (by omega)]; rfl, by simp only [lastI]; omega⟩, h.cut (is := [0]) (js := [4]) ⟨rfl, rfl, trivial⟩ rfl rfl⟩))
                       ·try simp only [tst_] at h11
                        first
                        | (exfalso; omega)
                        |(skip
                          iterate 12 refine GQ.pass (s := 48) rfl rfl rfl ?_
                          refine GQ.stepG (s := 45) rfl rfl rfl (q_pure (p_pick_false rfl rfl)) ?_; refine GQ.step rfl (q_pure (p_pick_false rfl rfl)) ?_
                          refine GQ.nil (?_ : GC _ _ _ _)
                          refine GC.cond_false rfl ?_
                          refine GC.skip (?_ : GC _ _ _ _)
                          refine GC.region ?_; refine GL.mv_ rfl rfl ?_; refine GL.pure rfl (p_add rfl rfl (w64 (by omega) (by omega))) ?_; refine GL.as_ rfl rfl ?_; refine GL.nil ?_
                          (try simp only [show ∀ x : Nat, ((x + 1 : Nat) : Int) - 1 = x by omega] at *)
                          exact fun a w h => ⟨(_ + 1), (by omega), ⟨by omega, by rw [he, incI_ok (by omega) (by simp only [lastI]; omega) (by omega)]; rfl, by simp only [lastI]; omega⟩, h.cut (is := [0]) (js := [4]) ⟨rfl, rfl, trivial⟩ rfl rfl⟩))))
             ·try simp only [tst_] at h5
              first
              | (exfalso; omega)
              |(skip
                refine GC.exit (?_ : GC _ _ _ _)
                refine GC.sr_ ?_; refine GL.as_ rfl rfl ?_; refine GL.nl_ ?_; refine GC.ret ?_
                refine fun a w h => Fin.back (rs := [.tmp 2]) (vs := [_]) (is := []) (js := []) rfl ⟨rfl, trivial⟩ rfl rfl ?_ h
                clear h
                exact ⟨by rw [if_pos (by unfold groupOk; rw [he, incI_end (by omega)]; simp; omega)]; rfl, rfl, rfl⟩)))))
def sameG (e : Int) (l : List Int) (f : Int) (m : List Int) : Bool := decide (e = f) && decide (l = m)
theorem rgsame_ct (e : Int) (A : Option Addr) (l : List Int) (cp : Nat) (f : Int) (B : Option Addr) (m : List Int) (cq : Nat) (hl : l.length ≤ 140737488355328) : Ct Tryz.prog 42 [grpV e A l.length cp, grpV f B m.length cq] [] [Pers.row kI A l, Pers.row kI B m] (fun u G Q => u = .bool (sameG e l f m) ∧ G = [] ∧ Q = []) := by
 refine Ct.intro Tryz.func42 rfl rfl rfl (fun c hc => ?_)
 refine GC.sr_ ?_; refine GL.step rfl (t_box rfl rfl rfl) (GL.ex fun b_t2 => ?_); refine GL.step rfl (t_box rfl rfl rfl) (GL.ex fun b_t3 => ?_); refine GL.as_ rfl rfl ?_; refine GL.nl_ ?_; refine GC.seq' ?_; refine GC.sr_ ?_
 refine GL.pure rfl (p_fieldAddr fo_33_0 rfl) ?_; refine GL.step rfl (t_mem rfl (m_load (i := 1) rfl rfl ag_3 rfl)) ?_; refine GL.pure rfl (p_fieldAddr fo_33_0 rfl) ?_; refine GL.step rfl (t_mem rfl (m_load (i := 0) rfl rfl ag_3 rfl)) ?_
 refine GL.pure rfl (p_neq rfl rfl) ?_; refine GL.mv_ rfl rfl ?_; refine GL.split (i := 11) rfl (fun h1 => ?_) (fun h1 => ?_)
 ·try simp only [tst_] at h1
  first
  | (exfalso; omega)
  |(skip
    iterate 7 refine GL.pass (s := 11) rfl rfl rfl ?_
    refine GL.pure rfl (p_pick_true rfl rfl) ?_; refine GL.nl_ ?_; refine GC.cond_true rfl ?_; refine GC.sr_ ?_; refine GL.as_ rfl rfl ?_; refine GL.nl_ ?_; refine GC.ret ?_
    refine fun a w h => Fin.back (rs := [.tmp 4]) (vs := [_]) (is := []) (js := []) rfl ⟨rfl, trivial⟩ rfl rfl ?_ h
    clear h
    refine ⟨congrArg Value.bool ?_, rfl, rfl⟩
    unfold sameG
    symm
    first | (rw [decide_eq_false (show ¬ e = f by assumption)]; rfl) | (rw [decide_eq_false (show ¬ l = m from fun g => by subst g; first | omega | contradiction), Bool.and_false]) | (rw [decide_eq_true (show e = f by omega), decide_eq_true (ext_gtI (by omega) fun j hj => he j (by omega))]; rfl))
 ·try simp only [tst_] at h1
  first
  | (exfalso; omega)
  |(skip
    refine GL.pureG (s := 11) rfl rfl rfl (p_fieldAddr fo_33_1 rfl) ?_; refine GL.stepG rfl (s := 11) rfl rfl (t_mem rfl (m_load (i := 1) rfl rfl ag_31 rfl)) ?_; refine GL.pureG (s := 11) rfl rfl rfl (p_len Tryz.underlying31 rfl) ?_
    refine GL.pureG (s := 11) rfl rfl rfl (p_fieldAddr fo_33_1 rfl) ?_; refine GL.stepG rfl (s := 11) rfl rfl (t_mem rfl (m_load (i := 0) rfl rfl ag_31 rfl)) ?_; refine GL.pureG (s := 11) rfl rfl rfl (p_len Tryz.underlying31 rfl) ?_
    refine GL.pureG (s := 11) rfl rfl rfl (p_neq rfl rfl) ?_; refine GL.pure rfl (p_pick_false rfl rfl) ?_; refine GL.nl_ ?_; refine GC.cond rfl (fun h2 => ?_) (fun h2 => ?_)
    ·try simp only [tst_] at h2
     first
     | (exfalso; omega)
     |(skip
       refine GC.sr_ ?_; refine GL.as_ rfl rfl ?_; refine GL.nl_ ?_; refine GC.ret ?_
       refine fun a w h => Fin.back (rs := [.tmp 4]) (vs := [_]) (is := []) (js := []) rfl ⟨rfl, trivial⟩ rfl rfl ?_ h
       clear h
       refine ⟨congrArg Value.bool ?_, rfl, rfl⟩
       unfold sameG
       symm
       first | (rw [decide_eq_false (show ¬ e = f by assumption)]; rfl) | (rw [decide_eq_false (show ¬ l = m from fun g => by subst g; first | omega | contradiction), Bool.and_false]) | (rw [decide_eq_true (show e = f by omega), decide_eq_true (ext_gtI (by omega) fun j hj => he j (by omega))]; rfl))
    ·try simp only [tst_] at h2
     first
     | (exfalso; omega)
     |(skip
       refine GC.skip (?_ : GC _ _ _ _)
       refine GC.seq' ?_; refine GC.sr_ ?_; refine GL.as_ rfl rfl ?_; refine GL.nl_ ?_; refine GC.block ?_; refine GC.loopK1 (ks := [2, 3]) (is := [0, 1]) (js := [0, 1]) (fun (k : Nat) => k ≤ l.length ∧ ∀ j : Nat, j < k → gt l (j : Int) = gt m (j : Int)) (fun (k : Nat) => [(5, .int .i64 (k : Int))]) (fun (k : Nat) => []) (fun (k : Nat) => []) (fun (k : Nat) => l.length - k) (0) rfl rfl rfl (fun a w h => ⟨⟨by omega, fun j hj => by omega⟩, h.cutK (is := [0, 0]) (js := [0, 1]) (ks := [2, 3]) ⟨rfl, trivial⟩ rfl rfl rfl⟩) ?_
       intro k hk
       try dsimp only [List.cons_append, List.nil_append] at hk ⊢
       obtain ⟨hk, he⟩ := hk
       refine GC.seq' ?_; refine GC.sr_ ?_; refine GL.mv_ rfl rfl ?_; refine GL.pure rfl (p_fieldAddr fo_33_1 rfl) ?_; refine GL.step rfl (t_mem rfl (m_load (i := 1) rfl rfl ag_31 rfl)) ?_; refine GL.pure rfl (p_len Tryz.underlying31 rfl) ?_
       refine GL.pure rfl (p_lss rfl rfl) ?_; refine GL.nl_ ?_; refine GC.cond rfl (fun h3 => ?_) (fun h3 => ?_)
       ·try simp only [tst_] at h3
        first
        | (exfalso; omega)
        |(skip
          refine GC.skip (?_ : GC _ _ _ _)
          refine GC.seq' ?_; refine GC.block ?_; refine GC.seq' ?_; refine GC.layQ (y := .tmp 5) (j := 0) rfl rfl (by omega) (gt_ok (by omega) (by omega)) (fun p_x30 r_x30 hA_x30 ok_x30 => ?_)
          rcases r_x30 with _
          refine GC.layQ (y := .tmp 5) (j := 2) rfl rfl (by omega) (gt_ok (by omega) (by omega)) (fun p_x35 r_x35 hA_x35 ok_x35 => ?_)
          rcases r_x35 with _
          refine GC.regionQ wide_ (by kernel_rfl) ?_; refine GQ.step rfl (q_pure (p_fieldAddr fo_33_1 rfl)) ?_; refine GQ.step rfl (q_mem (m_load (i := 1) rfl rfl ag_31 rfl)) ?_; refine GQ.step rfl (q_pure (p_move rfl)) ?_
          refine GQ.step rfl (q_pure (p_indexL hA_x30 rfl rfl Tryz.underlying31 sz_3 (by omega) (by omega))) ?_; refine GQ.step rfl (q_mem (m_loadP (i := 1) rfl rfl ag_3 rfl)) ?_; refine GQ.step rfl (q_pure (p_fieldAddr fo_33_1 rfl)) ?_
          refine GQ.step rfl (q_mem (m_load (i := 0) rfl rfl ag_31 rfl)) ?_; refine GQ.step rfl (q_pure (p_move rfl)) ?_; refine GQ.step rfl (q_pure (p_indexL hA_x35 rfl rfl Tryz.underlying31 sz_3 (by omega) (by omega))) ?_
          refine GQ.step rfl (q_mem (m_loadP (i := 0) rfl rfl ag_3 rfl)) ?_; refine GQ.step rfl (q_pure (p_neq rfl rfl)) ?_
          refine GQ.nil (?_ : GC _ _ _ _)
          refine GC.cond rfl (fun h4 => ?_) (fun h4 => ?_)
          ·try simp only [tst_] at h4
           first
           | (exfalso; omega)
           |(skip
             refine GC.sr_ ?_; refine GL.as_ rfl rfl ?_; refine GL.nl_ ?_; refine GC.ret ?_
             refine fun a w h => Fin.back (rs := [.tmp 4]) (vs := [_]) (is := []) (js := []) rfl ⟨rfl, trivial⟩ rfl rfl ?_ h
             clear h
             refine ⟨congrArg Value.bool ?_, rfl, rfl⟩
             unfold sameG
             symm
             first | (rw [decide_eq_false (show ¬ e = f by assumption)]; rfl) | (rw [decide_eq_false (show ¬ l = m from fun g => by subst g; first | omega | contradiction), Bool.and_false]) | (rw [decide_eq_true (show e = f by omega), decide_eq_true (ext_gtI (by omega) fun j hj => he j (by omega))]; rfl))
          ·try simp only [tst_] at h4
           first
           | (exfalso; omega)
           |(skip
             refine GC.skip (?_ : GC _ _ _ _)
             refine GC.region ?_; refine GL.mv_ rfl rfl ?_; refine GL.pure rfl (p_add rfl rfl (w64 (by omega) (by omega))) ?_; refine GL.as_ rfl rfl ?_; refine GL.nil ?_
             exact fun a w h => ⟨(k + 1), (by omega), ⟨by omega, fun j hj => (Nat.lt_succ_iff_lt_or_eq.1 hj).elim (he j) (fun e => by subst e; omega)⟩, h.cut (is := [0, 0]) (js := [2, 3]) ⟨rfl, rfl, rfl, trivial⟩ rfl rfl⟩))
       ·try simp only [tst_] at h3
        first
        | (exfalso; omega)
        |(skip
          refine GC.exit (?_ : GC _ _ _ _)
          refine GC.sr_ ?_; refine GL.as_ rfl rfl ?_; refine GL.nl_ ?_; refine GC.ret ?_
          refine fun a w h => Fin.back (rs := [.tmp 4]) (vs := [_]) (is := []) (js := []) rfl ⟨rfl, trivial⟩ rfl rfl ?_ h
          clear h
          refine ⟨congrArg Value.bool ?_, rfl, rfl⟩
          unfold sameG
          symm
          first | (rw [decide_eq_false (show ¬ e = f by assumption)]; rfl) | (rw [decide_eq_false (show ¬ l = m from fun g => by subst g; first | omega | contradiction), Bool.and_false]) | (rw [decide_eq_true (show e = f by omega), decide_eq_true (ext_gtI (by omega) fun j hj => he j (by omega))]; rfl))))
theorem grp_len {e : Int} {l : List Int} (h : groupOk e l = true) : 1 ≤ l.length ∧ l.length ≤ 9 ∧ 0 ≤ e ∧ e ≤ 4611686018427387904 := by simp [groupOk] at h; omega
end Go.Proofs.YtdhdmbmknpjhbaaGreat
namespace Go.Proofs.YtdhdmbmknpjhbaaGreat
open Go Go.Sx Go.Proofs
def okRow (r : Row) : Prop := ((Lit.int .i64 r.client).wf = true) ∧ ((Lit.int .i64 r.serial).wf = true) ∧ (okRes r.result)
theorem opensRow : Opens Tryz.prog 61 kRow okRow := Opens.struct Tryz.underlying61 (OpensF.cons (Opens.int Tryz.underlying3) (by kernel_rfl) rfl (OpensF.cons (Opens.int Tryz.underlying3) (by kernel_rfl) rfl (OpensF.one opensRes (by kernel_rfl)))) (by kernel_rfl) (fun r : Row => (r.client, r.serial, r.result)) (fun p => (⟨p.1, p.2.1, p.2.2⟩ : Row)) (fun _ => rfl)
end Go.Proofs.YtdhdmbmknpjhbaaGreat
namespace Go.Proofs.YtdhdmbmknpjhbaaGreat
open Go Go.Sx Go.Proofs
def leN : Nat → Nat → List UInt8
  | 0, _ => []
  | n + 1, v => UInt8.ofNat (v % 256) :: leN n (v / 256)
def valN : List UInt8 → Nat
  | [] => 0
  | b :: r => b.toNat + 256 * valN r
theorem leN_length : ∀ (n v : Nat), (leN n v).length = n
  | 0, _ => rfl
  | n + 1, v => by rw [leN, List.length_cons, leN_length n]
theorem leN_succ : ∀ (k v : Nat), leN (k + 1) v = leN k v ++ [UInt8.ofNat (v / 256 ^ k % 256)]
  | 0, v => by simp [leN]
  | k + 1, v => by
    rw [leN, leN_succ k (v / 256), leN, List.cons_append, Nat.div_div_eq_div_mul, Nat.pow_succ, Nat.mul_comm 256]
theorem valN_lt : ∀ (l : List UInt8), valN l < 256 ^ l.length
  | [] => by simp [valN]
  | b :: r => by
    have := valN_lt r
    have hb := b.toNat_lt
    rw [valN, List.length_cons, Nat.pow_succ]
    omega
theorem valN_snoc : ∀ (l : List UInt8) (b : UInt8), valN (l ++ [b]) = valN l + b.toNat * 256 ^ l.length
  | [], b => by simp [valN]
  | c :: r, b => by
    rw [List.cons_append, valN, valN, valN_snoc r b, List.length_cons, Nat.pow_succ, Nat.mul_add, ← Nat.add_assoc]
    congr 1
    rw [Nat.mul_left_comm, Nat.mul_comm 256]
theorem ofNat_mod (v : Nat) : (UInt8.ofNat (v % 256)).toNat = v % 256 := by simp
theorem fdivN (v p : Nat) : (v : Int).fdiv ((p : Nat) : Int) = ((v / p : Nat) : Int) := by
  rw [Int.fdiv_eq_ediv_of_nonneg _ (by omega)]; rfl
theorem pow256 (k : Nat) : 256 ^ k = 2 ^ (8 * k) := by rw [Nat.pow_mul]
theorem shr8 {v k : Nat} (hk : k ≤ 8) : (v : Int).fdiv (2 ^ (min ((8 * k : Nat) : Int).toNat IntKind.u64.bits)) = ((v / 256 ^ k : Nat) : Int) := by
  have h1 : min ((8 * k : Nat) : Int).toNat IntKind.u64.bits = 8 * k := by show min _ 64 = _; omega
  rw [h1, pow256, ← fdivN]; norm_cast
theorem wrapB (m : Nat) : IntKind.u8.wrap (m : Int) = ((UInt8.ofNat (m % 256)).toNat : Int) := by
  rw [ofNat_mod]
  simp [IntKind.wrap, IntKind.bits, IntKind.signed]
theorem wrap64 {m : Nat} (h : m < 18446744073709551616) : IntKind.u64.wrap (m : Int) = (m : Int) := by
  simp [IntKind.wrap, IntKind.bits, IntKind.signed]; omega
theorem cvU {m : Int} (h : 0 ≤ m) (h' : m < 18446744073709551616) : IntKind.u64.wrap m = m := by
  simp [IntKind.wrap, IntKind.bits, IntKind.signed]; omega
theorem cvU' (m : Int) : IntKind.u64.wrap m = ((m % 18446744073709551616).toNat : Int) := by
  simp [IntKind.wrap, IntKind.bits, IntKind.signed]; omega
theorem cvI {m : Int} (h : -9223372036854775808 ≤ m) (h' : m ≤ 9223372036854775807) : IntKind.i64.wrap m = m := by
  simp [IntKind.wrap, IntKind.bits, IntKind.signed]; omega
theorem ofInt64 {m : Nat} : BitVec.ofInt 64 (m : Int) = BitVec.ofNat 64 m := by
  apply BitVec.eq_of_toNat_eq; simp
theorem or8 {a c k : Nat} (hk : k ≤ 7) (ha : a < 256 ^ k) (hc : c < 256) : IntKind.u64.wrap ((BitVec.ofInt IntKind.u64.bits (a : Int) ||| BitVec.ofInt IntKind.u64.bits ((c * 256 ^ k : Nat) : Int)).toNat : Int) = ((a + c * 256 ^ k : Nat) : Int) := by
  have h7 : 256 ^ k ≤ 256 ^ 7 := Nat.pow_le_pow_right (by decide) hk
  have h8 : (256 : Nat) ^ 7 = 72057594037927936 := by decide
  have hb : c * 256 ^ k ≤ 255 * 256 ^ k := Nat.mul_le_mul_right _ (by omega)
  show IntKind.u64.wrap ((BitVec.ofInt 64 (a : Int) ||| BitVec.ofInt 64 ((c * 256 ^ k : Nat) : Int)).toNat : Int) = _
  have e : (BitVec.ofInt 64 (a : Int) ||| BitVec.ofInt 64 ((c * 256 ^ k : Nat) : Int)).toNat = a + c * 256 ^ k := by
    rw [ofInt64, ofInt64, BitVec.toNat_or, BitVec.toNat_ofNat, BitVec.toNat_ofNat, Nat.mod_eq_of_lt (by omega), Nat.mod_eq_of_lt (by omega)]
    rw [pow256] at ha ⊢
    have := Nat.shiftLeft_add_eq_or_of_lt ha c
    rw [Nat.shiftLeft_eq] at this
    rw [Nat.or_comm, ← this]; omega
  rw [e]
  exact wrap64 (by omega)
theorem shl8 {c k : Nat} (hk : k ≤ 7) (hc : c < 256) : IntKind.u64.wrap ((c : Int) * 2 ^ (min ((8 * k : Nat) : Int).toNat IntKind.u64.bits)) = ((c * 256 ^ k : Nat) : Int) := by
  have h1 : min ((8 * k : Nat) : Int).toNat IntKind.u64.bits = 8 * k := by show min _ 64 = _; omega
  have h7 : 256 ^ k ≤ 256 ^ 7 := Nat.pow_le_pow_right (by decide) hk
  have h8 : (256 : Nat) ^ 7 = 72057594037927936 := by decide
  have hb : c * 256 ^ k ≤ 255 * 256 ^ k := Nat.mul_le_mul_right _ (by omega)
  have e : (c : Int) * 2 ^ (8 * k) = ((c * 256 ^ k : Nat) : Int) := by rw [pow256]; norm_cast
  rw [h1, e]
  exact wrap64 (by omega)
end Go.Proofs.YtdhdmbmknpjhbaaGreat
namespace Go.Sx
open Go
def PanOf (E : Value → Prop) (L : List Nat) (w w' : World) (e : Ending) : Prop := ∃ v, e = .panicked [{ v := v, recovered := false }] ∧ E v ∧ Fr L w w'
def CtP (P : Program) (f : FuncId) (args : List Value) (G : List Own) (Q : List Pers) (R : Value → List Own → List Pers → Prop) (E : Value → Prop) : Prop :=
  ∀ w S, Heap S G Q w → Calls P f args.toArray w fun e w' => (∃ v G' Q' S', e = .returned v ∧ R v G' Q' ∧ Heap S' G' Q' w' ∧ Fr (keysOf G) w w' ∧
    (∀ k, k < w.heap.size → k ∉ keysOf G → (S' k ↔ S k)) ∧ (∀ k ∈ keysOf G', k ∈ keysOf G ∨ w.heap.size ≤ k)) ∨ PanOf E (keysOf G) w w' e
theorem CtP.mono {P : Program} {f : FuncId} {args : List Value} {G : List Own} {Q : List Pers} {R R' : Value → List Own → List Pers → Prop} {E E' : Value → Prop} (h : CtP P f args G Q R E) (hr : ∀ v G' Q', R v G' Q' → R' v G' Q') (he : ∀ v, E v → E' v) : CtP P f args G Q R' E' :=
  fun w S hh => (h w S hh).mono fun e w' h => h.imp (fun ⟨v, G', Q', S', h1, h2, h3⟩ => ⟨v, G', Q', S', h1, hr _ _ _ h2, h3⟩) (fun ⟨v, h1, h2, h3⟩ => ⟨v, h1, he _ h2, h3⟩)
end Go.Sx
namespace Go.Sx
open Go
section
variable {P : Program} {c : Cx} {n : Nat} {env env' : List (Nat × Value)} {G G' Gr : List Own} {Q Q' : List Pers} {d : Nat} {ty : TypeId} {pos : String} {aft : Array Edge} {g : Option (Nat × Bool)} {x y : Operand} {t : TypeId} {a a' : Act} {w w' : World}
def FinP (P : Program) (fn : Func) (c : Cx) (R : Value → List Own → List Pers → Prop) (E : Value → Prop) : Exit → Asr := fun e a w => c.D = [] → bodyPost P fn (fun e w' => retOf c R e w' ∨ PanOf E c.L0 c.w0 w' e) e a w
theorem CtP.intro {f : FuncId} {fn : Func} {code : Code} {args : List Value} {R : Value → List Own → List Pers → Prop} {E : Value → Prop} (hf : P.funcs[f]? = some fn) (hb : fn.body = some code) (hn : fn.ntmps = n) (hl : Nat.ble args.length n = true)
    (h : ∀ c : Cx, c.L0 = keysOf G → GC P (FinP P fn c R E) code (St c n (enum 0 args) G Q)) : CtP P f args G Q R E := by
  intro w S hh
  refine calls_of_wp hf hb ?_
  have hl := Nat.le_of_ble_eq_true hl
  let c : Cx := ⟨w, S, keysOf G, []⟩
  refine Code.wp_mono ?_ (h c rfl _ w ⟨S, ?_, hh, ?_⟩)
  · intro e a w' he
    exact he rfl
  · refine ⟨⟨by simp [hn]; omega, fun i v hi => ?_⟩, rfl⟩
    obtain ⟨k, rfl, hk⟩ := look_enum args 0 i v hi
    rw [Nat.zero_add]
    have hlt : k < args.length := (List.getElem?_eq_some_iff.1 hk).1
    simp only [List.size_toArray]
    rw [Array.getElem?_append_left (by simpa using hlt)]
    simpa using hk
  · exact ⟨Fr.refl _ _, fun _ _ _ => Iff.rfl, fun k hk => .inl hk⟩
theorem FinP.of {fn : Func} {R : Value → List Own → List Pers → Prop} {E : Value → Prop} (h : Fin P fn c R .ret a w) : FinP P fn c R E .ret a w := fun hD =>
  let ⟨h1, v, h2, h3⟩ := h hD
  ⟨h1, v, h2, .inl h3⟩
theorem FinP.back {fn : Func} {rs : List ResultVar} {vs : List Value} {is js : List Nat} {R : Value → List Own → List Pers → Prop} {E : Value → Prop} (hr : fn.results = rs.toArray) (hv : resV P env G rs vs) (hsel : sel G is = some (G', Gr)) (hq : pickQ Q js = some Q') (hR : R (tupV vs) G' Q') (h : St c n env G Q a w) : FinP P fn c R E .ret a w :=
  FinP.of (Fin.back hr hv hsel hq hR h)
theorem FinP.back0 {fn : Func} {is js : List Nat} {R : Value → List Own → List Pers → Prop} {E : Value → Prop} (hr : fn.results = #[]) (hsel : sel G is = some (G', Gr)) (hq : pickQ Q js = some Q') (hR : R (.tuple #[]) G' Q') (h : St c n env G Q a w) : FinP P fn c R E .normal a w :=
  FinP.of (Fin.back (rs := []) (vs := []) (by rw [hr]) trivial hsel hq hR h)
end
end Go.Sx
namespace Go.Proofs.YtdhdmbmknpjhbaaGreat
open Go Go.Sx Go.Proofs
structure Grp where
  epoch : Int
  members : List Int
  deriving Inhabited, DecidableEq
def kGrp : Kd Grp := Kd.iso (Kd.pair (Kd.int .i64) (Kd.slice (Kd.int .i64))) (fun r => (r.epoch, r.members))
def okGrp (r : Grp) : Prop := ((Lit.int .i64 r.epoch).wf = true) ∧ ((r.members.length * 8 ≤ 140737488351232 ∧ ∀ y ∈ r.members, (Lit.int .i64 y).wf = true))
theorem opensGrp : Opens Tryz.prog 33 kGrp okGrp := Opens.struct Tryz.underlying33 (OpensF.cons (Opens.int Tryz.underlying3) (by kernel_rfl) rfl (OpensF.one (Opens.slice Tryz.underlying31 (Opens.int Tryz.underlying3) (by kernel_rfl) (by decide) (by kernel_rfl : Program.bytesOf Tryz.prog 3 = 8)) (by kernel_rfl))) (by kernel_rfl) (fun r : Grp => (r.epoch, r.members)) (fun p => (⟨p.1, p.2⟩ : Grp)) (fun _ => rfl)
structure Entry where
  kind : Int
  num : Int
  view : Int
  client : Int
  serial : Int
  op : OpD
  grp : Grp
  deriving Inhabited, DecidableEq
def kEntry : Kd Entry := Kd.iso (Kd.pair (Kd.int .u8) (Kd.pair (Kd.int .i64) (Kd.pair (Kd.int .i64) (Kd.pair (Kd.int .i64) (Kd.pair (Kd.int .i64) (Kd.pair kOpD (kGrp))))))) (fun r => (r.kind, r.num, r.view, r.client, r.serial, r.op, r.grp))
def okEntry (r : Entry) : Prop := ((Lit.int .u8 r.kind).wf = true) ∧ ((Lit.int .i64 r.num).wf = true) ∧ ((Lit.int .i64 r.view).wf = true) ∧ ((Lit.int .i64 r.client).wf = true) ∧ ((Lit.int .i64 r.serial).wf = true) ∧ (okOpD r.op) ∧ (okGrp r.grp)
theorem opensEntry : Opens Tryz.prog 64 kEntry okEntry := Opens.struct Tryz.underlying64 (OpensF.cons (Opens.int Tryz.underlying62) (by kernel_rfl) rfl (OpensF.cons (Opens.int Tryz.underlying3) (by kernel_rfl) rfl (OpensF.cons (Opens.int Tryz.underlying3) (by kernel_rfl) rfl (OpensF.cons (Opens.int Tryz.underlying3) (by kernel_rfl) rfl (OpensF.cons (Opens.int Tryz.underlying3) (by kernel_rfl) rfl (OpensF.cons opensOpD (by kernel_rfl) rfl (OpensF.one opensGrp (by kernel_rfl)))))))) (by kernel_rfl) (fun r : Entry => (r.kind, r.num, r.view, r.client, r.serial, r.op, r.grp)) (fun p => (⟨p.1, p.2.1, p.2.2.1, p.2.2.2.1, p.2.2.2.2.1, p.2.2.2.2.2.1, p.2.2.2.2.2.2⟩ : Entry)) (fun _ => rfl)
structure Stt where
  num : Int
  shp : Shp
  pages : List Page
  rows : List Row
  grp : Grp
  deriving Inhabited, DecidableEq
def kStt : Kd Stt := Kd.iso (Kd.pair (Kd.int .i64) (Kd.pair kShp (Kd.pair (Kd.slice kPage) (Kd.pair (Kd.slice kRow) (kGrp))))) (fun r => (r.num, r.shp, r.pages, r.rows, r.grp))
def okStt (r : Stt) : Prop := ((Lit.int .i64 r.num).wf = true) ∧ (okShp r.shp) ∧ ((r.pages.length * 40 ≤ 140737488351232 ∧ ∀ y ∈ r.pages, okPage y)) ∧ ((r.rows.length * 48 ≤ 140737488351232 ∧ ∀ y ∈ r.rows, okRow y)) ∧ (okGrp r.grp)
theorem opensStt : Opens Tryz.prog 39 kStt okStt := Opens.struct Tryz.underlying39 (OpensF.cons (Opens.int Tryz.underlying3) (by kernel_rfl) rfl (OpensF.cons opensShp (by kernel_rfl) rfl (OpensF.cons (Opens.slice Tryz.underlying36 opensPage (by kernel_rfl) (by decide) (by kernel_rfl : Program.bytesOf Tryz.prog 59 = 40)) (by kernel_rfl) rfl (OpensF.cons (Opens.slice Tryz.underlying37 opensRow (by kernel_rfl) (by decide) (by kernel_rfl : Program.bytesOf Tryz.prog 61 = 48)) (by kernel_rfl) rfl (OpensF.one opensGrp (by kernel_rfl)))))) (by kernel_rfl) (fun r : Stt => (r.num, r.shp, r.pages, r.rows, r.grp)) (fun p => (⟨p.1, p.2.1, p.2.2.1, p.2.2.2.1, p.2.2.2.2⟩ : Stt)) (fun _ => rfl)
structure Msg where
  kind : Int
  src : Int
  dst : Int
  epoch : Int
  view : Int
  num : Int
  commit : Int
  normal : Int
  nonce : Int
  client : Int
  serial : Int
  op : OpD
  res : Res
  grp : Grp
  stt : Stt
  log : List Entry
  deriving Inhabited, DecidableEq
def kMsg : Kd Msg := Kd.iso (Kd.pair (Kd.int .u8) (Kd.pair (Kd.int .i64) (Kd.pair (Kd.int .i64) (Kd.pair (Kd.int .i64) (Kd.pair (Kd.int .i64) (Kd.pair (Kd.int .i64) (Kd.pair (Kd.int .i64) (Kd.pair (Kd.int .i64) (Kd.pair (Kd.int .u64) (Kd.pair (Kd.int .i64) (Kd.pair (Kd.int .i64) (Kd.pair kOpD (Kd.pair kRes (Kd.pair kGrp (Kd.pair kStt (Kd.slice kEntry)))))))))))))))) (fun r => (r.kind, r.src, r.dst, r.epoch, r.view, r.num, r.commit, r.normal, r.nonce, r.client, r.serial, r.op, r.res, r.grp, r.stt, r.log))
def okMsg (r : Msg) : Prop := ((Lit.int .u8 r.kind).wf = true) ∧ ((Lit.int .i64 r.src).wf = true) ∧ ((Lit.int .i64 r.dst).wf = true) ∧ ((Lit.int .i64 r.epoch).wf = true) ∧ ((Lit.int .i64 r.view).wf = true) ∧ ((Lit.int .i64 r.num).wf = true) ∧ ((Lit.int .i64 r.commit).wf = true) ∧ ((Lit.int .i64 r.normal).wf = true) ∧ ((Lit.int .u64 r.nonce).wf = true) ∧ ((Lit.int .i64 r.client).wf = true) ∧ ((Lit.int .i64 r.serial).wf = true) ∧ (okOpD r.op) ∧ (okRes r.res) ∧ (okGrp r.grp) ∧ (okStt r.stt) ∧ ((r.log.length * 144 ≤ 140737488351232 ∧ ∀ y ∈ r.log, okEntry y))
theorem opensMsg : Opens Tryz.prog 42 kMsg okMsg := Opens.struct Tryz.underlying42 (OpensF.cons (Opens.int Tryz.underlying22) (by kernel_rfl) rfl (OpensF.cons (Opens.int Tryz.underlying3) (by kernel_rfl) rfl (OpensF.cons (Opens.int Tryz.underlying3) (by kernel_rfl) rfl (OpensF.cons (Opens.int Tryz.underlying3) (by kernel_rfl) rfl (OpensF.cons (Opens.int Tryz.underlying3) (by kernel_rfl) rfl (OpensF.cons (Opens.int Tryz.underlying3) (by kernel_rfl) rfl (OpensF.cons (Opens.int Tryz.underlying3) (by kernel_rfl) rfl (OpensF.cons (Opens.int Tryz.underlying3) (by kernel_rfl) rfl (OpensF.cons (Opens.int Tryz.underlying23) (by kernel_rfl) rfl (OpensF.cons (Opens.int Tryz.underlying3) (by kernel_rfl) rfl (OpensF.cons (Opens.int Tryz.underlying3) (by kernel_rfl) rfl (OpensF.cons opensOpD (by kernel_rfl) rfl (OpensF.cons opensRes (by kernel_rfl) rfl (OpensF.cons opensGrp (by kernel_rfl) rfl (OpensF.cons opensStt (by kernel_rfl) rfl (OpensF.one (Opens.slice Tryz.underlying40 opensEntry (by kernel_rfl) (by decide) (by kernel_rfl : Program.bytesOf Tryz.prog 64 = 144)) (by kernel_rfl))))))))))))))))) (by kernel_rfl) (fun r : Msg => (r.kind, r.src, r.dst, r.epoch, r.view, r.num, r.commit, r.normal, r.nonce, r.client, r.serial, r.op, r.res, r.grp, r.stt, r.log)) (fun p => (⟨p.1, p.2.1, p.2.2.1, p.2.2.2.1, p.2.2.2.2.1, p.2.2.2.2.2.1, p.2.2.2.2.2.2.1, p.2.2.2.2.2.2.2.1, p.2.2.2.2.2.2.2.2.1, p.2.2.2.2.2.2.2.2.2.1, p.2.2.2.2.2.2.2.2.2.2.1, p.2.2.2.2.2.2.2.2.2.2.2.1, p.2.2.2.2.2.2.2.2.2.2.2.2.1, p.2.2.2.2.2.2.2.2.2.2.2.2.2.1, p.2.2.2.2.2.2.2.2.2.2.2.2.2.2.1, p.2.2.2.2.2.2.2.2.2.2.2.2.2.2.2⟩ : Msg)) (fun _ => rfl)
def zop : OpD := ⟨0, 0, 0, [], []⟩
def zgr : Grp := ⟨0, []⟩
def zst : Stt := ⟨0, ⟨0, 0⟩, [], [], zgr⟩
abbrev opD (o : OpD) (A : Option Addr) (cp : Nat) (B : Option Addr) (cq : Nat) : Value := opV o.kind o.at_ o.n A o.data.length cp B o.old.length cq
abbrev entV (e : Entry) (A : Option Addr) (cp : Nat) (B : Option Addr) (cq : Nat) (C : Option Addr) (cr : Nat) : Value := .agg #[.int .u8 e.kind, .int .i64 e.num, .int .i64 e.view, .int .i64 e.client, .int .i64 e.serial, .int .u8 e.op.kind, .int .i64 e.op.at_, .int .i64 e.op.n, .slice A e.op.data.length cp, .slice B e.op.old.length cq, .int .i64 e.grp.epoch, .slice C e.grp.members.length cr]
abbrev entQ (e : Entry) (A B C : Option Addr) : List Pers := [Pers.row Kd.u8 A e.op.data, Pers.row Kd.u8 B e.op.old, Pers.row kI C e.grp.members]
abbrev sttV (s : Stt) (A : Option Addr) (cp : Nat) (B : Option Addr) (cq : Nat) (C : Option Addr) (cr : Nat) : Value := .agg #[.int .i64 s.num, .int .i64 s.shp.bl, .int .i64 s.shp.sz, .slice A s.pages.length cp, .slice B s.rows.length cq, .int .i64 s.grp.epoch, .slice C s.grp.members.length cr]
abbrev sttQ (s : Stt) (A B C : Option Addr) : List Pers := [Pers.row kPage A s.pages, Pers.row kRow B s.rows, Pers.row kI C s.grp.members]
structure Lie where
  a1 : Option Addr
  c1 : Nat
  a2 : Option Addr
  c2 : Nat
  a3 : Option Addr
  c3 : Nat
  a4 : Option Addr
  c4 : Nat
  a5 : Option Addr
  c5 : Nat
  a6 : Option Addr
  c6 : Nat
  a7 : Option Addr
  c7 : Nat
  a8 : Option Addr
  c8 : Nat
abbrev msgL (m : Msg) (s : Lie) : List Value := [.int .u8 m.kind, .int .i64 m.src, .int .i64 m.dst, .int .i64 m.epoch, .int .i64 m.view, .int .i64 m.num, .int .i64 m.commit, .int .i64 m.normal, .int .u64 m.nonce, .int .i64 m.client, .int .i64 m.serial,
  .int .u8 m.op.kind, .int .i64 m.op.at_, .int .i64 m.op.n, .slice s.a1 m.op.data.length s.c1, .slice s.a2 m.op.old.length s.c2, .int .u8 m.res.code, .slice s.a3 m.res.data.length s.c3, .int .i64 m.grp.epoch, .slice s.a4 m.grp.members.length s.c4,
  .int .i64 m.stt.num, .int .i64 m.stt.shp.bl, .int .i64 m.stt.shp.sz, .slice s.a5 m.stt.pages.length s.c5, .slice s.a6 m.stt.rows.length s.c6, .int .i64 m.stt.grp.epoch, .slice s.a7 m.stt.grp.members.length s.c7, .slice s.a8 m.log.length s.c8]
abbrev msgV (m : Msg) (s : Lie) : Value := .agg (msgL m s).toArray
abbrev msgQ (m : Msg) (s : Lie) : List Pers := [Pers.row Kd.u8 s.a1 m.op.data, Pers.row Kd.u8 s.a2 m.op.old, Pers.row Kd.u8 s.a3 m.res.data, Pers.row kI s.a4 m.grp.members, Pers.row kPage s.a5 m.stt.pages, Pers.row kRow s.a6 m.stt.rows, Pers.row kI s.a7 m.stt.grp.members, Pers.row kEntry s.a8 m.log]
abbrev lenOk (n : Nat) : Prop := n ≤ 140737488351232
structure EntLen (e : Entry) : Prop where
  d : lenOk e.op.data.length
  o : lenOk e.op.old.length
  m : e.grp.members.length ≤ 17592186043904
structure SttLen (s : Stt) : Prop where
  p : s.pages.length ≤ 17592186043904
  r : s.rows.length ≤ 17592186043904
  m : s.grp.members.length ≤ 17592186043904
  pd : ∀ p ∈ s.pages, lenOk p.data.length
  rd : ∀ r ∈ s.rows, lenOk r.result.data.length
structure MsgLen (m : Msg) : Prop where
  d : lenOk m.op.data.length
  o : lenOk m.op.old.length
  r : lenOk m.res.data.length
  g : m.grp.members.length ≤ 17592186043904
  s : SttLen m.stt
  l : m.log.length ≤ 17592186043904
  e : ∀ e ∈ m.log, EntLen e
def formD (o : OpD) : Prop := formP o.kind o.at_ o.n o.data.length o.old.length
instance (o : OpD) : Decidable (formD o) := by unfold formD; infer_instance
def in62 (n : Int) : Prop := 0 ≤ n ∧ n ≤ 4611686018427387904
instance (n : Int) : Decidable (in62 n) := by unfold in62; infer_instance
def entOk (e : Entry) : Prop := isNum e.num = true ∧ isNum e.client = true ∧ isNum e.serial = true ∧ in62 e.view ∧ ((e.kind = 1 ∧ formD e.op ∧ e.grp.epoch = 0 ∧ e.grp.members.length = 0) ∨ (e.kind = 2 ∧ e.op = zop ∧ groupOk e.grp.epoch e.grp.members = true ∧ e.view < 4611686018427387904))
instance (e : Entry) : Decidable (entOk e) := by unfold entOk; infer_instance
def entE (e : Entry) : Int := if entOk e then 0 else 71
def heldOk (s : Stt) : Prop := in62 s.num ∧ groupOk s.grp.epoch s.grp.members = true ∧ shapeOk s.shp.bl s.shp.sz ∧ laidF s.shp.bl s.shp.sz (-1) s.pages = true ∧ rightF s.rows = true ∧ ∀ p ∈ s.pages, p.ver ≤ s.num
instance (s : Stt) : Decidable (heldOk s) := by unfold heldOk; infer_instance
def rowOkE (l : List Entry) : Prop := ∀ k : Nat, k < l.length → entOk (gt l (k : Int)) ∧ (0 < k → (gt l (k : Int)).num - 1 = (gt l ((k : Int) - 1)).num)
instance (l : List Entry) : Decidable (rowOkE l) := by unfold rowOkE; infer_instance
def who (n : Int) : Prop := -4611686018427387904 ≤ n ∧ n < 64
instance (n : Int) : Decidable (who n) := by unfold who; infer_instance
def numsOk (m : Msg) : Prop := in62 m.epoch ∧ in62 m.view ∧ in62 m.num ∧ in62 m.commit ∧ in62 m.normal ∧ in62 m.client ∧ in62 m.serial
instance (m : Msg) : Decidable (numsOk m) := by unfold numsOk; infer_instance
def partsOk (m : Msg) : Prop := (m.op = zop ∨ formD m.op) ∧ (m.res = rz ∨ resOk m.res.code m.res.data.length = true) ∧ (m.grp = zgr ∨ groupOk m.grp.epoch m.grp.members = true) ∧ (m.stt = zst ∨ heldOk m.stt)
instance (m : Msg) : Decidable (partsOk m) := by unfold partsOk; infer_instance
def msgOk (m : Msg) : Prop := numsOk m ∧ 1 ≤ m.kind ∧ m.kind ≤ 14 ∧ who m.src ∧ who m.dst ∧ partsOk m ∧ rowOkE m.log
instance (m : Msg) : Decidable (msgOk m) := by unfold msgOk; infer_instance
def msgE (m : Msg) : Int := if msgOk m then 0 else 160
theorem entE_iff (e : Entry) : (entE e = 0) = entOk e := by unfold entE; split <;> simp_all
theorem grpE_iff (b : Bool) : ((if b = true then (0 : Int) else 71) = 0) = (b = true) := by cases b <;> simp
end Go.Proofs.YtdhdmbmknpjhbaaGreat
namespace Go.Proofs.YtdhdmbmknpjhbaaGreat
open Go Go.Sx Go.Proofs
section
variable {P : Program} {n : Nat} {env : List (Nat × Value)} {d : Nat} {t u ty : TypeId} {pos : String} {aft : Array Edge} {g : Option (Nat × Bool)} {x y : Operand} {k k' yk : IntKind} {m l r : Int}
theorem p_convR (ht : P.underlying t ≠ none) (hu : P.underlying u = some (.int k')) (hx : ev env x = some (.int k m)) (hr : k'.wrap m = r) : Pv P n env ⟨some d, .convert t u x, ty, pos, aft, g⟩ (.int k' r) := hr ▸ p_conv ht hu hx
theorem p_shlR (hx : ev env x = some (.int k m)) (hy : ev env y = some (.int yk l)) (h0 : 0 ≤ l) (hr : k.wrap (m * 2 ^ (min l.toNat k.bits)) = r) : Pv P n env ⟨some d, .binOp .shl t x y u, ty, pos, aft, g⟩ (.int k r) := hr ▸ p_shl hx hy h0
theorem p_shrR (hx : ev env x = some (.int k m)) (hy : ev env y = some (.int yk l)) (h0 : 0 ≤ l) (hr : m.fdiv (2 ^ (min l.toNat k.bits)) = r) : Pv P n env ⟨some d, .binOp .shr t x y u, ty, pos, aft, g⟩ (.int k r) := hr ▸ p_shr hx hy h0
theorem p_orR (hx : ev env x = some (.int k m)) (hy : ev env y = some (.int k l)) (hr : k.wrap ((BitVec.ofInt k.bits m ||| BitVec.ofInt k.bits l).toNat : Int) = r) : Pv P n env ⟨some d, .binOp .or t x y u, ty, pos, aft, g⟩ (.int k r) := hr ▸ p_or hx hy
theorem p_andR (hx : ev env x = some (.int k m)) (hy : ev env y = some (.int k l)) (hr : k.wrap ((BitVec.ofInt k.bits m &&& BitVec.ofInt k.bits l).toNat : Int) = r) : Pv P n env ⟨some d, .binOp .and t x y u, ty, pos, aft, g⟩ (.int k r) := hr ▸ p_and hx hy
end
end Go.Proofs.YtdhdmbmknpjhbaaGreat
namespace Go.Proofs.YtdhdmbmknpjhbaaGreat
open Go Go.Sx Go.Proofs
theorem Ct.drop {P : Program} {f : FuncId} {args : List Value} {G : List Own} {Q : List Pers} {R : Value → List Own → List Pers → Prop} {R' : Value → Prop} (h : Ct P f args G Q R) (hr : ∀ v G' Q', R v G' Q' → R' v) : Ct P f args G Q (fun v G' Q' => R' v ∧ G' = [] ∧ Q' = []) :=
  fun w S hh => (h w S hh).mono fun e w' ⟨v, G', Q', S', h1, h2, h3, h4, h5, h6⟩ => ⟨v, [], [], S', h1, ⟨hr _ _ _ h2, rfl, rfl⟩, h3.sub (List.nil_sublist _) (fun q hq => by cases hq), h4, h5, fun k hk => by cases hk⟩
end Go.Proofs.YtdhdmbmknpjhbaaGreat
namespace Go.Proofs.YtdhdmbmknpjhbaaGreat
open Go Go.Sx Go.Proofs
theorem Ct.free {P : Program} {f : FuncId} {args : List Value} {G : List Own} {q : Pers} {Q : List Pers} {R : Value → List Own → List Pers → Prop} (h : Ct P f args G (q :: Q) R) (hq : ∀ w S, q.h w S) : Ct P f args G Q R :=
  fun w S hh => h w S ⟨hh.own, hh.nod, hh.out, fun p hp => by
    rcases List.mem_cons.1 hp with rfl | hp
    · exact hq w S
    · exact hh.per p hp⟩
theorem Ct.qperm {P : Program} {f : FuncId} {args : List Value} {G : List Own} {Q Q' : List Pers} {R : Value → List Own → List Pers → Prop} (h : Ct P f args G Q R) (hq : ∀ q ∈ Q, q ∈ Q' ∨ ∀ w S, q.h w S) : Ct P f args G Q' R :=
  fun w S hh => h w S ⟨hh.own, hh.nod, hh.out, fun p hp => (hq p hp).elim (hh.per p) (fun g => g w S)⟩
theorem nil8 : ∀ w S, (Pers.row Kd.u8 none []).h w S := fun _ _ => .inl rfl
theorem op_ext (o p : OpD) : (o = p) ↔ (o.kind = p.kind ∧ o.at_ = p.at_ ∧ o.n = p.n ∧ o.data = p.data ∧ o.old = p.old) := by cases o; cases p; simp
theorem gr_ext (o p : Grp) : (o = p) ↔ (o.epoch = p.epoch ∧ o.members = p.members) := by cases o; cases p; simp
theorem pg_ext (o p : Page) : (o = p) ↔ (o.at_ = p.at_ ∧ o.ver = p.ver ∧ o.data = p.data) := by cases o; cases p; simp
theorem rs_ext (o p : Res) : (o = p) ↔ (o.code = p.code ∧ o.data = p.data) := by cases o; cases p; simp
theorem sh_ext (o p : Shp) : (o = p) ↔ (o.bl = p.bl ∧ o.sz = p.sz) := by cases o; cases p; simp
theorem en_ext (o p : Entry) : (o = p) ↔ (o.kind = p.kind ∧ o.num = p.num ∧ o.view = p.view ∧ o.client = p.client ∧ o.serial = p.serial ∧ o.op = p.op ∧ o.grp = p.grp) := by cases o; cases p; simp
theorem st_ext (o p : Stt) : (o = p) ↔ (o.num = p.num ∧ o.shp = p.shp ∧ o.pages = p.pages ∧ o.rows = p.rows ∧ o.grp = p.grp) := by cases o; cases p; simp
theorem ms_ext (o p : Msg) : (o = p) ↔ (o.kind = p.kind ∧ o.src = p.src ∧ o.dst = p.dst ∧ o.epoch = p.epoch ∧ o.view = p.view ∧ o.num = p.num ∧ o.commit = p.commit ∧ o.normal = p.normal ∧ o.nonce = p.nonce ∧ o.client = p.client ∧ o.serial = p.serial ∧ o.op = p.op ∧ o.res = p.res ∧ o.grp = p.grp ∧ o.stt = p.stt ∧ o.log = p.log) := by cases o; cases p; simp
theorem sameG_iff (g h : Grp) : sameG g.epoch g.members h.epoch h.members = decide (g = h) := by
  unfold sameG; rw [Bool.eq_iff_iff]; simp [gr_ext]
theorem bsame_ct (o p : OpD) (A : Option Addr) (cp : Nat) (B : Option Addr) (cq : Nat) (C : Option Addr) (cr : Nat) (D : Option Addr) (cs : Nat) : Ct Tryz.prog 37 [opD o A cp B cq, opD p C cr D cs] [] [Pers.row Kd.u8 A o.data, Pers.row Kd.u8 B o.old, Pers.row Kd.u8 C p.data, Pers.row Kd.u8 D p.old] (fun u G Q => u = .bool (decide (o = p)) ∧ G = [] ∧ Q = []) := by
 refine Ct.intro Tryz.func37 rfl rfl rfl (fun c hc => ?_)
 refine GC.sr_ ?_; refine GL.step rfl (t_box rfl rfl rfl) (GL.ex fun b_t2 => ?_); refine GL.step rfl (t_box rfl rfl rfl) (GL.ex fun b_t3 => ?_); refine GL.as_ rfl rfl ?_; refine GL.nl_ ?_; refine GC.sr_ ?_; refine GL.pure rfl (p_fieldAddr fo_27_0 rfl) ?_
 refine GL.step rfl (t_mem rfl (m_load (i := 1) rfl rfl ag_24 rfl)) ?_; refine GL.pure rfl (p_fieldAddr fo_27_0 rfl) ?_; refine GL.step rfl (t_mem rfl (m_load (i := 0) rfl rfl ag_24 rfl)) ?_; refine GL.pure rfl (p_eql rfl rfl) ?_
 refine GL.mv_ rfl rfl ?_; refine GL.split (i := 10) rfl (fun h1 => ?_) (fun h1 => ?_)
 ·try simp only [tst_] at h1
  refine GL.pureG (s := 10) rfl rfl rfl (p_fieldAddr fo_27_1 rfl) ?_; refine GL.stepG rfl (s := 10) rfl rfl (t_mem rfl (m_load (i := 1) rfl rfl ag_3 rfl)) ?_; refine GL.pureG (s := 10) rfl rfl rfl (p_fieldAddr fo_27_1 rfl) ?_
  refine GL.stepG rfl (s := 10) rfl rfl (t_mem rfl (m_load (i := 0) rfl rfl ag_3 rfl)) ?_; refine GL.pureG (s := 10) rfl rfl rfl (p_eql rfl rfl) ?_; refine GL.pure rfl (p_pick_true rfl rfl) ?_; refine GL.mv_ rfl rfl ?_; refine GL.split (i := 17) rfl (fun h2 => ?_) (fun h2 => ?_)
  ·try simp only [tst_] at h2
   refine GL.pureG (s := 17) rfl rfl rfl (p_fieldAddr fo_27_2 rfl) ?_; refine GL.stepG rfl (s := 17) rfl rfl (t_mem rfl (m_load (i := 1) rfl rfl ag_3 rfl)) ?_; refine GL.pureG (s := 17) rfl rfl rfl (p_fieldAddr fo_27_2 rfl) ?_
   refine GL.stepG rfl (s := 17) rfl rfl (t_mem rfl (m_load (i := 0) rfl rfl ag_3 rfl)) ?_; refine GL.pureG (s := 17) rfl rfl rfl (p_eql rfl rfl) ?_; refine GL.pure rfl (p_pick_true rfl rfl) ?_; refine GL.mv_ rfl rfl ?_; refine GL.split (i := 24) rfl (fun h3 => ?_) (fun h3 => ?_)
   ·try simp only [tst_] at h3
    refine GL.pureG (s := 24) rfl rfl rfl (p_fieldAddr fo_27_3 rfl) ?_; refine GL.stepG rfl (s := 24) rfl rfl (t_mem rfl (m_load (i := 1) rfl rfl ag_25 rfl)) ?_; refine GL.pureG (s := 24) rfl rfl rfl (p_fieldAddr fo_27_3 rfl) ?_
    refine GL.stepG rfl (s := 24) rfl rfl (t_mem rfl (m_load (i := 0) rfl rfl ag_25 rfl)) ?_; refine GL.stepG rfl (s := 24) rfl rfl (t_call rfl fn_35 rfl (is := []) (js := [0, 2]) rfl rfl (by exact equal_ct _ _ _ _ _ _)) (GL.ret ?_)
    rintro _ _ _ ⟨rfl, rfl, rfl⟩
    refine GL.pure rfl (p_pick_true rfl rfl) ?_; refine GL.mv_ rfl rfl ?_; refine GL.split (i := 31) rfl (fun h4 => ?_) (fun h4 => ?_)
    ·try simp only [tst_] at h4
     refine GL.pureG (s := 31) rfl rfl rfl (p_fieldAddr fo_27_4 rfl) ?_; refine GL.stepG rfl (s := 31) rfl rfl (t_mem rfl (m_load (i := 1) rfl rfl ag_25 rfl)) ?_; refine GL.pureG (s := 31) rfl rfl rfl (p_fieldAddr fo_27_4 rfl) ?_
     refine GL.stepG rfl (s := 31) rfl rfl (t_mem rfl (m_load (i := 0) rfl rfl ag_25 rfl)) ?_; refine GL.stepG rfl (s := 31) rfl rfl (t_call rfl fn_35 rfl (is := []) (js := [1, 3]) rfl rfl (by exact equal_ct _ _ _ _ _ _)) (GL.ret ?_)
     rintro _ _ _ ⟨rfl, rfl, rfl⟩
     refine GL.pure rfl (p_pick_true rfl rfl) ?_; refine GL.as_ rfl rfl ?_; refine GL.nl_ ?_; refine GC.ret ?_
     refine fun a w h => Fin.back (rs := [.tmp 4]) (vs := [_]) (is := []) (js := []) rfl ⟨rfl, trivial⟩ rfl rfl ?_ h
     clear h
     refine ⟨congrArg Value.bool ?_, rfl, rfl⟩
     simp [op_ext, *]
    ·try simp only [tst_] at h4
     iterate 5 refine GL.pass (s := 31) rfl rfl rfl ?_
     refine GL.pure rfl (p_pick_false rfl rfl) ?_; refine GL.as_ rfl rfl ?_; refine GL.nl_ ?_; refine GC.ret ?_
     refine fun a w h => Fin.back (rs := [.tmp 4]) (vs := [_]) (is := []) (js := []) rfl ⟨rfl, trivial⟩ rfl rfl ?_ h
     clear h
     refine ⟨congrArg Value.bool ?_, rfl, rfl⟩
     simp [op_ext, *]
   ·try simp only [tst_] at h3
    iterate 5 refine GL.pass (s := 24) rfl rfl rfl ?_
    refine GL.pure rfl (p_pick_false rfl rfl) ?_; refine GL.mv_ rfl rfl ?_
    iterate 5 refine GL.pass (s := 31) rfl rfl rfl ?_
    refine GL.pure rfl (p_pick_false rfl rfl) ?_; refine GL.as_ rfl rfl ?_; refine GL.nl_ ?_; refine GC.ret ?_
    refine fun a w h => Fin.back (rs := [.tmp 4]) (vs := [_]) (is := []) (js := []) rfl ⟨rfl, trivial⟩ rfl rfl ?_ h
    clear h
    refine ⟨congrArg Value.bool ?_, rfl, rfl⟩
    simp [op_ext, *]
  ·try simp only [tst_] at h2
   iterate 5 refine GL.pass (s := 17) rfl rfl rfl ?_
   refine GL.pure rfl (p_pick_false rfl rfl) ?_; refine GL.mv_ rfl rfl ?_
   iterate 5 refine GL.pass (s := 24) rfl rfl rfl ?_
   refine GL.pure rfl (p_pick_false rfl rfl) ?_; refine GL.mv_ rfl rfl ?_
   iterate 5 refine GL.pass (s := 31) rfl rfl rfl ?_
   refine GL.pure rfl (p_pick_false rfl rfl) ?_; refine GL.as_ rfl rfl ?_; refine GL.nl_ ?_; refine GC.ret ?_
   refine fun a w h => Fin.back (rs := [.tmp 4]) (vs := [_]) (is := []) (js := []) rfl ⟨rfl, trivial⟩ rfl rfl ?_ h
   clear h
   refine ⟨congrArg Value.bool ?_, rfl, rfl⟩
   simp [op_ext, *]
 ·try simp only [tst_] at h1
  iterate 5 refine GL.pass (s := 10) rfl rfl rfl ?_
  refine GL.pure rfl (p_pick_false rfl rfl) ?_; refine GL.mv_ rfl rfl ?_
  iterate 5 refine GL.pass (s := 17) rfl rfl rfl ?_
  refine GL.pure rfl (p_pick_false rfl rfl) ?_; refine GL.mv_ rfl rfl ?_
  iterate 5 refine GL.pass (s := 24) rfl rfl rfl ?_
  refine GL.pure rfl (p_pick_false rfl rfl) ?_; refine GL.mv_ rfl rfl ?_
  iterate 5 refine GL.pass (s := 31) rfl rfl rfl ?_
  refine GL.pure rfl (p_pick_false rfl rfl) ?_; refine GL.as_ rfl rfl ?_; refine GL.nl_ ?_; refine GC.ret ?_
  refine fun a w h => Fin.back (rs := [.tmp 4]) (vs := [_]) (is := []) (js := []) rfl ⟨rfl, trivial⟩ rfl rfl ?_ h
  clear h
  refine ⟨congrArg Value.bool ?_, rfl, rfl⟩
  simp [op_ext, *]
theorem rbsame_ct (o p : OpD) (A : Option Addr) (cp : Nat) (B : Option Addr) (cq : Nat) (C : Option Addr) (cr : Nat) (D : Option Addr) (cs : Nat) : Ct Tryz.prog 27 [opD o A cp B cq, opD p C cr D cs] [] [Pers.row Kd.u8 A o.data, Pers.row Kd.u8 B o.old, Pers.row Kd.u8 C p.data, Pers.row Kd.u8 D p.old] (fun u G Q => u = .bool (decide (o = p)) ∧ G = [] ∧ Q = []) := by
 refine Ct.intro Tryz.func27 rfl rfl rfl (fun c hc => ?_)
 refine GC.sr_ ?_; refine GL.step rfl (t_box rfl rfl rfl) (GL.ex fun b_t2 => ?_); refine GL.step rfl (t_box rfl rfl rfl) (GL.ex fun b_t3 => ?_); refine GL.as_ rfl rfl ?_; refine GL.nl_ ?_; refine GC.sr_ ?_; refine GL.pure rfl (p_fieldAddr fo_27_0 rfl) ?_
 refine GL.step rfl (t_mem rfl (m_load (i := 1) rfl rfl ag_24 rfl)) ?_; refine GL.pure rfl (p_fieldAddr fo_27_0 rfl) ?_; refine GL.step rfl (t_mem rfl (m_load (i := 0) rfl rfl ag_24 rfl)) ?_; refine GL.pure rfl (p_eql rfl rfl) ?_
 refine GL.mv_ rfl rfl ?_; refine GL.split (i := 10) rfl (fun h1 => ?_) (fun h1 => ?_)
 ·try simp only [tst_, str_eq] at h1
  refine GL.pureG (s := 10) rfl rfl rfl (p_fieldAddr fo_27_1 rfl) ?_; refine GL.stepG rfl (s := 10) rfl rfl (t_mem rfl (m_load (i := 1) rfl rfl ag_3 rfl)) ?_; refine GL.pureG (s := 10) rfl rfl rfl (p_fieldAddr fo_27_1 rfl) ?_
  refine GL.stepG rfl (s := 10) rfl rfl (t_mem rfl (m_load (i := 0) rfl rfl ag_3 rfl)) ?_; refine GL.pureG (s := 10) rfl rfl rfl (p_eql rfl rfl) ?_; refine GL.pure rfl (p_pick_true rfl rfl) ?_; refine GL.mv_ rfl rfl ?_; refine GL.split (i := 17) rfl (fun h2 => ?_) (fun h2 => ?_)
  ·try simp only [tst_, str_eq] at h2
   refine GL.pureG (s := 17) rfl rfl rfl (p_fieldAddr fo_27_2 rfl) ?_; refine GL.stepG rfl (s := 17) rfl rfl (t_mem rfl (m_load (i := 1) rfl rfl ag_3 rfl)) ?_; refine GL.pureG (s := 17) rfl rfl rfl (p_fieldAddr fo_27_2 rfl) ?_
   refine GL.stepG rfl (s := 17) rfl rfl (t_mem rfl (m_load (i := 0) rfl rfl ag_3 rfl)) ?_; refine GL.pureG (s := 17) rfl rfl rfl (p_eql rfl rfl) ?_; refine GL.pure rfl (p_pick_true rfl rfl) ?_; refine GL.mv_ rfl rfl ?_; refine GL.split (i := 24) rfl (fun h3 => ?_) (fun h3 => ?_)
   ·try simp only [tst_, str_eq] at h3
    refine GL.pureG (s := 24) rfl rfl rfl (p_fieldAddr fo_27_3 rfl) ?_; refine GL.stepG rfl (s := 24) rfl rfl (t_mem rfl (m_load (i := 1) rfl rfl ag_25 rfl)) ?_; refine GL.stepG rfl (s := 24) rfl rfl (t_mem rfl (m_str (i := 0) rfl rfl Tryz.underlying25 Tryz.underlying5 Tryz.underlying9)) ?_
    refine GL.pureG (s := 24) rfl rfl rfl (p_fieldAddr fo_27_3 rfl) ?_; refine GL.stepG rfl (s := 24) rfl rfl (t_mem rfl (m_load (i := 0) rfl rfl ag_25 rfl)) ?_; refine GL.stepG rfl (s := 24) rfl rfl (t_mem rfl (m_str (i := 2) rfl rfl Tryz.underlying25 Tryz.underlying5 Tryz.underlying9)) ?_
    refine GL.pureG (s := 24) rfl rfl rfl (p_seql rfl rfl) ?_; refine GL.pure rfl (p_pick_true rfl rfl) ?_; refine GL.mv_ rfl rfl ?_; refine GL.split (i := 33) rfl (fun h4 => ?_) (fun h4 => ?_)
    ·try simp only [tst_, str_eq] at h4
     refine GL.pureG (s := 33) rfl rfl rfl (p_fieldAddr fo_27_4 rfl) ?_; refine GL.stepG rfl (s := 33) rfl rfl (t_mem rfl (m_load (i := 1) rfl rfl ag_25 rfl)) ?_; refine GL.stepG rfl (s := 33) rfl rfl (t_mem rfl (m_str (i := 1) rfl rfl Tryz.underlying25 Tryz.underlying5 Tryz.underlying9)) ?_
     refine GL.pureG (s := 33) rfl rfl rfl (p_fieldAddr fo_27_4 rfl) ?_; refine GL.stepG rfl (s := 33) rfl rfl (t_mem rfl (m_load (i := 0) rfl rfl ag_25 rfl)) ?_; refine GL.stepG rfl (s := 33) rfl rfl (t_mem rfl (m_str (i := 3) rfl rfl Tryz.underlying25 Tryz.underlying5 Tryz.underlying9)) ?_
     refine GL.pureG (s := 33) rfl rfl rfl (p_seql rfl rfl) ?_; refine GL.pure rfl (p_pick_true rfl rfl) ?_; refine GL.as_ rfl rfl ?_; refine GL.nl_ ?_; refine GC.ret ?_
     refine fun a w h => Fin.back (rs := [.tmp 4]) (vs := [_]) (is := []) (js := []) rfl ⟨rfl, trivial⟩ rfl rfl ?_ h
     clear h
     refine ⟨congrArg Value.bool ?_, rfl, rfl⟩
     simp [op_ext, str_eq, *]
    ·try simp only [tst_, str_eq] at h4
     iterate 7 refine GL.pass (s := 33) rfl rfl rfl ?_
     refine GL.pure rfl (p_pick_false rfl rfl) ?_; refine GL.as_ rfl rfl ?_; refine GL.nl_ ?_; refine GC.ret ?_
     refine fun a w h => Fin.back (rs := [.tmp 4]) (vs := [_]) (is := []) (js := []) rfl ⟨rfl, trivial⟩ rfl rfl ?_ h
     clear h
     refine ⟨congrArg Value.bool ?_, rfl, rfl⟩
     simp [op_ext, str_eq, *]
   ·try simp only [tst_, str_eq] at h3
    iterate 7 refine GL.pass (s := 24) rfl rfl rfl ?_
    refine GL.pure rfl (p_pick_false rfl rfl) ?_; refine GL.mv_ rfl rfl ?_
    iterate 7 refine GL.pass (s := 33) rfl rfl rfl ?_
    refine GL.pure rfl (p_pick_false rfl rfl) ?_; refine GL.as_ rfl rfl ?_; refine GL.nl_ ?_; refine GC.ret ?_
    refine fun a w h => Fin.back (rs := [.tmp 4]) (vs := [_]) (is := []) (js := []) rfl ⟨rfl, trivial⟩ rfl rfl ?_ h
    clear h
    refine ⟨congrArg Value.bool ?_, rfl, rfl⟩
    simp [op_ext, str_eq, *]
  ·try simp only [tst_, str_eq] at h2
   iterate 5 refine GL.pass (s := 17) rfl rfl rfl ?_
   refine GL.pure rfl (p_pick_false rfl rfl) ?_; refine GL.mv_ rfl rfl ?_
   iterate 7 refine GL.pass (s := 24) rfl rfl rfl ?_
   refine GL.pure rfl (p_pick_false rfl rfl) ?_; refine GL.mv_ rfl rfl ?_
   iterate 7 refine GL.pass (s := 33) rfl rfl rfl ?_
   refine GL.pure rfl (p_pick_false rfl rfl) ?_; refine GL.as_ rfl rfl ?_; refine GL.nl_ ?_; refine GC.ret ?_
   refine fun a w h => Fin.back (rs := [.tmp 4]) (vs := [_]) (is := []) (js := []) rfl ⟨rfl, trivial⟩ rfl rfl ?_ h
   clear h
   refine ⟨congrArg Value.bool ?_, rfl, rfl⟩
   simp [op_ext, str_eq, *]
 ·try simp only [tst_, str_eq] at h1
  iterate 5 refine GL.pass (s := 10) rfl rfl rfl ?_
  refine GL.pure rfl (p_pick_false rfl rfl) ?_; refine GL.mv_ rfl rfl ?_
  iterate 5 refine GL.pass (s := 17) rfl rfl rfl ?_
  refine GL.pure rfl (p_pick_false rfl rfl) ?_; refine GL.mv_ rfl rfl ?_
  iterate 7 refine GL.pass (s := 24) rfl rfl rfl ?_
  refine GL.pure rfl (p_pick_false rfl rfl) ?_; refine GL.mv_ rfl rfl ?_
  iterate 7 refine GL.pass (s := 33) rfl rfl rfl ?_
  refine GL.pure rfl (p_pick_false rfl rfl) ?_; refine GL.as_ rfl rfl ?_; refine GL.nl_ ?_; refine GC.ret ?_
  refine fun a w h => Fin.back (rs := [.tmp 4]) (vs := [_]) (is := []) (js := []) rfl ⟨rfl, trivial⟩ rfl rfl ?_ h
  clear h
  refine ⟨congrArg Value.bool ?_, rfl, rfl⟩
  simp [op_ext, str_eq, *]
theorem bzero_ct (o : OpD) (A : Option Addr) (cp : Nat) (B : Option Addr) (cq : Nat) : Ct Tryz.prog 37 [opD o A cp B cq, .agg #[.int .u8 0, .int .i64 0, .int .i64 0, .slice none 0 0, .slice none 0 0]] [] [Pers.row Kd.u8 A o.data, Pers.row Kd.u8 B o.old] (fun u G Q => u = .bool (decide (o = zop)) ∧ G = [] ∧ Q = []) :=
  Ct.qperm (bsame_ct o zop A cp B cq none 0 none 0) (by intro q hq; simp only [List.mem_cons, List.not_mem_nil, or_false] at hq ⊢; rcases hq with rfl | rfl | rfl | rfl <;> first | exact .inr nil8 | simp)
theorem rbzero_ct (o : OpD) (A : Option Addr) (cp : Nat) (B : Option Addr) (cq : Nat) : Ct Tryz.prog 27 [opD o A cp B cq, .agg #[.int .u8 0, .int .i64 0, .int .i64 0, .slice none 0 0, .slice none 0 0]] [] [Pers.row Kd.u8 A o.data, Pers.row Kd.u8 B o.old] (fun u G Q => u = .bool (decide (o = zop)) ∧ G = [] ∧ Q = []) :=
  Ct.qperm (rbsame_ct o zop A cp B cq none 0 none 0) (by intro q hq; simp only [List.mem_cons, List.not_mem_nil, or_false] at hq ⊢; rcases hq with rfl | rfl | rfl | rfl <;> first | exact .inr nil8 | simp)
theorem msgr_ct (g h : Grp) (A : Option Addr) (cp : Nat) (B : Option Addr) (cq : Nat) (hl : g.members.length ≤ 140737488355328) : Ct Tryz.prog 72 [grpV g.epoch A g.members.length cp, grpV h.epoch B h.members.length cq] [] [Pers.row kI A g.members, Pers.row kI B h.members] (fun u G Q => u = .bool (decide (g = h)) ∧ G = [] ∧ Q = []) := by
 refine Ct.intro Tryz.func72 rfl rfl rfl (fun c hc => ?_)
 refine GC.sr_ ?_; refine GL.step rfl (t_box rfl rfl rfl) (GL.ex fun b_t2 => ?_); refine GL.step rfl (t_box rfl rfl rfl) (GL.ex fun b_t3 => ?_); refine GL.as_ rfl rfl ?_; refine GL.nl_ ?_; refine GC.sr_ ?_; refine GL.pure rfl (p_fieldAddr fo_33_0 rfl) ?_
 refine GL.step rfl (t_mem rfl (m_load (i := 1) rfl rfl ag_3 rfl)) ?_; refine GL.pure rfl (p_fieldAddr fo_33_0 rfl) ?_; refine GL.step rfl (t_mem rfl (m_load (i := 0) rfl rfl ag_3 rfl)) ?_; refine GL.pure rfl (p_eql rfl rfl) ?_
 refine GL.mv_ rfl rfl ?_; refine GL.split (i := 10) rfl (fun h1 => ?_) (fun h1 => ?_)
 ·try simp only [tst_] at h1
  refine GL.pureG (s := 10) rfl rfl rfl (p_fieldAddr fo_33_1 rfl) ?_; refine GL.stepG rfl (s := 10) rfl rfl (t_mem rfl (m_load (i := 1) rfl rfl ag_31 rfl)) ?_; refine GL.pureG (s := 10) rfl rfl rfl (p_fieldAddr fo_33_1 rfl) ?_
  refine GL.stepG rfl (s := 10) rfl rfl (t_mem rfl (m_load (i := 0) rfl rfl ag_31 rfl)) ?_; refine GL.stepG rfl (s := 10) rfl rfl (t_call rfl fn_36 rfl (is := []) (js := [0, 1]) rfl rfl (by exact equal_i _ _ _ _ _ _ (by first | assumption | omega))) (GL.ret ?_)
  rintro _ _ _ ⟨rfl, rfl, rfl⟩
  refine GL.pure rfl (p_pick_true rfl rfl) ?_; refine GL.as_ rfl rfl ?_; refine GL.nl_ ?_; refine GC.ret ?_
  refine fun a w h => Fin.back (rs := [.tmp 4]) (vs := [_]) (is := []) (js := []) rfl ⟨rfl, trivial⟩ rfl rfl ?_ h
  clear h
  refine ⟨congrArg Value.bool ?_, rfl, rfl⟩
  simp [gr_ext, *]
 ·try simp only [tst_] at h1
  iterate 5 refine GL.pass (s := 10) rfl rfl rfl ?_
  refine GL.pure rfl (p_pick_false rfl rfl) ?_; refine GL.as_ rfl rfl ?_; refine GL.nl_ ?_; refine GC.ret ?_
  refine fun a w h => Fin.back (rs := [.tmp 4]) (vs := [_]) (is := []) (js := []) rfl ⟨rfl, trivial⟩ rfl rfl ?_ h
  clear h
  refine ⟨congrArg Value.bool ?_, rfl, rfl⟩
  simp [gr_ext, *]
theorem rgsg_ct (g h : Grp) (A : Option Addr) (cp : Nat) (B : Option Addr) (cq : Nat) (hl : g.members.length ≤ 140737488355328) : Ct Tryz.prog 42 [grpV g.epoch A g.members.length cp, grpV h.epoch B h.members.length cq] [] [Pers.row kI A g.members, Pers.row kI B h.members] (fun u G Q => u = .bool (decide (g = h)) ∧ G = [] ∧ Q = []) := by
  have := rgsame_ct g.epoch A g.members cp h.epoch B h.members cq hl
  rw [sameG_iff] at this
  exact this
theorem pgc_ct (r s : Page) (A : Option Addr) (cp : Nat) (B : Option Addr) (cq : Nat) : Ct Tryz.prog 70 [pageV r A cp, pageV s B cq] [] [Pers.row Kd.u8 A r.data, Pers.row Kd.u8 B s.data] (fun u G Q => u = .bool (decide (r = s)) ∧ G = [] ∧ Q = []) := by
 refine Ct.intro Tryz.func70 rfl rfl rfl (fun c hc => ?_)
 refine GC.sr_ ?_; refine GL.step rfl (t_box rfl rfl rfl) (GL.ex fun b_t2 => ?_); refine GL.step rfl (t_box rfl rfl rfl) (GL.ex fun b_t3 => ?_); refine GL.as_ rfl rfl ?_; refine GL.nl_ ?_; refine GC.sr_ ?_; refine GL.pure rfl (p_fieldAddr fo_59_0 rfl) ?_
 refine GL.step rfl (t_mem rfl (m_load (i := 1) rfl rfl ag_3 rfl)) ?_; refine GL.pure rfl (p_fieldAddr fo_59_0 rfl) ?_; refine GL.step rfl (t_mem rfl (m_load (i := 0) rfl rfl ag_3 rfl)) ?_; refine GL.pure rfl (p_eql rfl rfl) ?_
 refine GL.mv_ rfl rfl ?_; refine GL.split (i := 10) rfl (fun h1 => ?_) (fun h1 => ?_)
 ·try simp only [tst_] at h1
  refine GL.pureG (s := 10) rfl rfl rfl (p_fieldAddr fo_59_1 rfl) ?_; refine GL.stepG rfl (s := 10) rfl rfl (t_mem rfl (m_load (i := 1) rfl rfl ag_3 rfl)) ?_; refine GL.pureG (s := 10) rfl rfl rfl (p_fieldAddr fo_59_1 rfl) ?_
  refine GL.stepG rfl (s := 10) rfl rfl (t_mem rfl (m_load (i := 0) rfl rfl ag_3 rfl)) ?_; refine GL.pureG (s := 10) rfl rfl rfl (p_eql rfl rfl) ?_; refine GL.pure rfl (p_pick_true rfl rfl) ?_; refine GL.mv_ rfl rfl ?_; refine GL.split (i := 17) rfl (fun h2 => ?_) (fun h2 => ?_)
  ·try simp only [tst_] at h2
   refine GL.pureG (s := 17) rfl rfl rfl (p_fieldAddr fo_59_2 rfl) ?_; refine GL.stepG rfl (s := 17) rfl rfl (t_mem rfl (m_load (i := 1) rfl rfl ag_25 rfl)) ?_; refine GL.pureG (s := 17) rfl rfl rfl (p_fieldAddr fo_59_2 rfl) ?_
   refine GL.stepG rfl (s := 17) rfl rfl (t_mem rfl (m_load (i := 0) rfl rfl ag_25 rfl)) ?_; refine GL.stepG rfl (s := 17) rfl rfl (t_call rfl fn_35 rfl (is := []) (js := [0, 1]) rfl rfl (by exact equal_ct _ _ _ _ _ _)) (GL.ret ?_)
   rintro _ _ _ ⟨rfl, rfl, rfl⟩
   refine GL.pure rfl (p_pick_true rfl rfl) ?_; refine GL.as_ rfl rfl ?_; refine GL.nl_ ?_; refine GC.ret ?_
   refine fun a w h => Fin.back (rs := [.tmp 4]) (vs := [_]) (is := []) (js := []) rfl ⟨rfl, trivial⟩ rfl rfl ?_ h
   clear h
   refine ⟨congrArg Value.bool ?_, rfl, rfl⟩
   simp [pg_ext, *]
  ·try simp only [tst_] at h2
   iterate 5 refine GL.pass (s := 17) rfl rfl rfl ?_
   refine GL.pure rfl (p_pick_false rfl rfl) ?_; refine GL.as_ rfl rfl ?_; refine GL.nl_ ?_; refine GC.ret ?_
   refine fun a w h => Fin.back (rs := [.tmp 4]) (vs := [_]) (is := []) (js := []) rfl ⟨rfl, trivial⟩ rfl rfl ?_ h
   clear h
   refine ⟨congrArg Value.bool ?_, rfl, rfl⟩
   simp [pg_ext, *]
 ·try simp only [tst_] at h1
  iterate 5 refine GL.pass (s := 10) rfl rfl rfl ?_
  refine GL.pure rfl (p_pick_false rfl rfl) ?_; refine GL.mv_ rfl rfl ?_
  iterate 5 refine GL.pass (s := 17) rfl rfl rfl ?_
  refine GL.pure rfl (p_pick_false rfl rfl) ?_; refine GL.as_ rfl rfl ?_; refine GL.nl_ ?_; refine GC.ret ?_
  refine fun a w h => Fin.back (rs := [.tmp 4]) (vs := [_]) (is := []) (js := []) rfl ⟨rfl, trivial⟩ rfl rfl ?_ h
  clear h
  refine ⟨congrArg Value.bool ?_, rfl, rfl⟩
  simp [pg_ext, *]
theorem eqpg_ct (A : Option Addr) (a_ : List Page) (cp : Nat) (B : Option Addr) (b_ : List Page) (cq : Nat) (hl : a_.length ≤ 140737488355328) : Ct Tryz.prog 69 [.slice A a_.length cp, .slice B b_.length cq, .func (.func 70) #[] #[]] [] [Pers.row kPage A a_, Pers.row kPage B b_] (fun u G Q => u = .bool (decide (a_ = b_)) ∧ G = [] ∧ Q = []) := by
 refine Ct.intro Tryz.func69 rfl rfl rfl (fun c hc => ?_)
 refine GC.sr_ ?_; refine GL.as_ rfl rfl ?_; refine GL.nl_ ?_; refine GC.seq' ?_; refine GC.sr_ ?_; refine GL.mv_ rfl rfl ?_; refine GL.pure rfl (p_len Tryz.underlying36 rfl) ?_; refine GL.mv_ rfl rfl ?_; refine GL.pure rfl (p_len Tryz.underlying36 rfl) ?_
 refine GL.pure rfl (p_neq rfl rfl) ?_; refine GL.nl_ ?_; refine GC.cond rfl (fun h1 => ?_) (fun h1 => ?_)
 ·try simp only [tst_] at h1
  first
  | (exfalso; omega)
  |(skip
    refine GC.sr_ ?_; refine GL.as_ rfl rfl ?_; refine GL.nl_ ?_; refine GC.ret ?_
    refine fun a w h => Fin.back (rs := [.tmp 6]) (vs := [_]) (is := []) (js := []) rfl ⟨rfl, trivial⟩ rfl rfl ?_ h
    clear h
    exact ⟨congrArg Value.bool (decide_eq_false fun e => by subst e; omega).symm, rfl, rfl⟩)
 ·try simp only [tst_] at h1
  first
  | (exfalso; omega)
  |(skip
    refine GC.skip (?_ : GC _ _ _ _)
    refine GC.seq' ?_; refine GC.sr_ ?_; refine GL.mv_ rfl rfl ?_; refine GL.pure rfl (p_len Tryz.underlying36 rfl) ?_; refine GL.mv_ rfl rfl ?_; refine GL.nl_ ?_; refine GC.block ?_; refine GC.loopK1 (ks := [1, 2, 15, 16]) (is := []) (js := [0, 1]) (fun (k : Nat) => k ≤ a_.length ∧ ∀ j : Nat, j < k → gt a_ (j : Int) = gt b_ (j : Int)) (fun (k : Nat) => [(17, .int .i64 (k : Int))]) (fun (k : Nat) => []) (fun (k : Nat) => []) (fun (k : Nat) => a_.length - k) (0) rfl rfl rfl (fun a w h => ⟨⟨by omega, fun j hj => by omega⟩, h.cutK (is := []) (js := [0, 1]) (ks := [1, 2, 15, 16]) ⟨rfl, trivial⟩ rfl rfl rfl⟩) ?_
    intro k hk
    try dsimp only [List.cons_append, List.nil_append] at hk ⊢
    obtain ⟨hk, he⟩ := hk
    refine GC.sr_ ?_; refine GL.pure rfl (p_lss rfl rfl) ?_; refine GL.nl_ ?_; refine GC.seq' ?_; refine GC.cond rfl (fun h2 => ?_) (fun h2 => ?_)
    ·try simp only [tst_] at h2
     first
     | (exfalso; omega)
     |(skip
       refine GC.skip (?_ : GC _ _ _ _)
       refine GC.seq' ?_; refine GC.block ?_; refine GC.sr_ ?_; refine GL.mv_ rfl rfl ?_; refine GL.step rfl (t_index (i := 0) rfl rfl rfl rfl Tryz.underlying36 sz_59 (by omega) (gt_ok (by omega) (by omega))) (GL.ex fun p_x20 => GL.ex fun r_x20 => GL.and fun ok_x20 => ?_)
       rcases r_x20 with ⟨_, ⟨_, ⟨Ax20_0, cpx20_0⟩⟩⟩
       refine GL.step rfl (t_mem rfl (m_loadPN (i := 0) rfl rfl ag_59 (vs := [_, _, _]) sz_59 ⟨rfl, rfl, rfl, trivial⟩)) ?_; refine GL.step rfl (t_alloc rfl ze_59) (GL.ex fun b_t8 => ?_); refine GL.as_ rfl rfl ?_; refine GL.step rfl (t_storeN (i := 0) rfl rfl rfl sz_59 rfl rfl rfl) ?_
       refine GL.nl_ ?_; refine GC.sr_ ?_
       iterate 2 refine GL.mv_ rfl rfl ?_
       refine GL.step rfl (t_index (i := 3) rfl rfl rfl rfl Tryz.underlying36 sz_59 (by omega) (gt_ok (by omega) (by omega))) (GL.ex fun p_x24 => GL.ex fun r_x24 => GL.and fun ok_x24 => ?_)
       rcases r_x24 with ⟨_, ⟨_, ⟨Ax24_0, cpx24_0⟩⟩⟩
       refine GL.step rfl (t_mem rfl (m_loadPN (i := 0) rfl rfl ag_59 (vs := [_, _, _]) sz_59 ⟨rfl, rfl, rfl, trivial⟩)) ?_; refine GL.step rfl (t_alloc rfl ze_59) (GL.ex fun b_t9 => ?_); refine GL.step rfl (t_storeN (i := 0) rfl rfl rfl sz_59 rfl rfl rfl) ?_
       refine GL.nl_ ?_; refine GC.sr_ ?_; refine GL.mv_ rfl rfl ?_; refine GL.step rfl (t_mem rfl (m_loadN (i := 1) rfl rfl ag_59 (vs := [_, _, _]) sz_59 ⟨rfl, rfl, rfl, trivial⟩)) ?_; refine GL.step rfl (t_mem rfl (m_loadN (i := 0) rfl rfl ag_59 (vs := [_, _, _]) sz_59 ⟨rfl, rfl, rfl, trivial⟩)) ?_
       refine GL.step rfl (t_callv rfl fn_70 rfl rfl (is := []) (js := [3, 1]) rfl rfl (by exact pgc_ct _ _ _ _ _ _)) (GL.ret ?_)
       rintro _ _ _ ⟨rfl, rfl, rfl⟩
       refine GL.pure rfl (p_not rfl) ?_; refine GL.nl_ ?_; refine GC.cond rfl (fun h3 => ?_) (fun h3 => ?_)
       ·try simp only [tst_] at h3
        first
        | (exfalso; omega)
        |(skip
          refine GC.sr_ ?_; refine GL.as_ rfl rfl ?_; refine GL.nl_ ?_; refine GC.ret ?_
          refine fun a w h => Fin.back (rs := [.tmp 6]) (vs := [_]) (is := []) (js := []) rfl ⟨rfl, trivial⟩ rfl rfl ?_ h
          clear h
          exact ⟨congrArg Value.bool (decide_eq_false (gt_ne (k := (k : Int)) (by assumption))).symm, rfl, rfl⟩)
       ·try simp only [tst_] at h3
        first
        | (exfalso; omega)
        |(skip
          refine GC.skip (?_ : GC _ _ _ _)
          refine GC.region ?_; refine GL.pure rfl (p_add rfl rfl (w64 (by omega) (by omega))) ?_; refine GL.mv_ rfl rfl ?_; refine GL.nil ?_
          exact fun a w h => ⟨(k + 1), (by omega), ⟨by omega, fun j hj => (Nat.lt_succ_iff_lt_or_eq.1 hj).elim (he j) (fun e => by subst e; assumption)⟩, h.cut (is := []) (js := [4, 5]) ⟨rfl, rfl, rfl, rfl, rfl, trivial⟩ rfl rfl⟩))
    ·try simp only [tst_] at h2
     first
     | (exfalso; omega)
     |(skip
       refine GC.exit (?_ : GC _ _ _ _)
       refine GC.sr_ ?_; refine GL.as_ rfl rfl ?_; refine GL.nl_ ?_; refine GC.ret ?_
       refine fun a w h => Fin.back (rs := [.tmp 6]) (vs := [_]) (is := []) (js := []) rfl ⟨rfl, trivial⟩ rfl rfl ?_ h
       clear h
       exact ⟨congrArg Value.bool (decide_eq_true (list_ext_gt (by omega) fun j hj => he j (by omega))).symm, rfl, rfl⟩))
theorem rpgs_ct (A : Option Addr) (a_ : List Page) (cp : Nat) (B : Option Addr) (b_ : List Page) (cq : Nat) (hl : a_.length ≤ 140737488355328) : Ct Tryz.prog 73 [.slice A a_.length cp, .slice B b_.length cq] [] [Pers.row kPage A a_, Pers.row kPage B b_] (fun u G Q => u = .bool (decide (a_ = b_)) ∧ G = [] ∧ Q = []) := by
 refine Ct.intro Tryz.func73 rfl rfl rfl (fun c hc => ?_)
 refine GC.sr_ ?_; refine GL.as_ rfl rfl ?_; refine GL.nl_ ?_; refine GC.seq' ?_; refine GC.sr_ ?_; refine GL.mv_ rfl rfl ?_; refine GL.pure rfl (p_len Tryz.underlying36 rfl) ?_; refine GL.mv_ rfl rfl ?_; refine GL.pure rfl (p_len Tryz.underlying36 rfl) ?_
 refine GL.pure rfl (p_neq rfl rfl) ?_; refine GL.nl_ ?_; refine GC.cond rfl (fun h1 => ?_) (fun h1 => ?_)
 ·try simp only [tst_, str_eq] at h1
  first
  | (exfalso; omega)
  |(skip
    refine GC.sr_ ?_; refine GL.as_ rfl rfl ?_; refine GL.nl_ ?_; refine GC.ret ?_
    refine fun a w h => Fin.back (rs := [.tmp 4]) (vs := [_]) (is := []) (js := []) rfl ⟨rfl, trivial⟩ rfl rfl ?_ h
    clear h
    exact ⟨congrArg Value.bool (decide_eq_false fun e => by subst e; omega).symm, rfl, rfl⟩)
 ·try simp only [tst_, str_eq] at h1
  first
  | (exfalso; omega)
  |(skip
    refine GC.skip (?_ : GC _ _ _ _)
    refine GC.seq' ?_; refine GC.sr_ ?_; refine GL.as_ rfl rfl ?_; refine GL.nl_ ?_; refine GC.block ?_; refine GC.loopK1 (ks := [0, 1]) (is := []) (js := [0, 1]) (fun (k : Nat) => k ≤ a_.length ∧ ∀ j : Nat, j < k → gt a_ (j : Int) = gt b_ (j : Int)) (fun (k : Nat) => [(5, .int .i64 (k : Int))]) (fun (k : Nat) => []) (fun (k : Nat) => []) (fun (k : Nat) => a_.length - k) (0) rfl rfl rfl (fun a w h => ⟨⟨by omega, fun j hj => by omega⟩, h.cutK (is := []) (js := [0, 1]) (ks := [0, 1]) ⟨rfl, trivial⟩ rfl rfl rfl⟩) ?_
    intro k hk
    try dsimp only [List.cons_append, List.nil_append] at hk ⊢
    obtain ⟨hk, he⟩ := hk
    refine GC.seq' ?_; refine GC.sr_ ?_
    iterate 2 refine GL.mv_ rfl rfl ?_
    refine GL.pure rfl (p_len Tryz.underlying36 rfl) ?_; refine GL.pure rfl (p_lss rfl rfl) ?_; refine GL.nl_ ?_; refine GC.cond rfl (fun h2 => ?_) (fun h2 => ?_)
    ·try simp only [tst_, str_eq] at h2
     first
     | (exfalso; omega)
     |(skip
       refine GC.skip (?_ : GC _ _ _ _)
       refine GC.seq' ?_; refine GC.block ?_; refine GC.seq' ?_; refine GC.layQ (y := .tmp 5) (j := 0) rfl rfl (by omega) (gt_ok (by omega) (by omega)) (fun p_x19 r_x19 hA_x19 ok_x19 => ?_)
       rcases r_x19 with ⟨_, ⟨_, ⟨Ax19_0, cpx19_0⟩⟩⟩
       refine GC.layQ (y := .tmp 5) (j := 3) rfl rfl (by omega) (gt_ok (by omega) (by omega)) (fun p_x24 r_x24 hA_x24 ok_x24 => ?_)
       rcases r_x24 with ⟨_, ⟨_, ⟨Ax24_0, cpx24_0⟩⟩⟩
       refine GC.layQ (y := .tmp 5) (j := 4) rfl rfl (by omega) (gt_ok (by omega) (by omega)) (fun p_x31 r_x31 hA_x31 ok_x31 => ?_)
       rcases r_x31 with ⟨_, ⟨_, ⟨Ax31_0, cpx31_0⟩⟩⟩
       refine GC.layQ (y := .tmp 5) (j := 7) rfl rfl (by omega) (gt_ok (by omega) (by omega)) (fun p_x36 r_x36 hA_x36 ok_x36 => ?_)
       rcases r_x36 with ⟨_, ⟨_, ⟨Ax36_0, cpx36_0⟩⟩⟩
       refine GC.layQ (y := .tmp 5) (j := 8) rfl rfl (by omega) (gt_ok (by omega) (by omega)) (fun p_x44 r_x44 hA_x44 ok_x44 => ?_)
       rcases r_x44 with ⟨_, ⟨_, ⟨Ax44_0, cpx44_0⟩⟩⟩
       refine GC.layQ (y := .tmp 5) (j := 11) rfl rfl (by omega) (gt_ok (by omega) (by omega)) (fun p_x50 r_x50 hA_x50 ok_x50 => ?_)
       rcases r_x50 with ⟨_, ⟨_, ⟨Ax50_0, cpx50_0⟩⟩⟩
       refine GC.regionQ wide_ (by kernel_rfl) ?_
       iterate 2 refine GQ.step rfl (q_pure (p_move rfl)) ?_
       refine GQ.step rfl (q_pure (p_indexL hA_x19 rfl rfl Tryz.underlying36 sz_59 (by omega) (by omega))) ?_; refine GQ.step rfl (q_pure (p_fieldAddr' fo_59_0 rfl)) ?_; refine GQ.step rfl (q_mem (m_loadP (i := 10) rfl rfl ag_3 rfl)) ?_
       iterate 2 refine GQ.step rfl (q_pure (p_move rfl)) ?_
       refine GQ.step rfl (q_pure (p_indexL hA_x24 rfl rfl Tryz.underlying36 sz_59 (by omega) (by omega))) ?_; refine GQ.step rfl (q_pure (p_fieldAddr' fo_59_0 rfl)) ?_; refine GQ.step rfl (q_mem (m_loadP (i := 8) rfl rfl ag_3 rfl)) ?_
       refine GQ.step rfl (q_pure (p_neq rfl rfl)) ?_; refine GQ.step rfl (q_pure (p_move rfl)) ?_; refine GQ.split (i := 28) rfl (fun h3 => ?_) (fun h3 => ?_)
       ·try simp only [tst_, str_eq] at h3
        first
        | (exfalso; omega)
        |(skip
          iterate 11 refine GQ.pass (s := 28) rfl rfl rfl ?_
          refine GQ.step rfl (q_pure (p_pick_true rfl rfl)) ?_; refine GQ.step rfl (q_pure (p_move rfl)) ?_
          iterate 13 refine GQ.pass (s := 41) rfl rfl rfl ?_
          refine GQ.step rfl (q_pure (p_pick_true rfl rfl)) ?_
          refine GQ.nil (?_ : GC _ _ _ _)
          refine GC.cond_true rfl ?_; refine GC.sr_ ?_; refine GL.as_ rfl rfl ?_; refine GL.nl_ ?_; refine GC.ret ?_
          refine fun a w h => Fin.back (rs := [.tmp 4]) (vs := [_]) (is := []) (js := []) rfl ⟨rfl, trivial⟩ rfl rfl ?_ h
          clear h
          exact ⟨congrArg Value.bool (decide_eq_false (gt_ne (k := (k : Int)) fun e => by simp_all)).symm, rfl, rfl⟩)
       ·try simp only [tst_, str_eq] at h3
        first
        | (exfalso; omega)
        |(skip
          iterate 2 refine GQ.stepG (s := 28) rfl rfl rfl (q_pure (p_move rfl)) ?_
          refine GQ.stepG (s := 28) rfl rfl rfl (q_pure (p_indexL hA_x31 rfl rfl Tryz.underlying36 sz_59 (by omega) (by omega))) ?_; refine GQ.stepG (s := 28) rfl rfl rfl (q_pure (p_fieldAddr' fo_59_1 rfl)) ?_; refine GQ.stepG (s := 28) rfl rfl rfl (q_mem (m_loadP (i := 6) rfl rfl ag_3 rfl)) ?_
          iterate 2 refine GQ.stepG (s := 28) rfl rfl rfl (q_pure (p_move rfl)) ?_
          refine GQ.stepG (s := 28) rfl rfl rfl (q_pure (p_indexL hA_x36 rfl rfl Tryz.underlying36 sz_59 (by omega) (by omega))) ?_; refine GQ.stepG (s := 28) rfl rfl rfl (q_pure (p_fieldAddr' fo_59_1 rfl)) ?_; refine GQ.stepG (s := 28) rfl rfl rfl (q_mem (m_loadP (i := 4) rfl rfl ag_3 rfl)) ?_
          refine GQ.stepG (s := 28) rfl rfl rfl (q_pure (p_neq rfl rfl)) ?_; refine GQ.step rfl (q_pure (p_pick_false rfl rfl)) ?_; refine GQ.step rfl (q_pure (p_move rfl)) ?_; refine GQ.split (i := 41) rfl (fun h4 => ?_) (fun h4 => ?_)
          ·try simp only [tst_, str_eq] at h4
           first
           | (exfalso; omega)
           |(skip
             iterate 13 refine GQ.pass (s := 41) rfl rfl rfl ?_
             refine GQ.step rfl (q_pure (p_pick_true rfl rfl)) ?_
             refine GQ.nil (?_ : GC _ _ _ _)
             refine GC.cond_true rfl ?_; refine GC.sr_ ?_; refine GL.as_ rfl rfl ?_; refine GL.nl_ ?_; refine GC.ret ?_
             refine fun a w h => Fin.back (rs := [.tmp 4]) (vs := [_]) (is := []) (js := []) rfl ⟨rfl, trivial⟩ rfl rfl ?_ h
             clear h
             exact ⟨congrArg Value.bool (decide_eq_false (gt_ne (k := (k : Int)) fun e => by simp_all)).symm, rfl, rfl⟩)
          ·try simp only [tst_, str_eq] at h4
           first
           | (exfalso; omega)
           |(skip
             iterate 2 refine GQ.stepG (s := 41) rfl rfl rfl (q_pure (p_move rfl)) ?_
             refine GQ.stepG (s := 41) rfl rfl rfl (q_pure (p_indexL hA_x44 rfl rfl Tryz.underlying36 sz_59 (by omega) (by omega))) ?_; refine GQ.stepG (s := 41) rfl rfl rfl (q_pure (p_fieldAddr' fo_59_2 rfl)) ?_; refine GQ.stepG (s := 41) rfl rfl rfl (q_mem (m_loadP (i := 2) rfl rfl ag_25 rfl)) ?_
             refine GQ.stepG (s := 41) rfl rfl rfl (q_mem (m_str (i := 3) rfl rfl Tryz.underlying25 Tryz.underlying5 Tryz.underlying9)) ?_
             iterate 2 refine GQ.stepG (s := 41) rfl rfl rfl (q_pure (p_move rfl)) ?_
             refine GQ.stepG (s := 41) rfl rfl rfl (q_pure (p_indexL hA_x50 rfl rfl Tryz.underlying36 sz_59 (by omega) (by omega))) ?_; refine GQ.stepG (s := 41) rfl rfl rfl (q_pure (p_fieldAddr' fo_59_2 rfl)) ?_; refine GQ.stepG (s := 41) rfl rfl rfl (q_mem (m_loadP (i := 0) rfl rfl ag_25 rfl)) ?_
             refine GQ.stepG (s := 41) rfl rfl rfl (q_mem (m_str (i := 1) rfl rfl Tryz.underlying25 Tryz.underlying5 Tryz.underlying9)) ?_; refine GQ.stepG (s := 41) rfl rfl rfl (q_pure (p_sneq rfl rfl)) ?_; refine GQ.step rfl (q_pure (p_pick_false rfl rfl)) ?_
             refine GQ.nil (?_ : GC _ _ _ _)
             refine GC.cond rfl (fun h5 => ?_) (fun h5 => ?_)
             ·try simp only [tst_, str_eq] at h5
              first
              | (exfalso; omega)
              |(skip
                refine GC.sr_ ?_; refine GL.as_ rfl rfl ?_; refine GL.nl_ ?_; refine GC.ret ?_
                refine fun a w h => Fin.back (rs := [.tmp 4]) (vs := [_]) (is := []) (js := []) rfl ⟨rfl, trivial⟩ rfl rfl ?_ h
                clear h
                exact ⟨congrArg Value.bool (decide_eq_false (gt_ne (k := (k : Int)) fun e => by simp_all)).symm, rfl, rfl⟩)
             ·try simp only [tst_, str_eq] at h5
              first
              | (exfalso; omega)
              |(skip
                refine GC.skip (?_ : GC _ _ _ _)
                refine GC.region ?_; refine GL.mv_ rfl rfl ?_; refine GL.pure rfl (p_add rfl rfl (w64 (by omega) (by omega))) ?_; refine GL.as_ rfl rfl ?_; refine GL.nil ?_
                exact fun a w h => ⟨(k + 1), (by omega), ⟨by omega, fun j hj => (Nat.lt_succ_iff_lt_or_eq.1 hj).elim (he j) (fun e => by subst e; exact (pg_ext _ _).2 ⟨by assumption, by assumption, by assumption⟩)⟩, h.cut (is := []) (js := [12, 13]) ⟨rfl, rfl, rfl, trivial⟩ rfl rfl⟩))))
    ·try simp only [tst_, str_eq] at h2
     first
     | (exfalso; omega)
     |(skip
       refine GC.exit (?_ : GC _ _ _ _)
       refine GC.sr_ ?_; refine GL.as_ rfl rfl ?_; refine GL.nl_ ?_; refine GC.ret ?_
       refine fun a w h => Fin.back (rs := [.tmp 4]) (vs := [_]) (is := []) (js := []) rfl ⟨rfl, trivial⟩ rfl rfl ?_ h
       clear h
       exact ⟨congrArg Value.bool (decide_eq_true (list_ext_gt (by omega) fun j hj => he j (by omega))).symm, rfl, rfl⟩))
end Go.Proofs.YtdhdmbmknpjhbaaGreat
namespace Go.Proofs.YtdhdmbmknpjhbaaGreat
open Go Go.Sx Go.Proofs
theorem msen_ct (e f : Entry) (A : Option Addr) (cp : Nat) (B : Option Addr) (cq : Nat) (C : Option Addr) (cr : Nat) (A' : Option Addr) (cp' : Nat) (B' : Option Addr) (cq' : Nat) (C' : Option Addr) (cr' : Nat) (hl : e.grp.members.length ≤ 140737488355328) : Ct Tryz.prog 40 [entV e A cp B cq C cr, entV f A' cp' B' cq' C' cr'] [] (entQ e A B C ++ entQ f A' B' C') (fun u G Q => u = .bool (decide (e = f)) ∧ G = [] ∧ Q = []) := by
 refine Ct.intro Tryz.func40 rfl rfl rfl (fun c hc => ?_)
 refine GC.sr_ ?_; refine GL.step rfl (t_box rfl rfl rfl) (GL.ex fun b_t2 => ?_); refine GL.step rfl (t_box rfl rfl rfl) (GL.ex fun b_t3 => ?_); refine GL.as_ rfl rfl ?_; refine GL.nl_ ?_; refine GC.sr_ ?_; refine GL.pure rfl (p_fieldAddr fo_64_0 rfl) ?_
 refine GL.step rfl (t_mem rfl (m_load (i := 1) rfl rfl ag_62 rfl)) ?_; refine GL.pure rfl (p_fieldAddr fo_64_0 rfl) ?_; refine GL.step rfl (t_mem rfl (m_load (i := 0) rfl rfl ag_62 rfl)) ?_; refine GL.pure rfl (p_eql rfl rfl) ?_
 refine GL.mv_ rfl rfl ?_; refine GL.split (i := 10) rfl (fun h1 => ?_) (fun h1 => ?_)
 ·try simp only [tst_] at h1
  refine GL.pureG (s := 10) rfl rfl rfl (p_fieldAddr fo_64_1 rfl) ?_; refine GL.stepG rfl (s := 10) rfl rfl (t_mem rfl (m_load (i := 1) rfl rfl ag_3 rfl)) ?_; refine GL.pureG (s := 10) rfl rfl rfl (p_fieldAddr fo_64_1 rfl) ?_
  refine GL.stepG rfl (s := 10) rfl rfl (t_mem rfl (m_load (i := 0) rfl rfl ag_3 rfl)) ?_; refine GL.pureG (s := 10) rfl rfl rfl (p_eql rfl rfl) ?_; refine GL.pure rfl (p_pick_true rfl rfl) ?_; refine GL.mv_ rfl rfl ?_; refine GL.split (i := 17) rfl (fun h2 => ?_) (fun h2 => ?_)
  ·try simp only [tst_] at h2
   refine GL.pureG (s := 17) rfl rfl rfl (p_fieldAddr fo_64_2 rfl) ?_; refine GL.stepG rfl (s := 17) rfl rfl (t_mem rfl (m_load (i := 1) rfl rfl ag_3 rfl)) ?_; refine GL.pureG (s := 17) rfl rfl rfl (p_fieldAddr fo_64_2 rfl) ?_
   refine GL.stepG rfl (s := 17) rfl rfl (t_mem rfl (m_load (i := 0) rfl rfl ag_3 rfl)) ?_; refine GL.pureG (s := 17) rfl rfl rfl (p_eql rfl rfl) ?_; refine GL.pure rfl (p_pick_true rfl rfl) ?_; refine GL.mv_ rfl rfl ?_; refine GL.split (i := 24) rfl (fun h3 => ?_) (fun h3 => ?_)
   ·try simp only [tst_] at h3
    refine GL.pureG (s := 24) rfl rfl rfl (p_fieldAddr fo_64_3 rfl) ?_; refine GL.stepG rfl (s := 24) rfl rfl (t_mem rfl (m_load (i := 1) rfl rfl ag_3 rfl)) ?_; refine GL.pureG (s := 24) rfl rfl rfl (p_fieldAddr fo_64_3 rfl) ?_
    refine GL.stepG rfl (s := 24) rfl rfl (t_mem rfl (m_load (i := 0) rfl rfl ag_3 rfl)) ?_; refine GL.pureG (s := 24) rfl rfl rfl (p_eql rfl rfl) ?_; refine GL.pure rfl (p_pick_true rfl rfl) ?_; refine GL.mv_ rfl rfl ?_
    refine GL.split (i := 31) rfl (fun h4 => ?_) (fun h4 => ?_)
    ·try simp only [tst_] at h4
     refine GL.pureG (s := 31) rfl rfl rfl (p_fieldAddr fo_64_4 rfl) ?_; refine GL.stepG rfl (s := 31) rfl rfl (t_mem rfl (m_load (i := 1) rfl rfl ag_3 rfl)) ?_; refine GL.pureG (s := 31) rfl rfl rfl (p_fieldAddr fo_64_4 rfl) ?_
     refine GL.stepG rfl (s := 31) rfl rfl (t_mem rfl (m_load (i := 0) rfl rfl ag_3 rfl)) ?_; refine GL.pureG (s := 31) rfl rfl rfl (p_eql rfl rfl) ?_; refine GL.pure rfl (p_pick_true rfl rfl) ?_; refine GL.mv_ rfl rfl ?_
     refine GL.split (i := 38) rfl (fun h5 => ?_) (fun h5 => ?_)
     ·try simp only [tst_] at h5
      refine GL.pureG (s := 38) rfl rfl rfl (p_fieldAddr fo_64_5 rfl) ?_; refine GL.stepG rfl (s := 38) rfl rfl (t_mem rfl (m_loadN (i := 1) rfl rfl ag_27 (vs := [_, _, _, _, _]) sz_27 ⟨rfl, rfl, rfl, rfl, rfl, trivial⟩)) ?_
      refine GL.pureG (s := 38) rfl rfl rfl (p_fieldAddr fo_64_5 rfl) ?_; refine GL.stepG rfl (s := 38) rfl rfl (t_mem rfl (m_loadN (i := 0) rfl rfl ag_27 (vs := [_, _, _, _, _]) sz_27 ⟨rfl, rfl, rfl, rfl, rfl, trivial⟩)) ?_
      refine GL.stepG rfl (s := 38) rfl rfl (t_call rfl fn_37 rfl (is := []) (js := [0, 1, 3, 4]) rfl rfl (by exact bsame_ct e.op f.op _ _ _ _ _ _ _ _)) (GL.ret ?_)
      rintro _ _ _ ⟨rfl, rfl, rfl⟩
      refine GL.pure rfl (p_pick_true rfl rfl) ?_; refine GL.mv_ rfl rfl ?_; refine GL.split (i := 45) rfl (fun h6 => ?_) (fun h6 => ?_)
      ·try simp only [tst_] at h6
       refine GL.pureG (s := 45) rfl rfl rfl (p_fieldAddr fo_64_6 rfl) ?_; refine GL.stepG rfl (s := 45) rfl rfl (t_mem rfl (m_loadN (i := 1) rfl rfl ag_33 (vs := [_, _]) sz_33 ⟨rfl, rfl, trivial⟩)) ?_; refine GL.pureG (s := 45) rfl rfl rfl (p_fieldAddr fo_64_6 rfl) ?_
       refine GL.stepG rfl (s := 45) rfl rfl (t_mem rfl (m_loadN (i := 0) rfl rfl ag_33 (vs := [_, _]) sz_33 ⟨rfl, rfl, trivial⟩)) ?_; refine GL.stepG rfl (s := 45) rfl rfl (t_call rfl fn_72 rfl (is := []) (js := [2, 5]) rfl rfl (by exact msgr_ct e.grp f.grp _ _ _ _ (by first | assumption | omega))) (GL.ret ?_)
       rintro _ _ _ ⟨rfl, rfl, rfl⟩
       refine GL.pure rfl (p_pick_true rfl rfl) ?_; refine GL.as_ rfl rfl ?_; refine GL.nl_ ?_; refine GC.ret ?_
       refine fun a w h => Fin.back (rs := [.tmp 4]) (vs := [_]) (is := []) (js := []) rfl ⟨rfl, trivial⟩ rfl rfl ?_ h
       clear h
       refine ⟨congrArg Value.bool ?_, rfl, rfl⟩
       simp [en_ext, *]
      ·try simp only [tst_] at h6
       iterate 5 refine GL.pass (s := 45) rfl rfl rfl ?_
       refine GL.pure rfl (p_pick_false rfl rfl) ?_; refine GL.as_ rfl rfl ?_; refine GL.nl_ ?_; refine GC.ret ?_
       refine fun a w h => Fin.back (rs := [.tmp 4]) (vs := [_]) (is := []) (js := []) rfl ⟨rfl, trivial⟩ rfl rfl ?_ h
       clear h
       refine ⟨congrArg Value.bool ?_, rfl, rfl⟩
       simp [en_ext, *]
     ·try simp only [tst_] at h5
      iterate 5 refine GL.pass (s := 38) rfl rfl rfl ?_
      refine GL.pure rfl (p_pick_false rfl rfl) ?_; refine GL.mv_ rfl rfl ?_
      iterate 5 refine GL.pass (s := 45) rfl rfl rfl ?_
      refine GL.pure rfl (p_pick_false rfl rfl) ?_; refine GL.as_ rfl rfl ?_; refine GL.nl_ ?_; refine GC.ret ?_
      refine fun a w h => Fin.back (rs := [.tmp 4]) (vs := [_]) (is := []) (js := []) rfl ⟨rfl, trivial⟩ rfl rfl ?_ h
      clear h
      refine ⟨congrArg Value.bool ?_, rfl, rfl⟩
      simp [en_ext, *]
    ·try simp only [tst_] at h4
     iterate 5 refine GL.pass (s := 31) rfl rfl rfl ?_
     refine GL.pure rfl (p_pick_false rfl rfl) ?_; refine GL.mv_ rfl rfl ?_
     iterate 5 refine GL.pass (s := 38) rfl rfl rfl ?_
     refine GL.pure rfl (p_pick_false rfl rfl) ?_; refine GL.mv_ rfl rfl ?_
     iterate 5 refine GL.pass (s := 45) rfl rfl rfl ?_
     refine GL.pure rfl (p_pick_false rfl rfl) ?_; refine GL.as_ rfl rfl ?_; refine GL.nl_ ?_; refine GC.ret ?_
     refine fun a w h => Fin.back (rs := [.tmp 4]) (vs := [_]) (is := []) (js := []) rfl ⟨rfl, trivial⟩ rfl rfl ?_ h
     clear h
     refine ⟨congrArg Value.bool ?_, rfl, rfl⟩
     simp [en_ext, *]
   ·try simp only [tst_] at h3
    iterate 5 refine GL.pass (s := 24) rfl rfl rfl ?_
    refine GL.pure rfl (p_pick_false rfl rfl) ?_; refine GL.mv_ rfl rfl ?_
    iterate 5 refine GL.pass (s := 31) rfl rfl rfl ?_
    refine GL.pure rfl (p_pick_false rfl rfl) ?_; refine GL.mv_ rfl rfl ?_
    iterate 5 refine GL.pass (s := 38) rfl rfl rfl ?_
    refine GL.pure rfl (p_pick_false rfl rfl) ?_; refine GL.mv_ rfl rfl ?_
    iterate 5 refine GL.pass (s := 45) rfl rfl rfl ?_
    refine GL.pure rfl (p_pick_false rfl rfl) ?_; refine GL.as_ rfl rfl ?_; refine GL.nl_ ?_; refine GC.ret ?_
    refine fun a w h => Fin.back (rs := [.tmp 4]) (vs := [_]) (is := []) (js := []) rfl ⟨rfl, trivial⟩ rfl rfl ?_ h
    clear h
    refine ⟨congrArg Value.bool ?_, rfl, rfl⟩
    simp [en_ext, *]
  ·try simp only [tst_] at h2
   iterate 5 refine GL.pass (s := 17) rfl rfl rfl ?_
   refine GL.pure rfl (p_pick_false rfl rfl) ?_; refine GL.mv_ rfl rfl ?_
   iterate 5 refine GL.pass (s := 24) rfl rfl rfl ?_
   refine GL.pure rfl (p_pick_false rfl rfl) ?_; refine GL.mv_ rfl rfl ?_
   iterate 5 refine GL.pass (s := 31) rfl rfl rfl ?_
   refine GL.pure rfl (p_pick_false rfl rfl) ?_; refine GL.mv_ rfl rfl ?_
   iterate 5 refine GL.pass (s := 38) rfl rfl rfl ?_
   refine GL.pure rfl (p_pick_false rfl rfl) ?_; refine GL.mv_ rfl rfl ?_
   iterate 5 refine GL.pass (s := 45) rfl rfl rfl ?_
   refine GL.pure rfl (p_pick_false rfl rfl) ?_; refine GL.as_ rfl rfl ?_; refine GL.nl_ ?_; refine GC.ret ?_
   refine fun a w h => Fin.back (rs := [.tmp 4]) (vs := [_]) (is := []) (js := []) rfl ⟨rfl, trivial⟩ rfl rfl ?_ h
   clear h
   refine ⟨congrArg Value.bool ?_, rfl, rfl⟩
   simp [en_ext, *]
 ·try simp only [tst_] at h1
  iterate 5 refine GL.pass (s := 10) rfl rfl rfl ?_
  refine GL.pure rfl (p_pick_false rfl rfl) ?_; refine GL.mv_ rfl rfl ?_
  iterate 5 refine GL.pass (s := 17) rfl rfl rfl ?_
  refine GL.pure rfl (p_pick_false rfl rfl) ?_; refine GL.mv_ rfl rfl ?_
  iterate 5 refine GL.pass (s := 24) rfl rfl rfl ?_
  refine GL.pure rfl (p_pick_false rfl rfl) ?_; refine GL.mv_ rfl rfl ?_
  iterate 5 refine GL.pass (s := 31) rfl rfl rfl ?_
  refine GL.pure rfl (p_pick_false rfl rfl) ?_; refine GL.mv_ rfl rfl ?_
  iterate 5 refine GL.pass (s := 38) rfl rfl rfl ?_
  refine GL.pure rfl (p_pick_false rfl rfl) ?_; refine GL.mv_ rfl rfl ?_
  iterate 5 refine GL.pass (s := 45) rfl rfl rfl ?_
  refine GL.pure rfl (p_pick_false rfl rfl) ?_; refine GL.as_ rfl rfl ?_; refine GL.nl_ ?_; refine GC.ret ?_
  refine fun a w h => Fin.back (rs := [.tmp 4]) (vs := [_]) (is := []) (js := []) rfl ⟨rfl, trivial⟩ rfl rfl ?_ h
  clear h
  refine ⟨congrArg Value.bool ?_, rfl, rfl⟩
  simp [en_ext, *]
theorem gt_elem {α : Type} [Inhabited α] {l : List α} {k : Nat} (h : k < l.length) : gt l (k : Int) ∈ l := by
  have := gt_ok (xs := l) (i := (k : Int)) (by omega) (by omega)
  exact List.mem_of_getElem? this
theorem eqen_ct (A : Option Addr) (a_ : List Entry) (cp : Nat) (B : Option Addr) (b_ : List Entry) (cq : Nat) (hl : a_.length ≤ 140737488355328) (hm : ∀ e ∈ a_, EntLen e) : Ct Tryz.prog 39 [.slice A a_.length cp, .slice B b_.length cq, .func (.func 40) #[] #[]] [] [Pers.row kEntry A a_, Pers.row kEntry B b_] (fun u G Q => u = .bool (decide (a_ = b_)) ∧ G = [] ∧ Q = []) := by
 refine Ct.intro Tryz.func39 rfl rfl rfl (fun c hc => ?_)
 refine GC.sr_ ?_; refine GL.as_ rfl rfl ?_; refine GL.nl_ ?_; refine GC.seq' ?_; refine GC.sr_ ?_; refine GL.mv_ rfl rfl ?_; refine GL.pure rfl (p_len Tryz.underlying40 rfl) ?_; refine GL.mv_ rfl rfl ?_; refine GL.pure rfl (p_len Tryz.underlying40 rfl) ?_
 refine GL.pure rfl (p_neq rfl rfl) ?_; refine GL.nl_ ?_; refine GC.cond rfl (fun h1 => ?_) (fun h1 => ?_)
 ·try simp only [tst_] at h1
  first
  | (exfalso; omega)
  |(skip
    refine GC.sr_ ?_; refine GL.as_ rfl rfl ?_; refine GL.nl_ ?_; refine GC.ret ?_
    refine fun a w h => Fin.back (rs := [.tmp 6]) (vs := [_]) (is := []) (js := []) rfl ⟨rfl, trivial⟩ rfl rfl ?_ h
    clear h
    exact ⟨congrArg Value.bool (decide_eq_false fun e => by subst e; omega).symm, rfl, rfl⟩)
 ·try simp only [tst_] at h1
  first
  | (exfalso; omega)
  |(skip
    refine GC.skip (?_ : GC _ _ _ _)
    refine GC.seq' ?_; refine GC.sr_ ?_; refine GL.mv_ rfl rfl ?_; refine GL.pure rfl (p_len Tryz.underlying40 rfl) ?_; refine GL.mv_ rfl rfl ?_; refine GL.nl_ ?_; refine GC.block ?_; refine GC.loopK1 (ks := [1, 2, 15, 16]) (is := []) (js := [0, 1]) (fun (k : Nat) => k ≤ a_.length ∧ ∀ j : Nat, j < k → gt a_ (j : Int) = gt b_ (j : Int)) (fun (k : Nat) => [(17, .int .i64 (k : Int))]) (fun (k : Nat) => []) (fun (k : Nat) => []) (fun (k : Nat) => a_.length - k) (0) rfl rfl rfl (fun a w h => ⟨⟨by omega, fun j hj => by omega⟩, h.cutK (is := []) (js := [0, 1]) (ks := [1, 2, 15, 16]) ⟨rfl, trivial⟩ rfl rfl rfl⟩) ?_
    intro k hk
    try dsimp only [List.cons_append, List.nil_append] at hk ⊢
    obtain ⟨hk, he⟩ := hk
    refine GC.sr_ ?_; refine GL.pure rfl (p_lss rfl rfl) ?_; refine GL.nl_ ?_; refine GC.seq' ?_; refine GC.cond rfl (fun h2 => ?_) (fun h2 => ?_)
    ·try simp only [tst_] at h2
     first
     | (exfalso; omega)
     |(skip
       refine GC.skip (?_ : GC _ _ _ _)
       refine GC.seq' ?_; refine GC.block ?_; refine GC.sr_ ?_; refine GL.mv_ rfl rfl ?_; refine GL.step rfl (t_index (i := 0) rfl rfl rfl rfl Tryz.underlying40 sz_64 (by omega) (gt_ok (by omega) (by omega))) (GL.ex fun p_x20 => GL.ex fun r_x20 => GL.and fun ok_x20 => ?_)
       rcases r_x20 with ⟨_, ⟨_, ⟨_, ⟨_, ⟨_, ⟨⟨_, ⟨_, ⟨_, ⟨⟨Ax20_0, cpx20_0⟩, ⟨Ax20_1, cpx20_1⟩⟩⟩⟩⟩, ⟨_, ⟨Ax20_2, cpx20_2⟩⟩⟩⟩⟩⟩⟩⟩
       refine GL.step rfl (t_mem rfl (m_loadPN (i := 0) rfl rfl ag_64 (vs := [_, _, _, _, _, _, _, _, _, _, _, _]) sz_64 ⟨rfl, rfl, rfl, rfl, rfl, rfl, rfl, rfl, rfl, rfl, rfl, rfl, trivial⟩)) ?_; refine GL.step rfl (t_alloc rfl ze_64) (GL.ex fun b_t8 => ?_)
       refine GL.as_ rfl rfl ?_; refine GL.step rfl (t_storeN (i := 0) rfl rfl rfl sz_64 rfl rfl rfl) ?_; refine GL.nl_ ?_; refine GC.sr_ ?_
       iterate 2 refine GL.mv_ rfl rfl ?_
       refine GL.step rfl (t_index (i := 5) rfl rfl rfl rfl Tryz.underlying40 sz_64 (by omega) (gt_ok (by omega) (by omega))) (GL.ex fun p_x24 => GL.ex fun r_x24 => GL.and fun ok_x24 => ?_)
       rcases r_x24 with ⟨_, ⟨_, ⟨_, ⟨_, ⟨_, ⟨⟨_, ⟨_, ⟨_, ⟨⟨Ax24_0, cpx24_0⟩, ⟨Ax24_1, cpx24_1⟩⟩⟩⟩⟩, ⟨_, ⟨Ax24_2, cpx24_2⟩⟩⟩⟩⟩⟩⟩⟩
       refine GL.step rfl (t_mem rfl (m_loadPN (i := 0) rfl rfl ag_64 (vs := [_, _, _, _, _, _, _, _, _, _, _, _]) sz_64 ⟨rfl, rfl, rfl, rfl, rfl, rfl, rfl, rfl, rfl, rfl, rfl, rfl, trivial⟩)) ?_; refine GL.step rfl (t_alloc rfl ze_64) (GL.ex fun b_t9 => ?_)
       refine GL.step rfl (t_storeN (i := 0) rfl rfl rfl sz_64 rfl rfl rfl) ?_; refine GL.nl_ ?_; refine GC.sr_ ?_; refine GL.mv_ rfl rfl ?_; refine GL.step rfl (t_mem rfl (m_loadN (i := 1) rfl rfl ag_64 (vs := [_, _, _, _, _, _, _, _, _, _, _, _]) sz_64 ⟨rfl, rfl, rfl, rfl, rfl, rfl, rfl, rfl, rfl, rfl, rfl, rfl, trivial⟩)) ?_
       refine GL.step rfl (t_mem rfl (m_loadN (i := 0) rfl rfl ag_64 (vs := [_, _, _, _, _, _, _, _, _, _, _, _]) sz_64 ⟨rfl, rfl, rfl, rfl, rfl, rfl, rfl, rfl, rfl, rfl, rfl, rfl, trivial⟩)) ?_; refine GL.step rfl (t_callv rfl fn_40 rfl rfl (is := []) (js := [5, 6, 7, 1, 2, 3]) rfl rfl (by exact msen_ct (gt a_ (k : Int)) (gt b_ (k : Int)) _ _ _ _ _ _ _ _ _ _ _ _ (by have := (hm _ (gt_elem (l := a_) (k := k) (by omega))).m; omega))) (GL.ret ?_)
       rintro _ _ _ ⟨rfl, rfl, rfl⟩
       refine GL.pure rfl (p_not rfl) ?_; refine GL.nl_ ?_; refine GC.cond rfl (fun h3 => ?_) (fun h3 => ?_)
       ·try simp only [tst_] at h3
        first
        | (exfalso; omega)
        |(skip
          refine GC.sr_ ?_; refine GL.as_ rfl rfl ?_; refine GL.nl_ ?_; refine GC.ret ?_
          refine fun a w h => Fin.back (rs := [.tmp 6]) (vs := [_]) (is := []) (js := []) rfl ⟨rfl, trivial⟩ rfl rfl ?_ h
          clear h
          exact ⟨congrArg Value.bool (decide_eq_false (gt_ne (k := (k : Int)) (by assumption))).symm, rfl, rfl⟩)
       ·try simp only [tst_] at h3
        first
        | (exfalso; omega)
        |(skip
          refine GC.skip (?_ : GC _ _ _ _)
          refine GC.region ?_; refine GL.pure rfl (p_add rfl rfl (w64 (by omega) (by omega))) ?_; refine GL.mv_ rfl rfl ?_; refine GL.nil ?_
          exact fun a w h => ⟨(k + 1), (by omega), ⟨by omega, fun j hj => (Nat.lt_succ_iff_lt_or_eq.1 hj).elim (he j) (fun e => by subst e; assumption)⟩, h.cut (is := []) (js := [8, 9]) ⟨rfl, rfl, rfl, rfl, rfl, trivial⟩ rfl rfl⟩))
    ·try simp only [tst_] at h2
     first
     | (exfalso; omega)
     |(skip
       refine GC.exit (?_ : GC _ _ _ _)
       refine GC.sr_ ?_; refine GL.as_ rfl rfl ?_; refine GL.nl_ ?_; refine GC.ret ?_
       refine fun a w h => Fin.back (rs := [.tmp 6]) (vs := [_]) (is := []) (js := []) rfl ⟨rfl, trivial⟩ rfl rfl ?_ h
       clear h
       exact ⟨congrArg Value.bool (decide_eq_true (list_ext_gt (by omega) fun j hj => he j (by omega))).symm, rfl, rfl⟩))
end Go.Proofs.YtdhdmbmknpjhbaaGreat
namespace Go.Proofs.YtdhdmbmknpjhbaaGreat
open Go Go.Sx Go.Proofs
theorem run_eqShape (w : World) (a b c d : Int) : (Op.equalIn 10000 35 (.agg #[.int .i64 a, .int .i64 b]) (.agg #[.int .i64 c, .int .i64 d])).run Tryz.prog w = .ok (decide (a = c) && decide (b = d)) w := by
  have h1 : Tryz.prog.fieldsOf 35 = (match Tryz.prog.underlying 35 with | some (.struct fs) => fs | _ => #[]) := rfl
  rw [run_equalIn_agg w 9999 _ _ _ (by rw [h1, Tryz.underlying35]) (by kernel_rfl), h1, Tryz.underlying35]
  have p1 : ∀ (l : List Value) (v : Value) (o : Nat) (w : World), nth l o = some v → (part 3 l.toArray o).run Tryz.prog w = .ok v w := fun l v o w h => part_one ag_3 h w
  have e0 : ∀ w, (part 3 #[.int .i64 a, .int .i64 b] 0).run Tryz.prog w = .ok (.int .i64 a) w := fun w => p1 [_, _] _ 0 w rfl
  have e1 : ∀ w, (part 3 #[.int .i64 a, .int .i64 b] 1).run Tryz.prog w = .ok (.int .i64 b) w := fun w => p1 [_, _] _ 1 w rfl
  have e2 : ∀ w, (part 3 #[.int .i64 c, .int .i64 d] 0).run Tryz.prog w = .ok (.int .i64 c) w := fun w => p1 [_, _] _ 0 w rfl
  have e3 : ∀ w, (part 3 #[.int .i64 c, .int .i64 d] 1).run Tryz.prog w = .ok (.int .i64 d) w := fun w => p1 [_, _] _ 1 w rfl
  have q : ∀ (x y : Int) (w : World), (Op.equalIn 9999 3 (.int .i64 x) (.int .i64 y)).run Tryz.prog w = .ok (x == y) w := fun x y w => run_equalIn_int w 9998 _ _ _ _ _ Tryz.underlying3
  simp only [Op.eqFields, Sem.run_bind, Sem.run_ite, e0, e1, e2, e3, q, Result.andThen_ok]
  by_cases h : a = c <;> by_cases h' : b = d <;> subst_vars <;> simp [Sem.run_ite, e0, e1, e2, e3, q, Result.andThen, *]
end Go.Proofs.YtdhdmbmknpjhbaaGreat
namespace Go.Proofs.YtdhdmbmknpjhbaaGreat
open Go Go.Sx Go.Proofs
section
variable {n : Nat} {env : List (Nat × Value)} {dst : Nat} {ty : TypeId} {pos : String} {aft : Array Edge} {g : Option (Nat × Bool)} {x y : Operand} {u : TypeId}
theorem p_shapeEql {a b c d : Int} (hx : ev env x = some (shpV a b)) (hy : ev env y = some (shpV c d)) : Pv Tryz.prog n env ⟨some dst, .binOp .eql 35 x y u, ty, pos, aft, g⟩ (.bool (decide (a = c) && decide (b = d))) := fun act w he => by
  simp only [execOp, he.eval hx, he.eval hy, run_eqGuard_agg w _ _ _ _ _ _ (show Tryz.prog.eqGuardType Tryz.prog.depth 35 = false by kernel_rfl), Sem.run_bind, Result.andThen_ok, run_eql_struct, run_eqShape, Sem.run_pure]
end
end Go.Proofs.YtdhdmbmknpjhbaaGreat
namespace Go.Proofs.YtdhdmbmknpjhbaaGreat
open Go Go.Sx Go.Proofs
theorem mstt_ct (s t : Stt) (A : Option Addr) (cp : Nat) (B : Option Addr) (cq : Nat) (C : Option Addr) (cr : Nat) (A' : Option Addr) (cp' : Nat) (B' : Option Addr) (cq' : Nat) (C' : Option Addr) (cr' : Nat) (h1_ : s.pages.length ≤ 140737488355328) (h2_ : s.rows.length ≤ 140737488355328) (h3_ : s.grp.members.length ≤ 140737488355328) : Ct Tryz.prog 38 [sttV s A cp B cq C cr, sttV t A' cp' B' cq' C' cr'] [] (sttQ s A B C ++ sttQ t A' B' C') (fun u G Q => u = .bool (decide (s = t)) ∧ G = [] ∧ Q = []) := by
 refine Ct.intro Tryz.func38 rfl rfl rfl (fun c hc => ?_)
 refine GC.sr_ ?_; refine GL.step rfl (t_box rfl rfl rfl) (GL.ex fun b_t2 => ?_); refine GL.step rfl (t_box rfl rfl rfl) (GL.ex fun b_t3 => ?_); refine GL.as_ rfl rfl ?_; refine GL.nl_ ?_; refine GC.sr_ ?_; refine GL.pure rfl (p_fieldAddr fo_39_2 rfl) ?_
 refine GL.step rfl (t_mem rfl (m_load (i := 1) rfl rfl ag_36 rfl)) ?_; refine GL.pure rfl (p_fieldAddr fo_39_2 rfl) ?_; refine GL.step rfl (t_mem rfl (m_load (i := 0) rfl rfl ag_36 rfl)) ?_; refine GL.step rfl (t_call rfl fn_69 rfl (is := []) (js := [0, 3]) rfl rfl (by exact eqpg_ct _ s.pages _ _ t.pages _ (by first | assumption | omega))) (GL.ret ?_)
 rintro _ _ _ ⟨rfl, rfl, rfl⟩
 refine GL.as_ rfl rfl ?_; refine GL.nl_ ?_; refine GC.sr_ ?_
 iterate 2 refine GL.mv_ rfl rfl ?_
 refine GL.split (i := 12) rfl (fun h1 => ?_) (fun h1 => ?_)
 ·try simp only [tst_, Bool.and_eq_true, Bool.and_eq_false_iff] at h1
  refine GL.pureG (s := 12) rfl rfl rfl (p_fieldAddr fo_39_0 rfl) ?_; refine GL.stepG rfl (s := 12) rfl rfl (t_mem rfl (m_load (i := 1) rfl rfl ag_3 rfl)) ?_; refine GL.pureG (s := 12) rfl rfl rfl (p_fieldAddr fo_39_0 rfl) ?_
  refine GL.stepG rfl (s := 12) rfl rfl (t_mem rfl (m_load (i := 0) rfl rfl ag_3 rfl)) ?_; refine GL.pureG (s := 12) rfl rfl rfl (p_eql rfl rfl) ?_; refine GL.pure rfl (p_pick_true rfl rfl) ?_; refine GL.mv_ rfl rfl ?_; refine GL.split (i := 19) rfl (fun h2 => ?_) (fun h2 => ?_)
  ·try simp only [tst_, Bool.and_eq_true, Bool.and_eq_false_iff] at h2
   refine GL.pureG (s := 19) rfl rfl rfl (p_fieldAddr fo_39_1 rfl) ?_; refine GL.stepG rfl (s := 19) rfl rfl (t_mem rfl (m_loadN (i := 1) rfl rfl ag_35 (vs := [_, _]) sz_35 ⟨rfl, rfl, trivial⟩)) ?_; refine GL.pureG (s := 19) rfl rfl rfl (p_fieldAddr fo_39_1 rfl) ?_
   refine GL.stepG rfl (s := 19) rfl rfl (t_mem rfl (m_loadN (i := 0) rfl rfl ag_35 (vs := [_, _]) sz_35 ⟨rfl, rfl, trivial⟩)) ?_; refine GL.pureG (s := 19) rfl rfl rfl (p_shapeEql rfl rfl) ?_; refine GL.pure rfl (p_pick_true rfl rfl) ?_
   refine GL.mv_ rfl rfl ?_; refine GL.split (i := 26) rfl (fun h3 => ?_) (fun h3 => ?_)
   ·try simp only [tst_, Bool.and_eq_true, Bool.and_eq_false_iff] at h3
    refine GL.pureG (s := 26) rfl rfl rfl (p_fieldAddr fo_39_3 rfl) ?_; refine GL.stepG rfl (s := 26) rfl rfl (t_mem rfl (m_load (i := 1) rfl rfl ag_37 rfl)) ?_; refine GL.pureG (s := 26) rfl rfl rfl (p_fieldAddr fo_39_3 rfl) ?_
    refine GL.stepG rfl (s := 26) rfl rfl (t_mem rfl (m_load (i := 0) rfl rfl ag_37 rfl)) ?_; refine GL.stepG rfl (s := 26) rfl rfl (t_call rfl fn_71 rfl (is := []) (js := [1, 4]) rfl rfl (by exact tsame_ct _ s.rows _ _ t.rows _ (by first | assumption | omega))) (GL.ret ?_)
    rintro _ _ _ ⟨rfl, rfl, rfl⟩
    refine GL.pure rfl (p_pick_true rfl rfl) ?_; refine GL.mv_ rfl rfl ?_; refine GL.split (i := 33) rfl (fun h4 => ?_) (fun h4 => ?_)
    ·try simp only [tst_, Bool.and_eq_true, Bool.and_eq_false_iff] at h4
     refine GL.pureG (s := 33) rfl rfl rfl (p_fieldAddr fo_39_4 rfl) ?_; refine GL.stepG rfl (s := 33) rfl rfl (t_mem rfl (m_loadN (i := 1) rfl rfl ag_33 (vs := [_, _]) sz_33 ⟨rfl, rfl, trivial⟩)) ?_; refine GL.pureG (s := 33) rfl rfl rfl (p_fieldAddr fo_39_4 rfl) ?_
     refine GL.stepG rfl (s := 33) rfl rfl (t_mem rfl (m_loadN (i := 0) rfl rfl ag_33 (vs := [_, _]) sz_33 ⟨rfl, rfl, trivial⟩)) ?_; refine GL.stepG rfl (s := 33) rfl rfl (t_call rfl fn_72 rfl (is := []) (js := [2, 5]) rfl rfl (by exact msgr_ct s.grp t.grp _ _ _ _ (by first | assumption | omega))) (GL.ret ?_)
     rintro _ _ _ ⟨rfl, rfl, rfl⟩
     refine GL.pure rfl (p_pick_true rfl rfl) ?_; refine GL.as_ rfl rfl ?_; refine GL.nl_ ?_; refine GC.ret ?_
     refine fun a w h => Fin.back (rs := [.tmp 4]) (vs := [_]) (is := []) (js := []) rfl ⟨rfl, trivial⟩ rfl rfl ?_ h
     clear h
     refine ⟨congrArg Value.bool ?_, rfl, rfl⟩
     simp [st_ext, sh_ext, *]
     (try (intros; simp_all))
    ·try simp only [tst_, Bool.and_eq_true, Bool.and_eq_false_iff] at h4
     iterate 5 refine GL.pass (s := 33) rfl rfl rfl ?_
     refine GL.pure rfl (p_pick_false rfl rfl) ?_; refine GL.as_ rfl rfl ?_; refine GL.nl_ ?_; refine GC.ret ?_
     refine fun a w h => Fin.back (rs := [.tmp 4]) (vs := [_]) (is := []) (js := []) rfl ⟨rfl, trivial⟩ rfl rfl ?_ h
     clear h
     refine ⟨congrArg Value.bool ?_, rfl, rfl⟩
     simp [st_ext, sh_ext, *]
     (try (intros; simp_all))
   ·try simp only [tst_, Bool.and_eq_true, Bool.and_eq_false_iff] at h3
    iterate 5 refine GL.pass (s := 26) rfl rfl rfl ?_
    refine GL.pure rfl (p_pick_false rfl rfl) ?_; refine GL.mv_ rfl rfl ?_
    iterate 5 refine GL.pass (s := 33) rfl rfl rfl ?_
    refine GL.pure rfl (p_pick_false rfl rfl) ?_; refine GL.as_ rfl rfl ?_; refine GL.nl_ ?_; refine GC.ret ?_
    refine fun a w h => Fin.back (rs := [.tmp 4]) (vs := [_]) (is := []) (js := []) rfl ⟨rfl, trivial⟩ rfl rfl ?_ h
    clear h
    refine ⟨congrArg Value.bool ?_, rfl, rfl⟩
    simp [st_ext, sh_ext, *]
    (try (intros; simp_all))
  ·try simp only [tst_, Bool.and_eq_true, Bool.and_eq_false_iff] at h2
   iterate 5 refine GL.pass (s := 19) rfl rfl rfl ?_
   refine GL.pure rfl (p_pick_false rfl rfl) ?_; refine GL.mv_ rfl rfl ?_
   iterate 5 refine GL.pass (s := 26) rfl rfl rfl ?_
   refine GL.pure rfl (p_pick_false rfl rfl) ?_; refine GL.mv_ rfl rfl ?_
   iterate 5 refine GL.pass (s := 33) rfl rfl rfl ?_
   refine GL.pure rfl (p_pick_false rfl rfl) ?_; refine GL.as_ rfl rfl ?_; refine GL.nl_ ?_; refine GC.ret ?_
   refine fun a w h => Fin.back (rs := [.tmp 4]) (vs := [_]) (is := []) (js := []) rfl ⟨rfl, trivial⟩ rfl rfl ?_ h
   clear h
   refine ⟨congrArg Value.bool ?_, rfl, rfl⟩
   simp [st_ext, sh_ext, *]
   (try (intros; simp_all))
 ·try simp only [tst_, Bool.and_eq_true, Bool.and_eq_false_iff] at h1
  iterate 5 refine GL.pass (s := 12) rfl rfl rfl ?_
  refine GL.pure rfl (p_pick_false rfl rfl) ?_; refine GL.mv_ rfl rfl ?_
  iterate 5 refine GL.pass (s := 19) rfl rfl rfl ?_
  refine GL.pure rfl (p_pick_false rfl rfl) ?_; refine GL.mv_ rfl rfl ?_
  iterate 5 refine GL.pass (s := 26) rfl rfl rfl ?_
  refine GL.pure rfl (p_pick_false rfl rfl) ?_; refine GL.mv_ rfl rfl ?_
  iterate 5 refine GL.pass (s := 33) rfl rfl rfl ?_
  refine GL.pure rfl (p_pick_false rfl rfl) ?_; refine GL.as_ rfl rfl ?_; refine GL.nl_ ?_; refine GC.ret ?_
  refine fun a w h => Fin.back (rs := [.tmp 4]) (vs := [_]) (is := []) (js := []) rfl ⟨rfl, trivial⟩ rfl rfl ?_ h
  clear h
  refine ⟨congrArg Value.bool ?_, rfl, rfl⟩
  simp [st_ext, sh_ext, *]
  (try (intros; simp_all))
theorem rstt_ct (s t : Stt) (A : Option Addr) (cp : Nat) (B : Option Addr) (cq : Nat) (C : Option Addr) (cr : Nat) (A' : Option Addr) (cp' : Nat) (B' : Option Addr) (cq' : Nat) (C' : Option Addr) (cr' : Nat) (h1_ : s.pages.length ≤ 140737488355328) (h2_ : s.rows.length ≤ 140737488355328) (h3_ : s.grp.members.length ≤ 140737488355328) : Ct Tryz.prog 43 [sttV s A cp B cq C cr, sttV t A' cp' B' cq' C' cr'] [] (sttQ s A B C ++ sttQ t A' B' C') (fun u G Q => u = .bool (decide (s = t)) ∧ G = [] ∧ Q = []) := by
 refine Ct.intro Tryz.func43 rfl rfl rfl (fun c hc => ?_)
 refine GC.sr_ ?_; refine GL.step rfl (t_box rfl rfl rfl) (GL.ex fun b_t2 => ?_); refine GL.step rfl (t_box rfl rfl rfl) (GL.ex fun b_t3 => ?_); refine GL.as_ rfl rfl ?_; refine GL.nl_ ?_; refine GC.sr_ ?_; refine GL.pure rfl (p_fieldAddr fo_39_0 rfl) ?_
 refine GL.step rfl (t_mem rfl (m_load (i := 1) rfl rfl ag_3 rfl)) ?_; refine GL.pure rfl (p_fieldAddr fo_39_0 rfl) ?_; refine GL.step rfl (t_mem rfl (m_load (i := 0) rfl rfl ag_3 rfl)) ?_; refine GL.pure rfl (p_eql rfl rfl) ?_
 refine GL.mv_ rfl rfl ?_; refine GL.split (i := 10) rfl (fun h1 => ?_) (fun h1 => ?_)
 ·try simp only [tst_, Bool.and_eq_true, Bool.and_eq_false_iff] at h1
  refine GL.pureG (s := 10) rfl rfl rfl (p_fieldAddr fo_39_1 rfl) ?_; refine GL.stepG rfl (s := 10) rfl rfl (t_mem rfl (m_loadN (i := 1) rfl rfl ag_35 (vs := [_, _]) sz_35 ⟨rfl, rfl, trivial⟩)) ?_; refine GL.pureG (s := 10) rfl rfl rfl (p_fieldAddr fo_39_1 rfl) ?_
  refine GL.stepG rfl (s := 10) rfl rfl (t_mem rfl (m_loadN (i := 0) rfl rfl ag_35 (vs := [_, _]) sz_35 ⟨rfl, rfl, trivial⟩)) ?_; refine GL.pureG (s := 10) rfl rfl rfl (p_shapeEql rfl rfl) ?_; refine GL.pure rfl (p_pick_true rfl rfl) ?_
  refine GL.mv_ rfl rfl ?_; refine GL.split (i := 17) rfl (fun h2 => ?_) (fun h2 => ?_)
  ·try simp only [tst_, Bool.and_eq_true, Bool.and_eq_false_iff] at h2
   refine GL.pureG (s := 17) rfl rfl rfl (p_fieldAddr fo_39_2 rfl) ?_; refine GL.stepG rfl (s := 17) rfl rfl (t_mem rfl (m_load (i := 1) rfl rfl ag_36 rfl)) ?_; refine GL.pureG (s := 17) rfl rfl rfl (p_fieldAddr fo_39_2 rfl) ?_
   refine GL.stepG rfl (s := 17) rfl rfl (t_mem rfl (m_load (i := 0) rfl rfl ag_36 rfl)) ?_; refine GL.stepG rfl (s := 17) rfl rfl (t_call rfl fn_73 rfl (is := []) (js := [0, 3]) rfl rfl (by exact rpgs_ct _ s.pages _ _ t.pages _ (by first | assumption | omega))) (GL.ret ?_)
   rintro _ _ _ ⟨rfl, rfl, rfl⟩
   refine GL.pure rfl (p_pick_true rfl rfl) ?_; refine GL.mv_ rfl rfl ?_; refine GL.split (i := 24) rfl (fun h3 => ?_) (fun h3 => ?_)
   ·try simp only [tst_, Bool.and_eq_true, Bool.and_eq_false_iff] at h3
    refine GL.pureG (s := 24) rfl rfl rfl (p_fieldAddr fo_39_3 rfl) ?_; refine GL.stepG rfl (s := 24) rfl rfl (t_mem rfl (m_load (i := 1) rfl rfl ag_37 rfl)) ?_; refine GL.pureG (s := 24) rfl rfl rfl (p_fieldAddr fo_39_3 rfl) ?_
    refine GL.stepG rfl (s := 24) rfl rfl (t_mem rfl (m_load (i := 0) rfl rfl ag_37 rfl)) ?_; refine GL.stepG rfl (s := 24) rfl rfl (t_call rfl fn_74 rfl (is := []) (js := [1, 4]) rfl rfl (by exact rsame_ct _ s.rows _ _ t.rows _ (by first | assumption | omega))) (GL.ret ?_)
    rintro _ _ _ ⟨rfl, rfl, rfl⟩
    refine GL.pure rfl (p_pick_true rfl rfl) ?_; refine GL.mv_ rfl rfl ?_; refine GL.split (i := 31) rfl (fun h4 => ?_) (fun h4 => ?_)
    ·try simp only [tst_, Bool.and_eq_true, Bool.and_eq_false_iff] at h4
     refine GL.pureG (s := 31) rfl rfl rfl (p_fieldAddr fo_39_4 rfl) ?_; refine GL.stepG rfl (s := 31) rfl rfl (t_mem rfl (m_loadN (i := 1) rfl rfl ag_33 (vs := [_, _]) sz_33 ⟨rfl, rfl, trivial⟩)) ?_; refine GL.pureG (s := 31) rfl rfl rfl (p_fieldAddr fo_39_4 rfl) ?_
     refine GL.stepG rfl (s := 31) rfl rfl (t_mem rfl (m_loadN (i := 0) rfl rfl ag_33 (vs := [_, _]) sz_33 ⟨rfl, rfl, trivial⟩)) ?_; refine GL.stepG rfl (s := 31) rfl rfl (t_call rfl fn_42 rfl (is := []) (js := [2, 5]) rfl rfl (by exact rgsg_ct s.grp t.grp _ _ _ _ (by first | assumption | omega))) (GL.ret ?_)
     rintro _ _ _ ⟨rfl, rfl, rfl⟩
     refine GL.pure rfl (p_pick_true rfl rfl) ?_; refine GL.as_ rfl rfl ?_; refine GL.nl_ ?_; refine GC.ret ?_
     refine fun a w h => Fin.back (rs := [.tmp 4]) (vs := [_]) (is := []) (js := []) rfl ⟨rfl, trivial⟩ rfl rfl ?_ h
     clear h
     refine ⟨congrArg Value.bool ?_, rfl, rfl⟩
     simp [st_ext, sh_ext, *]
     (try (intros; simp_all))
    ·try simp only [tst_, Bool.and_eq_true, Bool.and_eq_false_iff] at h4
     iterate 5 refine GL.pass (s := 31) rfl rfl rfl ?_
     refine GL.pure rfl (p_pick_false rfl rfl) ?_; refine GL.as_ rfl rfl ?_; refine GL.nl_ ?_; refine GC.ret ?_
     refine fun a w h => Fin.back (rs := [.tmp 4]) (vs := [_]) (is := []) (js := []) rfl ⟨rfl, trivial⟩ rfl rfl ?_ h
     clear h
     refine ⟨congrArg Value.bool ?_, rfl, rfl⟩
     simp [st_ext, sh_ext, *]
     (try (intros; simp_all))
   ·try simp only [tst_, Bool.and_eq_true, Bool.and_eq_false_iff] at h3
    iterate 5 refine GL.pass (s := 24) rfl rfl rfl ?_
    refine GL.pure rfl (p_pick_false rfl rfl) ?_; refine GL.mv_ rfl rfl ?_
    iterate 5 refine GL.pass (s := 31) rfl rfl rfl ?_
    refine GL.pure rfl (p_pick_false rfl rfl) ?_; refine GL.as_ rfl rfl ?_; refine GL.nl_ ?_; refine GC.ret ?_
    refine fun a w h => Fin.back (rs := [.tmp 4]) (vs := [_]) (is := []) (js := []) rfl ⟨rfl, trivial⟩ rfl rfl ?_ h
    clear h
    refine ⟨congrArg Value.bool ?_, rfl, rfl⟩
    simp [st_ext, sh_ext, *]
    (try (intros; simp_all))
  ·try simp only [tst_, Bool.and_eq_true, Bool.and_eq_false_iff] at h2
   iterate 5 refine GL.pass (s := 17) rfl rfl rfl ?_
   refine GL.pure rfl (p_pick_false rfl rfl) ?_; refine GL.mv_ rfl rfl ?_
   iterate 5 refine GL.pass (s := 24) rfl rfl rfl ?_
   refine GL.pure rfl (p_pick_false rfl rfl) ?_; refine GL.mv_ rfl rfl ?_
   iterate 5 refine GL.pass (s := 31) rfl rfl rfl ?_
   refine GL.pure rfl (p_pick_false rfl rfl) ?_; refine GL.as_ rfl rfl ?_; refine GL.nl_ ?_; refine GC.ret ?_
   refine fun a w h => Fin.back (rs := [.tmp 4]) (vs := [_]) (is := []) (js := []) rfl ⟨rfl, trivial⟩ rfl rfl ?_ h
   clear h
   refine ⟨congrArg Value.bool ?_, rfl, rfl⟩
   simp [st_ext, sh_ext, *]
   (try (intros; simp_all))
 ·try simp only [tst_, Bool.and_eq_true, Bool.and_eq_false_iff] at h1
  iterate 5 refine GL.pass (s := 10) rfl rfl rfl ?_
  refine GL.pure rfl (p_pick_false rfl rfl) ?_; refine GL.mv_ rfl rfl ?_
  iterate 5 refine GL.pass (s := 17) rfl rfl rfl ?_
  refine GL.pure rfl (p_pick_false rfl rfl) ?_; refine GL.mv_ rfl rfl ?_
  iterate 5 refine GL.pass (s := 24) rfl rfl rfl ?_
  refine GL.pure rfl (p_pick_false rfl rfl) ?_; refine GL.mv_ rfl rfl ?_
  iterate 5 refine GL.pass (s := 31) rfl rfl rfl ?_
  refine GL.pure rfl (p_pick_false rfl rfl) ?_; refine GL.as_ rfl rfl ?_; refine GL.nl_ ?_; refine GC.ret ?_
  refine fun a w h => Fin.back (rs := [.tmp 4]) (vs := [_]) (is := []) (js := []) rfl ⟨rfl, trivial⟩ rfl rfl ?_ h
  clear h
  refine ⟨congrArg Value.bool ?_, rfl, rfl⟩
  simp [st_ext, sh_ext, *]
  (try (intros; simp_all))
theorem mzst_ct (s : Stt) (A : Option Addr) (cp : Nat) (B : Option Addr) (cq : Nat) (C : Option Addr) (cr : Nat) (h1_ : s.pages.length ≤ 140737488355328) (h2_ : s.rows.length ≤ 140737488355328) (h3_ : s.grp.members.length ≤ 140737488355328) : Ct Tryz.prog 38 [sttV s A cp B cq C cr, .agg #[.int .i64 0, .int .i64 0, .int .i64 0, .slice none 0 0, .slice none 0 0, .int .i64 0, .slice none 0 0]] [] (sttQ s A B C) (fun u G Q => u = .bool (decide (s = zst)) ∧ G = [] ∧ Q = []) :=
  Ct.qperm (mstt_ct s zst A cp B cq C cr none 0 none 0 none 0 h1_ h2_ h3_) (by intro q hq; simp only [List.mem_cons, List.mem_append, List.not_mem_nil, or_false] at hq ⊢; rcases hq with (rfl | rfl | rfl) | rfl | rfl | rfl <;> first | exact .inr (fun _ _ => .inl rfl) | simp)
theorem rzst_ct (s : Stt) (A : Option Addr) (cp : Nat) (B : Option Addr) (cq : Nat) (C : Option Addr) (cr : Nat) (h1_ : s.pages.length ≤ 140737488355328) (h2_ : s.rows.length ≤ 140737488355328) (h3_ : s.grp.members.length ≤ 140737488355328) : Ct Tryz.prog 43 [sttV s A cp B cq C cr, .agg #[.int .i64 0, .int .i64 0, .int .i64 0, .slice none 0 0, .slice none 0 0, .int .i64 0, .slice none 0 0]] [] (sttQ s A B C) (fun u G Q => u = .bool (decide (s = zst)) ∧ G = [] ∧ Q = []) :=
  Ct.qperm (rstt_ct s zst A cp B cq C cr none 0 none 0 none 0 h1_ h2_ h3_) (by intro q hq; simp only [List.mem_cons, List.mem_append, List.not_mem_nil, or_false] at hq ⊢; rcases hq with (rfl | rfl | rfl) | rfl | rfl | rfl <;> first | exact .inr (fun _ _ => .inl rfl) | simp)
end Go.Proofs.YtdhdmbmknpjhbaaGreat
namespace Go.Sx
open Go
section
variable {P : Program} {c : Cx} {n : Nat} {env env' envK E : List (Nat × Value)} {G G' Gr GK : List Own} {Q Q' QK : List Pers} {a : Act} {w : World}
variable {α β γ δ : Type} {x z : Code} {R : Exit → Asr} {ks is js : List Nat}
theorem GC.joinK1 (φ : α → Prop) (F : α → List (Nat × Value)) (GF : α → List Own) (QF : α → List Pers) (hK : kept env ks = some envK) (hG : pickQ G is = some GK) (hQ : pickQ Q js = some QK)
    (hx : GC P (Exit.then (fun a w => ∃ y, φ y ∧ St c n (F y ++ envK) (GF y ++ GK) (QF y ++ QK) a w) R) x (St c n env G Q))
    (hz : ∀ y, φ y → GC P R z (St c n (F y ++ envK) (GF y ++ GK) (QF y ++ QK))) : GC P R (.seq x z) (St c n env G Q) :=
  GC.seq hx fun a w ⟨y, hp, h⟩ => hz y hp a w h
theorem GC.joinK2 (φ : α → β → Prop) (F : α → β → List (Nat × Value)) (GF : α → β → List Own) (QF : α → β → List Pers) (hK : kept env ks = some envK) (hG : pickQ G is = some GK) (hQ : pickQ Q js = some QK)
    (hx : GC P (Exit.then (fun a w => ∃ y1 y2, φ y1 y2 ∧ St c n (F y1 y2 ++ envK) (GF y1 y2 ++ GK) (QF y1 y2 ++ QK) a w) R) x (St c n env G Q))
    (hz : ∀ y1 y2, φ y1 y2 → GC P R z (St c n (F y1 y2 ++ envK) (GF y1 y2 ++ GK) (QF y1 y2 ++ QK))) : GC P R (.seq x z) (St c n env G Q) :=
  GC.seq hx fun a w ⟨y1, y2, hp, h⟩ => hz y1 y2 hp a w h
theorem St.reval {i : Nat} {v v' : Value} (h : St c n env G Q a w) (hi : look env i = some v) (hv : v = v') : St c n ((i, v') :: env) G Q a w := by
  obtain ⟨S, he, hh, hr⟩ := h
  subst hv
  exact ⟨S, he.over hi, hh, hr⟩
theorem GL.reval {ops : Array Oper} {rest : List Oper} (i : Nat) {v v' : Value} (hi : look env i = some v) (hv : v = v') (k : GL P ops R rest (St c n ((i, v') :: env) G Q)) : GL P ops R rest (St c n env G Q) := GL.imp (fun a w h => h.reval hi hv) k
theorem GC.reval (i : Nat) {v v' : Value} (hi : look env i = some v) (hv : v = v') (k : GC P R x (St c n ((i, v') :: env) G Q)) : GC P R x (St c n env G Q) := GC.imp (fun a w h => h.reval hi hv) k
end
end Go.Sx
namespace Go.Proofs.YtdhdmbmknpjhbaaGreat
open Go Go.Sx Go.Proofs
theorem wsame_ct (m k : Msg) (s t : Lie) (hm : MsgLen m) : Ct Tryz.prog 14 [msgV m s, msgV k t] [] (msgQ m s ++ msgQ k t) (fun u G Q => u = .bool (decide (m = k)) ∧ G = [] ∧ Q = []) := by
 refine Ct.intro Tryz.func14 rfl rfl rfl (fun c hc => ?_)
 refine GC.sr_ ?_; refine GL.step rfl (t_box rfl rfl rfl) (GL.ex fun b_t2 => ?_); refine GL.step rfl (t_box rfl rfl rfl) (GL.ex fun b_t3 => ?_); refine GL.as_ rfl rfl ?_; refine GL.nl_ ?_; refine GC.joinK1 (ks := [2, 3, 4]) (is := [0, 1]) (js := [0, 1, 2, 3, 4, 5, 6, 7, 8, 9, 10, 11, 12, 13, 14, 15]) (fun (u_ : Unit) => True) (fun (u_ : Unit) => [(5, .bool (decide (m.kind = k.kind ∧ m.src = k.src ∧ m.dst = k.dst ∧ m.nonce = k.nonce ∧ m.client = k.client ∧ m.serial = k.serial)))]) (fun (u_ : Unit) => []) (fun (u_ : Unit) => []) rfl rfl rfl ?_ ?_
 ·refine GC.region ?_; refine GL.pure rfl (p_fieldAddr fo_42_0 rfl) ?_; refine GL.step rfl (t_mem rfl (m_load (i := 1) rfl rfl ag_22 rfl)) ?_; refine GL.pure rfl (p_fieldAddr fo_42_0 rfl) ?_; refine GL.step rfl (t_mem rfl (m_load (i := 0) rfl rfl ag_22 rfl)) ?_
  refine GL.pure rfl (p_eql rfl rfl) ?_; refine GL.mv_ rfl rfl ?_; refine GL.split (i := 14) rfl (fun h1 => ?_) (fun h1 => ?_)
  ·try simp only [tst_] at h1
   refine GL.pureG (s := 14) rfl rfl rfl (p_fieldAddr fo_42_1 rfl) ?_; refine GL.stepG rfl (s := 14) rfl rfl (t_mem rfl (m_load (i := 1) rfl rfl ag_3 rfl)) ?_; refine GL.pureG (s := 14) rfl rfl rfl (p_fieldAddr fo_42_1 rfl) ?_
   refine GL.stepG rfl (s := 14) rfl rfl (t_mem rfl (m_load (i := 0) rfl rfl ag_3 rfl)) ?_; refine GL.pureG (s := 14) rfl rfl rfl (p_eql rfl rfl) ?_; refine GL.pure rfl (p_pick_true rfl rfl) ?_; refine GL.mv_ rfl rfl ?_; refine GL.split (i := 21) rfl (fun h2 => ?_) (fun h2 => ?_)
   ·try simp only [tst_] at h2
    refine GL.pureG (s := 21) rfl rfl rfl (p_fieldAddr fo_42_2 rfl) ?_; refine GL.stepG rfl (s := 21) rfl rfl (t_mem rfl (m_load (i := 1) rfl rfl ag_3 rfl)) ?_; refine GL.pureG (s := 21) rfl rfl rfl (p_fieldAddr fo_42_2 rfl) ?_
    refine GL.stepG rfl (s := 21) rfl rfl (t_mem rfl (m_load (i := 0) rfl rfl ag_3 rfl)) ?_; refine GL.pureG (s := 21) rfl rfl rfl (p_eql rfl rfl) ?_; refine GL.pure rfl (p_pick_true rfl rfl) ?_; refine GL.mv_ rfl rfl ?_
    refine GL.split (i := 28) rfl (fun h3 => ?_) (fun h3 => ?_)
    ·try simp only [tst_] at h3
     refine GL.pureG (s := 28) rfl rfl rfl (p_fieldAddr fo_42_8 rfl) ?_; refine GL.stepG rfl (s := 28) rfl rfl (t_mem rfl (m_load (i := 1) rfl rfl ag_23 rfl)) ?_; refine GL.pureG (s := 28) rfl rfl rfl (p_fieldAddr fo_42_8 rfl) ?_
     refine GL.stepG rfl (s := 28) rfl rfl (t_mem rfl (m_load (i := 0) rfl rfl ag_23 rfl)) ?_; refine GL.pureG (s := 28) rfl rfl rfl (p_eql rfl rfl) ?_; refine GL.pure rfl (p_pick_true rfl rfl) ?_; refine GL.mv_ rfl rfl ?_
     refine GL.split (i := 35) rfl (fun h4 => ?_) (fun h4 => ?_)
     ·try simp only [tst_] at h4
      refine GL.pureG (s := 35) rfl rfl rfl (p_fieldAddr fo_42_9 rfl) ?_; refine GL.stepG rfl (s := 35) rfl rfl (t_mem rfl (m_load (i := 1) rfl rfl ag_3 rfl)) ?_; refine GL.pureG (s := 35) rfl rfl rfl (p_fieldAddr fo_42_9 rfl) ?_
      refine GL.stepG rfl (s := 35) rfl rfl (t_mem rfl (m_load (i := 0) rfl rfl ag_3 rfl)) ?_; refine GL.pureG (s := 35) rfl rfl rfl (p_eql rfl rfl) ?_; refine GL.pure rfl (p_pick_true rfl rfl) ?_; refine GL.mv_ rfl rfl ?_
      refine GL.split (i := 42) rfl (fun h5 => ?_) (fun h5 => ?_)
      ·try simp only [tst_] at h5
       refine GL.pureG (s := 42) rfl rfl rfl (p_fieldAddr fo_42_10 rfl) ?_; refine GL.stepG rfl (s := 42) rfl rfl (t_mem rfl (m_load (i := 1) rfl rfl ag_3 rfl)) ?_; refine GL.pureG (s := 42) rfl rfl rfl (p_fieldAddr fo_42_10 rfl) ?_
       refine GL.stepG rfl (s := 42) rfl rfl (t_mem rfl (m_load (i := 0) rfl rfl ag_3 rfl)) ?_; refine GL.pureG (s := 42) rfl rfl rfl (p_eql rfl rfl) ?_; refine GL.pure rfl (p_pick_true rfl rfl) ?_; refine GL.as_ rfl rfl ?_
       refine GL.split (i := 5) rfl (fun h6 => ?_) (fun h6 => ?_)
       ·try simp only [tst_] at h6
        refine GL.nil ?_
        exact fun a w h => ⟨(()), trivial, by rw [decide_eq_true (show m.kind = k.kind ∧ m.src = k.src ∧ m.dst = k.dst ∧ m.nonce = k.nonce ∧ m.client = k.client ∧ m.serial = k.serial by simp [*])]; exact h.cut (is := [0, 0]) (js := [0, 1, 2, 3, 4, 5, 6, 7, 8, 9, 10, 11, 12, 13, 14, 15]) ⟨rfl, rfl, rfl, rfl, trivial⟩ rfl rfl⟩
       ·try simp only [tst_] at h6
        refine GL.nil ?_
        exact fun a w h => ⟨(()), trivial, by rw [decide_eq_false (show ¬ (m.kind = k.kind ∧ m.src = k.src ∧ m.dst = k.dst ∧ m.nonce = k.nonce ∧ m.client = k.client ∧ m.serial = k.serial) by simp [*])]; exact h.cut (is := [0, 0]) (js := [0, 1, 2, 3, 4, 5, 6, 7, 8, 9, 10, 11, 12, 13, 14, 15]) ⟨rfl, rfl, rfl, rfl, trivial⟩ rfl rfl⟩
      ·try simp only [tst_] at h5
       iterate 5 refine GL.pass (s := 42) rfl rfl rfl ?_
       refine GL.pure rfl (p_pick_false rfl rfl) ?_; refine GL.as_ rfl rfl ?_; refine GL.nil ?_
       exact fun a w h => ⟨(()), trivial, by rw [decide_eq_false (show ¬ (m.kind = k.kind ∧ m.src = k.src ∧ m.dst = k.dst ∧ m.nonce = k.nonce ∧ m.client = k.client ∧ m.serial = k.serial) by simp [*])]; exact h.cut (is := [0, 0]) (js := [0, 1, 2, 3, 4, 5, 6, 7, 8, 9, 10, 11, 12, 13, 14, 15]) ⟨rfl, rfl, rfl, rfl, trivial⟩ rfl rfl⟩
     ·try simp only [tst_] at h4
      iterate 5 refine GL.pass (s := 35) rfl rfl rfl ?_
      refine GL.pure rfl (p_pick_false rfl rfl) ?_; refine GL.mv_ rfl rfl ?_
      iterate 5 refine GL.pass (s := 42) rfl rfl rfl ?_
      refine GL.pure rfl (p_pick_false rfl rfl) ?_; refine GL.as_ rfl rfl ?_; refine GL.nil ?_
      exact fun a w h => ⟨(()), trivial, by rw [decide_eq_false (show ¬ (m.kind = k.kind ∧ m.src = k.src ∧ m.dst = k.dst ∧ m.nonce = k.nonce ∧ m.client = k.client ∧ m.serial = k.serial) by simp [*])]; exact h.cut (is := [0, 0]) (js := [0, 1, 2, 3, 4, 5, 6, 7, 8, 9, 10, 11, 12, 13, 14, 15]) ⟨rfl, rfl, rfl, rfl, trivial⟩ rfl rfl⟩
    ·try simp only [tst_] at h3
     iterate 5 refine GL.pass (s := 28) rfl rfl rfl ?_
     refine GL.pure rfl (p_pick_false rfl rfl) ?_; refine GL.mv_ rfl rfl ?_
     iterate 5 refine GL.pass (s := 35) rfl rfl rfl ?_
     refine GL.pure rfl (p_pick_false rfl rfl) ?_; refine GL.mv_ rfl rfl ?_
     iterate 5 refine GL.pass (s := 42) rfl rfl rfl ?_
     refine GL.pure rfl (p_pick_false rfl rfl) ?_; refine GL.as_ rfl rfl ?_; refine GL.nil ?_
     exact fun a w h => ⟨(()), trivial, by rw [decide_eq_false (show ¬ (m.kind = k.kind ∧ m.src = k.src ∧ m.dst = k.dst ∧ m.nonce = k.nonce ∧ m.client = k.client ∧ m.serial = k.serial) by simp [*])]; exact h.cut (is := [0, 0]) (js := [0, 1, 2, 3, 4, 5, 6, 7, 8, 9, 10, 11, 12, 13, 14, 15]) ⟨rfl, rfl, rfl, rfl, trivial⟩ rfl rfl⟩
   ·try simp only [tst_] at h2
    iterate 5 refine GL.pass (s := 21) rfl rfl rfl ?_
    refine GL.pure rfl (p_pick_false rfl rfl) ?_; refine GL.mv_ rfl rfl ?_
    iterate 5 refine GL.pass (s := 28) rfl rfl rfl ?_
    refine GL.pure rfl (p_pick_false rfl rfl) ?_; refine GL.mv_ rfl rfl ?_
    iterate 5 refine GL.pass (s := 35) rfl rfl rfl ?_
    refine GL.pure rfl (p_pick_false rfl rfl) ?_; refine GL.mv_ rfl rfl ?_
    iterate 5 refine GL.pass (s := 42) rfl rfl rfl ?_
    refine GL.pure rfl (p_pick_false rfl rfl) ?_; refine GL.as_ rfl rfl ?_; refine GL.nil ?_
    exact fun a w h => ⟨(()), trivial, by rw [decide_eq_false (show ¬ (m.kind = k.kind ∧ m.src = k.src ∧ m.dst = k.dst ∧ m.nonce = k.nonce ∧ m.client = k.client ∧ m.serial = k.serial) by simp [*])]; exact h.cut (is := [0, 0]) (js := [0, 1, 2, 3, 4, 5, 6, 7, 8, 9, 10, 11, 12, 13, 14, 15]) ⟨rfl, rfl, rfl, rfl, trivial⟩ rfl rfl⟩
  ·try simp only [tst_] at h1
   iterate 5 refine GL.pass (s := 14) rfl rfl rfl ?_
   refine GL.pure rfl (p_pick_false rfl rfl) ?_; refine GL.mv_ rfl rfl ?_
   iterate 5 refine GL.pass (s := 21) rfl rfl rfl ?_
   refine GL.pure rfl (p_pick_false rfl rfl) ?_; refine GL.mv_ rfl rfl ?_
   iterate 5 refine GL.pass (s := 28) rfl rfl rfl ?_
   refine GL.pure rfl (p_pick_false rfl rfl) ?_; refine GL.mv_ rfl rfl ?_
   iterate 5 refine GL.pass (s := 35) rfl rfl rfl ?_
   refine GL.pure rfl (p_pick_false rfl rfl) ?_; refine GL.mv_ rfl rfl ?_
   iterate 5 refine GL.pass (s := 42) rfl rfl rfl ?_
   refine GL.pure rfl (p_pick_false rfl rfl) ?_; refine GL.as_ rfl rfl ?_; refine GL.nil ?_
   exact fun a w h => ⟨(()), trivial, by rw [decide_eq_false (show ¬ (m.kind = k.kind ∧ m.src = k.src ∧ m.dst = k.dst ∧ m.nonce = k.nonce ∧ m.client = k.client ∧ m.serial = k.serial) by simp [*])]; exact h.cut (is := [0, 0]) (js := [0, 1, 2, 3, 4, 5, 6, 7, 8, 9, 10, 11, 12, 13, 14, 15]) ⟨rfl, rfl, rfl, rfl, trivial⟩ rfl rfl⟩
 ·intro u_ hj1
  try dsimp only [List.cons_append, List.nil_append] at hj1 ⊢
  refine GC.joinK1 (ks := [2, 3, 4, 5]) (is := [0, 1]) (js := [0, 1, 2, 3, 4, 5, 6, 7, 8, 9, 10, 11, 12, 13, 14, 15]) (fun (u_ : Unit) => True) (fun (u_ : Unit) => [(6, .bool (decide (m.epoch = k.epoch ∧ m.view = k.view ∧ m.num = k.num ∧ m.commit = k.commit ∧ m.normal = k.normal)))]) (fun (u_ : Unit) => []) (fun (u_ : Unit) => []) rfl rfl rfl ?_ ?_
  ·refine GC.region ?_; refine GL.pure rfl (p_fieldAddr fo_42_3 rfl) ?_; refine GL.step rfl (t_mem rfl (m_load (i := 1) rfl rfl ag_3 rfl)) ?_; refine GL.pure rfl (p_fieldAddr fo_42_3 rfl) ?_; refine GL.step rfl (t_mem rfl (m_load (i := 0) rfl rfl ag_3 rfl)) ?_
   refine GL.pure rfl (p_eql rfl rfl) ?_; refine GL.mv_ rfl rfl ?_; refine GL.split (i := 54) rfl (fun h7 => ?_) (fun h7 => ?_)
   ·try simp only [tst_] at h7
    refine GL.pureG (s := 54) rfl rfl rfl (p_fieldAddr fo_42_4 rfl) ?_; refine GL.stepG rfl (s := 54) rfl rfl (t_mem rfl (m_load (i := 1) rfl rfl ag_3 rfl)) ?_; refine GL.pureG (s := 54) rfl rfl rfl (p_fieldAddr fo_42_4 rfl) ?_
    refine GL.stepG rfl (s := 54) rfl rfl (t_mem rfl (m_load (i := 0) rfl rfl ag_3 rfl)) ?_; refine GL.pureG (s := 54) rfl rfl rfl (p_eql rfl rfl) ?_; refine GL.pure rfl (p_pick_true rfl rfl) ?_; refine GL.mv_ rfl rfl ?_
    refine GL.split (i := 61) rfl (fun h8 => ?_) (fun h8 => ?_)
    ·try simp only [tst_] at h8
     refine GL.pureG (s := 61) rfl rfl rfl (p_fieldAddr fo_42_5 rfl) ?_; refine GL.stepG rfl (s := 61) rfl rfl (t_mem rfl (m_load (i := 1) rfl rfl ag_3 rfl)) ?_; refine GL.pureG (s := 61) rfl rfl rfl (p_fieldAddr fo_42_5 rfl) ?_
     refine GL.stepG rfl (s := 61) rfl rfl (t_mem rfl (m_load (i := 0) rfl rfl ag_3 rfl)) ?_; refine GL.pureG (s := 61) rfl rfl rfl (p_eql rfl rfl) ?_; refine GL.pure rfl (p_pick_true rfl rfl) ?_; refine GL.mv_ rfl rfl ?_
     refine GL.split (i := 68) rfl (fun h9 => ?_) (fun h9 => ?_)
     ·try simp only [tst_] at h9
      refine GL.pureG (s := 68) rfl rfl rfl (p_fieldAddr fo_42_6 rfl) ?_; refine GL.stepG rfl (s := 68) rfl rfl (t_mem rfl (m_load (i := 1) rfl rfl ag_3 rfl)) ?_; refine GL.pureG (s := 68) rfl rfl rfl (p_fieldAddr fo_42_6 rfl) ?_
      refine GL.stepG rfl (s := 68) rfl rfl (t_mem rfl (m_load (i := 0) rfl rfl ag_3 rfl)) ?_; refine GL.pureG (s := 68) rfl rfl rfl (p_eql rfl rfl) ?_; refine GL.pure rfl (p_pick_true rfl rfl) ?_; refine GL.mv_ rfl rfl ?_
      refine GL.split (i := 75) rfl (fun h10 => ?_) (fun h10 => ?_)
      ·try simp only [tst_] at h10
       refine GL.pureG (s := 75) rfl rfl rfl (p_fieldAddr fo_42_7 rfl) ?_; refine GL.stepG rfl (s := 75) rfl rfl (t_mem rfl (m_load (i := 1) rfl rfl ag_3 rfl)) ?_; refine GL.pureG (s := 75) rfl rfl rfl (p_fieldAddr fo_42_7 rfl) ?_
       refine GL.stepG rfl (s := 75) rfl rfl (t_mem rfl (m_load (i := 0) rfl rfl ag_3 rfl)) ?_; refine GL.pureG (s := 75) rfl rfl rfl (p_eql rfl rfl) ?_; refine GL.pure rfl (p_pick_true rfl rfl) ?_; refine GL.as_ rfl rfl ?_
       refine GL.split (i := 6) rfl (fun h11 => ?_) (fun h11 => ?_)
       ·try simp only [tst_] at h11
        refine GL.nil ?_
        exact fun a w h => ⟨(()), trivial, by rw [decide_eq_true (show m.epoch = k.epoch ∧ m.view = k.view ∧ m.num = k.num ∧ m.commit = k.commit ∧ m.normal = k.normal by simp [*])]; exact h.cut (is := [0, 0]) (js := [0, 1, 2, 3, 4, 5, 6, 7, 8, 9, 10, 11, 12, 13, 14, 15]) ⟨rfl, rfl, rfl, rfl, rfl, trivial⟩ rfl rfl⟩
       ·try simp only [tst_] at h11
        refine GL.nil ?_
        exact fun a w h => ⟨(()), trivial, by rw [decide_eq_false (show ¬ (m.epoch = k.epoch ∧ m.view = k.view ∧ m.num = k.num ∧ m.commit = k.commit ∧ m.normal = k.normal) by simp [*])]; exact h.cut (is := [0, 0]) (js := [0, 1, 2, 3, 4, 5, 6, 7, 8, 9, 10, 11, 12, 13, 14, 15]) ⟨rfl, rfl, rfl, rfl, rfl, trivial⟩ rfl rfl⟩
      ·try simp only [tst_] at h10
       iterate 5 refine GL.pass (s := 75) rfl rfl rfl ?_
       refine GL.pure rfl (p_pick_false rfl rfl) ?_; refine GL.as_ rfl rfl ?_; refine GL.nil ?_
       exact fun a w h => ⟨(()), trivial, by rw [decide_eq_false (show ¬ (m.epoch = k.epoch ∧ m.view = k.view ∧ m.num = k.num ∧ m.commit = k.commit ∧ m.normal = k.normal) by simp [*])]; exact h.cut (is := [0, 0]) (js := [0, 1, 2, 3, 4, 5, 6, 7, 8, 9, 10, 11, 12, 13, 14, 15]) ⟨rfl, rfl, rfl, rfl, rfl, trivial⟩ rfl rfl⟩
     ·try simp only [tst_] at h9
      iterate 5 refine GL.pass (s := 68) rfl rfl rfl ?_
      refine GL.pure rfl (p_pick_false rfl rfl) ?_; refine GL.mv_ rfl rfl ?_
      iterate 5 refine GL.pass (s := 75) rfl rfl rfl ?_
      refine GL.pure rfl (p_pick_false rfl rfl) ?_; refine GL.as_ rfl rfl ?_; refine GL.nil ?_
      exact fun a w h => ⟨(()), trivial, by rw [decide_eq_false (show ¬ (m.epoch = k.epoch ∧ m.view = k.view ∧ m.num = k.num ∧ m.commit = k.commit ∧ m.normal = k.normal) by simp [*])]; exact h.cut (is := [0, 0]) (js := [0, 1, 2, 3, 4, 5, 6, 7, 8, 9, 10, 11, 12, 13, 14, 15]) ⟨rfl, rfl, rfl, rfl, rfl, trivial⟩ rfl rfl⟩
    ·try simp only [tst_] at h8
     iterate 5 refine GL.pass (s := 61) rfl rfl rfl ?_
     refine GL.pure rfl (p_pick_false rfl rfl) ?_; refine GL.mv_ rfl rfl ?_
     iterate 5 refine GL.pass (s := 68) rfl rfl rfl ?_
     refine GL.pure rfl (p_pick_false rfl rfl) ?_; refine GL.mv_ rfl rfl ?_
     iterate 5 refine GL.pass (s := 75) rfl rfl rfl ?_
     refine GL.pure rfl (p_pick_false rfl rfl) ?_; refine GL.as_ rfl rfl ?_; refine GL.nil ?_
     exact fun a w h => ⟨(()), trivial, by rw [decide_eq_false (show ¬ (m.epoch = k.epoch ∧ m.view = k.view ∧ m.num = k.num ∧ m.commit = k.commit ∧ m.normal = k.normal) by simp [*])]; exact h.cut (is := [0, 0]) (js := [0, 1, 2, 3, 4, 5, 6, 7, 8, 9, 10, 11, 12, 13, 14, 15]) ⟨rfl, rfl, rfl, rfl, rfl, trivial⟩ rfl rfl⟩
   ·try simp only [tst_] at h7
    iterate 5 refine GL.pass (s := 54) rfl rfl rfl ?_
    refine GL.pure rfl (p_pick_false rfl rfl) ?_; refine GL.mv_ rfl rfl ?_
    iterate 5 refine GL.pass (s := 61) rfl rfl rfl ?_
    refine GL.pure rfl (p_pick_false rfl rfl) ?_; refine GL.mv_ rfl rfl ?_
    iterate 5 refine GL.pass (s := 68) rfl rfl rfl ?_
    refine GL.pure rfl (p_pick_false rfl rfl) ?_; refine GL.mv_ rfl rfl ?_
    iterate 5 refine GL.pass (s := 75) rfl rfl rfl ?_
    refine GL.pure rfl (p_pick_false rfl rfl) ?_; refine GL.as_ rfl rfl ?_; refine GL.nil ?_
    exact fun a w h => ⟨(()), trivial, by rw [decide_eq_false (show ¬ (m.epoch = k.epoch ∧ m.view = k.view ∧ m.num = k.num ∧ m.commit = k.commit ∧ m.normal = k.normal) by simp [*])]; exact h.cut (is := [0, 0]) (js := [0, 1, 2, 3, 4, 5, 6, 7, 8, 9, 10, 11, 12, 13, 14, 15]) ⟨rfl, rfl, rfl, rfl, rfl, trivial⟩ rfl rfl⟩
  ·intro u_ hj2
   try dsimp only [List.cons_append, List.nil_append] at hj2 ⊢
   refine GC.joinK1 (ks := [2, 3, 4, 5, 6]) (is := [0, 1]) (js := [0, 1, 2, 3, 4, 5, 6, 7, 8, 9, 10, 11, 12, 13, 14, 15]) (fun (u_ : Unit) => True) (fun (u_ : Unit) => [(7, .bool (decide (m.res = k.res)))]) (fun (u_ : Unit) => []) (fun (u_ : Unit) => []) rfl rfl rfl ?_ ?_
   ·refine GC.region ?_; refine GL.pure rfl (p_fieldAddr fo_42_12 rfl) ?_; refine GL.pure rfl (p_fieldAddr fo_30_0 rfl) ?_; refine GL.step rfl (t_mem rfl (m_load (i := 1) rfl rfl ag_28 rfl)) ?_; refine GL.pure rfl (p_fieldAddr fo_42_12 rfl) ?_
    refine GL.pure rfl (p_fieldAddr fo_30_0 rfl) ?_; refine GL.step rfl (t_mem rfl (m_load (i := 0) rfl rfl ag_28 rfl)) ?_; refine GL.pure rfl (p_eql rfl rfl) ?_; refine GL.mv_ rfl rfl ?_; refine GL.split (i := 89) rfl (fun h12 => ?_) (fun h12 => ?_)
    ·try simp only [tst_] at h12
     refine GL.pureG (s := 89) rfl rfl rfl (p_fieldAddr fo_42_12 rfl) ?_; refine GL.pureG (s := 89) rfl rfl rfl (p_fieldAddr fo_30_1 rfl) ?_; refine GL.stepG rfl (s := 89) rfl rfl (t_mem rfl (m_load (i := 1) rfl rfl ag_25 rfl)) ?_
     refine GL.pureG (s := 89) rfl rfl rfl (p_fieldAddr fo_42_12 rfl) ?_; refine GL.pureG (s := 89) rfl rfl rfl (p_fieldAddr fo_30_1 rfl) ?_; refine GL.stepG rfl (s := 89) rfl rfl (t_mem rfl (m_load (i := 0) rfl rfl ag_25 rfl)) ?_
     refine GL.stepG rfl (s := 89) rfl rfl (t_call rfl fn_35 rfl (is := []) (js := [2, 10]) rfl rfl (by exact equal_ct _ _ _ _ _ _)) (GL.ret ?_)
     rintro _ _ _ ⟨rfl, rfl, rfl⟩
     refine GL.pure rfl (p_pick_true rfl rfl) ?_; refine GL.as_ rfl rfl ?_; refine GL.split (i := 7) rfl (fun h13 => ?_) (fun h13 => ?_)
     ·try simp only [tst_] at h13
      refine GL.nil ?_
      exact fun a w h => ⟨(()), trivial, by rw [decide_eq_true (show m.res = k.res by simp [rs_ext, *])]; exact h.cut (is := [0, 0]) (js := [0, 1, 2, 3, 4, 5, 6, 7, 8, 9, 10, 11, 12, 13, 14, 15]) ⟨rfl, rfl, rfl, rfl, rfl, rfl, trivial⟩ rfl rfl⟩
     ·try simp only [tst_] at h13
      refine GL.nil ?_
      exact fun a w h => ⟨(()), trivial, by rw [decide_eq_false (show ¬ (m.res = k.res) by simp [rs_ext, *])]; exact h.cut (is := [0, 0]) (js := [0, 1, 2, 3, 4, 5, 6, 7, 8, 9, 10, 11, 12, 13, 14, 15]) ⟨rfl, rfl, rfl, rfl, rfl, rfl, trivial⟩ rfl rfl⟩
    ·try simp only [tst_] at h12
     iterate 7 refine GL.pass (s := 89) rfl rfl rfl ?_
     refine GL.pure rfl (p_pick_false rfl rfl) ?_; refine GL.as_ rfl rfl ?_; refine GL.nil ?_
     exact fun a w h => ⟨(()), trivial, by rw [decide_eq_false (show ¬ (m.res = k.res) by simp [rs_ext, *])]; exact h.cut (is := [0, 0]) (js := [0, 1, 2, 3, 4, 5, 6, 7, 8, 9, 10, 11, 12, 13, 14, 15]) ⟨rfl, rfl, rfl, rfl, rfl, rfl, trivial⟩ rfl rfl⟩
   ·intro u_ hj3
    try dsimp only [List.cons_append, List.nil_append] at hj3 ⊢
    refine GC.joinK1 (ks := [2, 3, 4, 5, 6, 7]) (is := [0, 1]) (js := [0, 1, 2, 3, 4, 5, 6, 7, 8, 9, 10, 11, 12, 13, 14, 15]) (fun (u_ : Unit) => True) (fun (u_ : Unit) => [(8, .bool (decide (m.grp = k.grp)))]) (fun (u_ : Unit) => []) (fun (u_ : Unit) => []) rfl rfl rfl ?_ ?_
    ·refine GC.region ?_; refine GL.pure rfl (p_fieldAddr fo_42_13 rfl) ?_; refine GL.pure rfl (p_fieldAddr fo_33_0 rfl) ?_; refine GL.step rfl (t_mem rfl (m_load (i := 1) rfl rfl ag_3 rfl)) ?_; refine GL.pure rfl (p_fieldAddr fo_42_13 rfl) ?_
     refine GL.pure rfl (p_fieldAddr fo_33_0 rfl) ?_; refine GL.step rfl (t_mem rfl (m_load (i := 0) rfl rfl ag_3 rfl)) ?_; refine GL.pure rfl (p_eql rfl rfl) ?_; refine GL.mv_ rfl rfl ?_; refine GL.split (i := 105) rfl (fun h14 => ?_) (fun h14 => ?_)
     ·try simp only [tst_] at h14
      refine GL.pureG (s := 105) rfl rfl rfl (p_fieldAddr fo_42_13 rfl) ?_; refine GL.pureG (s := 105) rfl rfl rfl (p_fieldAddr fo_33_1 rfl) ?_; refine GL.stepG rfl (s := 105) rfl rfl (t_mem rfl (m_load (i := 1) rfl rfl ag_31 rfl)) ?_
      refine GL.pureG (s := 105) rfl rfl rfl (p_fieldAddr fo_42_13 rfl) ?_; refine GL.pureG (s := 105) rfl rfl rfl (p_fieldAddr fo_33_1 rfl) ?_; refine GL.stepG rfl (s := 105) rfl rfl (t_mem rfl (m_load (i := 0) rfl rfl ag_31 rfl)) ?_
      refine GL.stepG rfl (s := 105) rfl rfl (t_call rfl fn_36 rfl (is := []) (js := [3, 11]) rfl rfl (by exact equal_i _ m.grp.members _ _ k.grp.members _ (by have := hm.g; omega))) (GL.ret ?_)
      rintro _ _ _ ⟨rfl, rfl, rfl⟩
      refine GL.pure rfl (p_pick_true rfl rfl) ?_; refine GL.as_ rfl rfl ?_; refine GL.split (i := 8) rfl (fun h15 => ?_) (fun h15 => ?_)
      ·try simp only [tst_] at h15
       refine GL.nil ?_
       exact fun a w h => ⟨(()), trivial, by rw [decide_eq_true (show m.grp = k.grp by simp [gr_ext, *])]; exact h.cut (is := [0, 0]) (js := [0, 1, 2, 3, 4, 5, 6, 7, 8, 9, 10, 11, 12, 13, 14, 15]) ⟨rfl, rfl, rfl, rfl, rfl, rfl, rfl, trivial⟩ rfl rfl⟩
      ·try simp only [tst_] at h15
       refine GL.nil ?_
       exact fun a w h => ⟨(()), trivial, by rw [decide_eq_false (show ¬ (m.grp = k.grp) by simp [gr_ext, *])]; exact h.cut (is := [0, 0]) (js := [0, 1, 2, 3, 4, 5, 6, 7, 8, 9, 10, 11, 12, 13, 14, 15]) ⟨rfl, rfl, rfl, rfl, rfl, rfl, rfl, trivial⟩ rfl rfl⟩
     ·try simp only [tst_] at h14
      iterate 7 refine GL.pass (s := 105) rfl rfl rfl ?_
      refine GL.pure rfl (p_pick_false rfl rfl) ?_; refine GL.as_ rfl rfl ?_; refine GL.nil ?_
      exact fun a w h => ⟨(()), trivial, by rw [decide_eq_false (show ¬ (m.grp = k.grp) by simp [gr_ext, *])]; exact h.cut (is := [0, 0]) (js := [0, 1, 2, 3, 4, 5, 6, 7, 8, 9, 10, 11, 12, 13, 14, 15]) ⟨rfl, rfl, rfl, rfl, rfl, rfl, rfl, trivial⟩ rfl rfl⟩
    ·intro u_ hj4
     try dsimp only [List.cons_append, List.nil_append] at hj4 ⊢
     refine GC.sr_ ?_
     iterate 2 refine GL.mv_ rfl rfl ?_
     refine GL.split (i := 115) rfl (fun h16 => ?_) (fun h16 => ?_)
     ·try simp only [tst_] at h16
      refine GL.pureG (s := 115) rfl rfl rfl (p_move rfl) ?_; refine GL.pure rfl (p_pick_true rfl rfl) ?_; refine GL.mv_ rfl rfl ?_; refine GL.split (i := 118) rfl (fun h17 => ?_) (fun h17 => ?_)
      ·try simp only [tst_] at h17
       refine GL.pureG (s := 118) rfl rfl rfl (p_move rfl) ?_; refine GL.pure rfl (p_pick_true rfl rfl) ?_; refine GL.mv_ rfl rfl ?_; refine GL.split (i := 121) rfl (fun h18 => ?_) (fun h18 => ?_)
       ·try simp only [tst_] at h18
        refine GL.pureG (s := 121) rfl rfl rfl (p_move rfl) ?_; refine GL.pure rfl (p_pick_true rfl rfl) ?_; refine GL.mv_ rfl rfl ?_; refine GL.split (i := 124) rfl (fun h19 => ?_) (fun h19 => ?_)
        ·try simp only [tst_] at h19
         refine GL.pureG (s := 124) rfl rfl rfl (p_fieldAddr fo_42_11 rfl) ?_; refine GL.stepG rfl (s := 124) rfl rfl (t_mem rfl (m_loadN (i := 1) rfl rfl ag_27 (vs := [_, _, _, _, _]) sz_27 ⟨rfl, rfl, rfl, rfl, rfl, trivial⟩)) ?_
         refine GL.pureG (s := 124) rfl rfl rfl (p_fieldAddr fo_42_11 rfl) ?_; refine GL.stepG rfl (s := 124) rfl rfl (t_mem rfl (m_loadN (i := 0) rfl rfl ag_27 (vs := [_, _, _, _, _]) sz_27 ⟨rfl, rfl, rfl, rfl, rfl, trivial⟩)) ?_
         refine GL.stepG rfl (s := 124) rfl rfl (t_call rfl fn_37 rfl (is := []) (js := [0, 1, 8, 9]) rfl rfl (by exact bsame_ct m.op k.op _ _ _ _ _ _ _ _)) (GL.ret ?_)
         rintro _ _ _ ⟨rfl, rfl, rfl⟩
         refine GL.pure rfl (p_pick_true rfl rfl) ?_; refine GL.mv_ rfl rfl ?_; refine GL.split (i := 131) rfl (fun h20 => ?_) (fun h20 => ?_)
         ·try simp only [tst_] at h20
          refine GL.pureG (s := 131) rfl rfl rfl (p_fieldAddr fo_42_14 rfl) ?_; refine GL.stepG rfl (s := 131) rfl rfl (t_mem rfl (m_loadN (i := 1) rfl rfl ag_39 (vs := [_, _, _, _, _, _, _]) sz_39 ⟨rfl, rfl, rfl, rfl, rfl, rfl, rfl, trivial⟩)) ?_
          refine GL.pureG (s := 131) rfl rfl rfl (p_fieldAddr fo_42_14 rfl) ?_; refine GL.stepG rfl (s := 131) rfl rfl (t_mem rfl (m_loadN (i := 0) rfl rfl ag_39 (vs := [_, _, _, _, _, _, _]) sz_39 ⟨rfl, rfl, rfl, rfl, rfl, rfl, rfl, trivial⟩)) ?_
          refine GL.stepG rfl (s := 131) rfl rfl (t_call rfl fn_38 rfl (is := []) (js := [4, 5, 6, 12, 13, 14]) rfl rfl (by exact mstt_ct m.stt k.stt _ _ _ _ _ _ _ _ _ _ _ _ (by have := hm.s.p; omega) (by have := hm.s.r; omega) (by have := hm.s.m; omega))) (GL.ret ?_)
          rintro _ _ _ ⟨rfl, rfl, rfl⟩
          refine GL.pure rfl (p_pick_true rfl rfl) ?_; refine GL.mv_ rfl rfl ?_; refine GL.split (i := 138) rfl (fun h21 => ?_) (fun h21 => ?_)
          ·try simp only [tst_] at h21
           refine GL.pureG (s := 138) rfl rfl rfl (p_fieldAddr fo_42_15 rfl) ?_; refine GL.stepG rfl (s := 138) rfl rfl (t_mem rfl (m_load (i := 1) rfl rfl ag_40 rfl)) ?_; refine GL.pureG (s := 138) rfl rfl rfl (p_fieldAddr fo_42_15 rfl) ?_
           refine GL.stepG rfl (s := 138) rfl rfl (t_mem rfl (m_load (i := 0) rfl rfl ag_40 rfl)) ?_; refine GL.stepG rfl (s := 138) rfl rfl (t_call rfl fn_39 rfl (is := []) (js := [7, 15]) rfl rfl (by exact eqen_ct _ m.log _ _ k.log _ (by have := hm.l; omega) hm.e)) (GL.ret ?_)
           rintro _ _ _ ⟨rfl, rfl, rfl⟩
           refine GL.pure rfl (p_pick_true rfl rfl) ?_; refine GL.as_ rfl rfl ?_; refine GL.nl_ ?_; refine GC.ret ?_
           refine fun a w h => Fin.back (rs := [.tmp 4]) (vs := [_]) (is := []) (js := []) rfl ⟨rfl, trivial⟩ rfl rfl ?_ h
           clear h
           first | (refine ⟨congrArg Value.bool (decide_eq_true ?_).symm, rfl, rfl⟩; simp_all [ms_ext, gr_ext, rs_ext]; done) | (refine ⟨congrArg Value.bool (decide_eq_false ?_).symm, rfl, rfl⟩; intro e; subst e; simp_all; done) | (refine ⟨congrArg Value.bool ?_, rfl, rfl⟩; rw [Bool.eq_iff_iff]; simp_all [ms_ext, gr_ext, rs_ext]; done)
          ·try simp only [tst_] at h21
           iterate 5 refine GL.pass (s := 138) rfl rfl rfl ?_
           refine GL.pure rfl (p_pick_false rfl rfl) ?_; refine GL.as_ rfl rfl ?_; refine GL.nl_ ?_; refine GC.ret ?_
           refine fun a w h => Fin.back (rs := [.tmp 4]) (vs := [_]) (is := []) (js := []) rfl ⟨rfl, trivial⟩ rfl rfl ?_ h
           clear h
           first | (refine ⟨congrArg Value.bool (decide_eq_true ?_).symm, rfl, rfl⟩; simp_all [ms_ext, gr_ext, rs_ext]; done) | (refine ⟨congrArg Value.bool (decide_eq_false ?_).symm, rfl, rfl⟩; intro e; subst e; simp_all; done) | (refine ⟨congrArg Value.bool ?_, rfl, rfl⟩; rw [Bool.eq_iff_iff]; simp_all [ms_ext, gr_ext, rs_ext]; done)
         ·try simp only [tst_] at h20
          iterate 5 refine GL.pass (s := 131) rfl rfl rfl ?_
          refine GL.pure rfl (p_pick_false rfl rfl) ?_; refine GL.mv_ rfl rfl ?_
          iterate 5 refine GL.pass (s := 138) rfl rfl rfl ?_
          refine GL.pure rfl (p_pick_false rfl rfl) ?_; refine GL.as_ rfl rfl ?_; refine GL.nl_ ?_; refine GC.ret ?_
          refine fun a w h => Fin.back (rs := [.tmp 4]) (vs := [_]) (is := []) (js := []) rfl ⟨rfl, trivial⟩ rfl rfl ?_ h
          clear h
          first | (refine ⟨congrArg Value.bool (decide_eq_true ?_).symm, rfl, rfl⟩; simp_all [ms_ext, gr_ext, rs_ext]; done) | (refine ⟨congrArg Value.bool (decide_eq_false ?_).symm, rfl, rfl⟩; intro e; subst e; simp_all; done) | (refine ⟨congrArg Value.bool ?_, rfl, rfl⟩; rw [Bool.eq_iff_iff]; simp_all [ms_ext, gr_ext, rs_ext]; done)
        ·try simp only [tst_] at h19
         iterate 5 refine GL.pass (s := 124) rfl rfl rfl ?_
         refine GL.pure rfl (p_pick_false rfl rfl) ?_; refine GL.mv_ rfl rfl ?_
         iterate 5 refine GL.pass (s := 131) rfl rfl rfl ?_
         refine GL.pure rfl (p_pick_false rfl rfl) ?_; refine GL.mv_ rfl rfl ?_
         iterate 5 refine GL.pass (s := 138) rfl rfl rfl ?_
         refine GL.pure rfl (p_pick_false rfl rfl) ?_; refine GL.as_ rfl rfl ?_; refine GL.nl_ ?_; refine GC.ret ?_
         refine fun a w h => Fin.back (rs := [.tmp 4]) (vs := [_]) (is := []) (js := []) rfl ⟨rfl, trivial⟩ rfl rfl ?_ h
         clear h
         first | (refine ⟨congrArg Value.bool (decide_eq_true ?_).symm, rfl, rfl⟩; simp_all [ms_ext, gr_ext, rs_ext]; done) | (refine ⟨congrArg Value.bool (decide_eq_false ?_).symm, rfl, rfl⟩; intro e; subst e; simp_all; done) | (refine ⟨congrArg Value.bool ?_, rfl, rfl⟩; rw [Bool.eq_iff_iff]; simp_all [ms_ext, gr_ext, rs_ext]; done)
       ·try simp only [tst_] at h18
        refine GL.pass (s := 121) rfl rfl rfl ?_; refine GL.pure rfl (p_pick_false rfl rfl) ?_; refine GL.mv_ rfl rfl ?_
        iterate 5 refine GL.pass (s := 124) rfl rfl rfl ?_
        refine GL.pure rfl (p_pick_false rfl rfl) ?_; refine GL.mv_ rfl rfl ?_
        iterate 5 refine GL.pass (s := 131) rfl rfl rfl ?_
        refine GL.pure rfl (p_pick_false rfl rfl) ?_; refine GL.mv_ rfl rfl ?_
        iterate 5 refine GL.pass (s := 138) rfl rfl rfl ?_
        refine GL.pure rfl (p_pick_false rfl rfl) ?_; refine GL.as_ rfl rfl ?_; refine GL.nl_ ?_; refine GC.ret ?_
        refine fun a w h => Fin.back (rs := [.tmp 4]) (vs := [_]) (is := []) (js := []) rfl ⟨rfl, trivial⟩ rfl rfl ?_ h
        clear h
        first | (refine ⟨congrArg Value.bool (decide_eq_true ?_).symm, rfl, rfl⟩; simp_all [ms_ext, gr_ext, rs_ext]; done) | (refine ⟨congrArg Value.bool (decide_eq_false ?_).symm, rfl, rfl⟩; intro e; subst e; simp_all; done) | (refine ⟨congrArg Value.bool ?_, rfl, rfl⟩; rw [Bool.eq_iff_iff]; simp_all [ms_ext, gr_ext, rs_ext]; done)
      ·try simp only [tst_] at h17
       refine GL.pass (s := 118) rfl rfl rfl ?_; refine GL.pure rfl (p_pick_false rfl rfl) ?_; refine GL.mv_ rfl rfl ?_; refine GL.pass (s := 121) rfl rfl rfl ?_; refine GL.pure rfl (p_pick_false rfl rfl) ?_; refine GL.mv_ rfl rfl ?_
       iterate 5 refine GL.pass (s := 124) rfl rfl rfl ?_
       refine GL.pure rfl (p_pick_false rfl rfl) ?_; refine GL.mv_ rfl rfl ?_
       iterate 5 refine GL.pass (s := 131) rfl rfl rfl ?_
       refine GL.pure rfl (p_pick_false rfl rfl) ?_; refine GL.mv_ rfl rfl ?_
       iterate 5 refine GL.pass (s := 138) rfl rfl rfl ?_
       refine GL.pure rfl (p_pick_false rfl rfl) ?_; refine GL.as_ rfl rfl ?_; refine GL.nl_ ?_; refine GC.ret ?_
       refine fun a w h => Fin.back (rs := [.tmp 4]) (vs := [_]) (is := []) (js := []) rfl ⟨rfl, trivial⟩ rfl rfl ?_ h
       clear h
       first | (refine ⟨congrArg Value.bool (decide_eq_true ?_).symm, rfl, rfl⟩; simp_all [ms_ext, gr_ext, rs_ext]; done) | (refine ⟨congrArg Value.bool (decide_eq_false ?_).symm, rfl, rfl⟩; intro e; subst e; simp_all; done) | (refine ⟨congrArg Value.bool ?_, rfl, rfl⟩; rw [Bool.eq_iff_iff]; simp_all [ms_ext, gr_ext, rs_ext]; done)
     ·try simp only [tst_] at h16
      refine GL.pass (s := 115) rfl rfl rfl ?_; refine GL.pure rfl (p_pick_false rfl rfl) ?_; refine GL.mv_ rfl rfl ?_; refine GL.pass (s := 118) rfl rfl rfl ?_; refine GL.pure rfl (p_pick_false rfl rfl) ?_; refine GL.mv_ rfl rfl ?_
      refine GL.pass (s := 121) rfl rfl rfl ?_; refine GL.pure rfl (p_pick_false rfl rfl) ?_; refine GL.mv_ rfl rfl ?_
      iterate 5 refine GL.pass (s := 124) rfl rfl rfl ?_
      refine GL.pure rfl (p_pick_false rfl rfl) ?_; refine GL.mv_ rfl rfl ?_
      iterate 5 refine GL.pass (s := 131) rfl rfl rfl ?_
      refine GL.pure rfl (p_pick_false rfl rfl) ?_; refine GL.mv_ rfl rfl ?_
      iterate 5 refine GL.pass (s := 138) rfl rfl rfl ?_
      refine GL.pure rfl (p_pick_false rfl rfl) ?_; refine GL.as_ rfl rfl ?_; refine GL.nl_ ?_; refine GC.ret ?_
      refine fun a w h => Fin.back (rs := [.tmp 4]) (vs := [_]) (is := []) (js := []) rfl ⟨rfl, trivial⟩ rfl rfl ?_ h
      clear h
      first | (refine ⟨congrArg Value.bool (decide_eq_true ?_).symm, rfl, rfl⟩; simp_all [ms_ext, gr_ext, rs_ext]; done) | (refine ⟨congrArg Value.bool (decide_eq_false ?_).symm, rfl, rfl⟩; intro e; subst e; simp_all; done) | (refine ⟨congrArg Value.bool ?_, rfl, rfl⟩; rw [Bool.eq_iff_iff]; simp_all [ms_ext, gr_ext, rs_ext]; done)
end Go.Proofs.YtdhdmbmknpjhbaaGreat
namespace Go.Proofs.YtdhdmbmknpjhbaaGreat
open Go Go.Sx Go.Proofs
theorem mnum_ct (n : Int) : Ct Tryz.prog 144 [.int .i64 n] [] [] (fun v G Q => v = .bool (isNum n) ∧ G = [] ∧ Q = []) := by
 refine Ct.intro Tryz.func144 rfl rfl rfl (fun c hc => ?_)
 refine GC.sr_ ?_; refine GL.as_ rfl rfl ?_; refine GL.nl_ ?_; refine GC.sr_ ?_; refine GL.mv_ rfl rfl ?_; refine GL.pure rfl (p_geq rfl rfl) ?_; refine GL.mv_ rfl rfl ?_; refine GL.split (i := 5) rfl (fun h1 => ?_) (fun h1 => ?_)
 ·try simp only [tst_] at h1
  refine GL.pureG (s := 5) rfl rfl rfl (p_move rfl) ?_; refine GL.pureG (s := 5) rfl rfl rfl (p_leq rfl rfl) ?_; refine GL.pure rfl (p_pick_true rfl rfl) ?_; refine GL.as_ rfl rfl ?_; refine GL.nl_ ?_; refine GC.ret ?_
  refine fun a w h => Fin.back (rs := [.tmp 2]) (vs := [_]) (is := []) (js := []) rfl ⟨rfl, trivial⟩ rfl rfl ?_ h
  clear h
  refine ⟨congrArg Value.bool ?_, rfl, rfl⟩; simp [isNum]; omega
 ·try simp only [tst_] at h1
  iterate 2 refine GL.pass (s := 5) rfl rfl rfl ?_
  refine GL.pure rfl (p_pick_false rfl rfl) ?_; refine GL.as_ rfl rfl ?_; refine GL.nl_ ?_; refine GC.ret ?_
  refine fun a w h => Fin.back (rs := [.tmp 2]) (vs := [_]) (is := []) (js := []) rfl ⟨rfl, trivial⟩ rfl rfl ?_ h
  clear h
  refine ⟨congrArg Value.bool ?_, rfl, rfl⟩; simp [isNum]; omega
theorem who_ct (n : Int) : Ct Tryz.prog 23 [.int .i64 n] [] [] (fun v G Q => v = .bool (decide (who n)) ∧ G = [] ∧ Q = []) := by
 refine Ct.intro Tryz.func23 rfl rfl rfl (fun c hc => ?_)
 refine GC.sr_ ?_; refine GL.as_ rfl rfl ?_; refine GL.nl_ ?_; refine GC.sr_ ?_; refine GL.mv_ rfl rfl ?_; refine GL.pure rfl (p_geq rfl rfl) ?_; refine GL.mv_ rfl rfl ?_; refine GL.split (i := 5) rfl (fun h1 => ?_) (fun h1 => ?_)
 ·try simp only [tst_] at h1
  refine GL.pureG (s := 5) rfl rfl rfl (p_move rfl) ?_; refine GL.pureG (s := 5) rfl rfl rfl (p_lss rfl rfl) ?_; refine GL.pure rfl (p_pick_true rfl rfl) ?_; refine GL.as_ rfl rfl ?_; refine GL.nl_ ?_; refine GC.ret ?_
  refine fun a w h => Fin.back (rs := [.tmp 2]) (vs := [_]) (is := []) (js := []) rfl ⟨rfl, trivial⟩ rfl rfl ?_ h
  clear h
  refine ⟨congrArg Value.bool ?_, rfl, rfl⟩; first | exact (decide_eq_true (by unfold who; omega)).symm | exact (decide_eq_false (by unfold who; omega)).symm | exact decide_eq_decide.2 (by unfold who; omega)
 ·try simp only [tst_] at h1
  iterate 2 refine GL.pass (s := 5) rfl rfl rfl ?_
  refine GL.pure rfl (p_pick_false rfl rfl) ?_; refine GL.as_ rfl rfl ?_; refine GL.nl_ ?_; refine GC.ret ?_
  refine fun a w h => Fin.back (rs := [.tmp 2]) (vs := [_]) (is := []) (js := []) rfl ⟨rfl, trivial⟩ rfl rfl ?_ h
  clear h
  refine ⟨congrArg Value.bool ?_, rfl, rfl⟩; first | exact (decide_eq_true (by unfold who; omega)).symm | exact (decide_eq_false (by unfold who; omega)).symm | exact decide_eq_decide.2 (by unfold who; omega)
theorem rwho_ct (n : Int) : Ct Tryz.prog 25 [.int .i64 n] [] [] (fun v G Q => v = .bool (decide (who n)) ∧ G = [] ∧ Q = []) := by
 refine Ct.intro Tryz.func25 rfl rfl rfl (fun c hc => ?_)
 refine GC.sr_ ?_; refine GL.as_ rfl rfl ?_; refine GL.nl_ ?_; refine GC.sr_ ?_; refine GL.mv_ rfl rfl ?_; refine GL.pure rfl (p_geq rfl rfl) ?_; refine GL.mv_ rfl rfl ?_; refine GL.split (i := 5) rfl (fun h1 => ?_) (fun h1 => ?_)
 ·try simp only [tst_] at h1
  refine GL.pureG (s := 5) rfl rfl rfl (p_move rfl) ?_; refine GL.pureG (s := 5) rfl rfl rfl (p_lss rfl rfl) ?_; refine GL.pure rfl (p_pick_true rfl rfl) ?_; refine GL.as_ rfl rfl ?_; refine GL.nl_ ?_; refine GC.ret ?_
  refine fun a w h => Fin.back (rs := [.tmp 2]) (vs := [_]) (is := []) (js := []) rfl ⟨rfl, trivial⟩ rfl rfl ?_ h
  clear h
  refine ⟨congrArg Value.bool ?_, rfl, rfl⟩; first | exact (decide_eq_true (by unfold who; omega)).symm | exact (decide_eq_false (by unfold who; omega)).symm | exact decide_eq_decide.2 (by unfold who; omega)
 ·try simp only [tst_] at h1
  iterate 2 refine GL.pass (s := 5) rfl rfl rfl ?_
  refine GL.pure rfl (p_pick_false rfl rfl) ?_; refine GL.as_ rfl rfl ?_; refine GL.nl_ ?_; refine GC.ret ?_
  refine fun a w h => Fin.back (rs := [.tmp 2]) (vs := [_]) (is := []) (js := []) rfl ⟨rfl, trivial⟩ rfl rfl ?_ h
  clear h
  refine ⟨congrArg Value.bool ?_, rfl, rfl⟩; first | exact (decide_eq_true (by unfold who; omega)).symm | exact (decide_eq_false (by unfold who; omega)).symm | exact decide_eq_decide.2 (by unfold who; omega)
theorem chk1_ct (n : Int) : Ct Tryz.prog 22 [.int .i64 n] [] [] (fun v G Q => v = .bool (decide (¬ in62 n)) ∧ G = [] ∧ Q = []) := by
 refine Ct.intro Tryz.func22 rfl rfl rfl (fun c hc => ?_)
 refine GC.sr_ ?_; refine GL.as_ rfl rfl ?_; refine GL.nl_ ?_; refine GC.sr_ ?_; refine GL.mv_ rfl rfl ?_; refine GL.pure rfl (p_lss rfl rfl) ?_; refine GL.mv_ rfl rfl ?_; refine GL.split (i := 5) rfl (fun h1 => ?_) (fun h1 => ?_)
 ·try simp only [tst_] at h1
  iterate 2 refine GL.pass (s := 5) rfl rfl rfl ?_
  refine GL.pure rfl (p_pick_true rfl rfl) ?_; refine GL.as_ rfl rfl ?_; refine GL.nl_ ?_; refine GC.ret ?_
  refine fun a w h => Fin.back (rs := [.tmp 2]) (vs := [_]) (is := []) (js := []) rfl ⟨rfl, trivial⟩ rfl rfl ?_ h
  clear h
  refine ⟨congrArg Value.bool ?_, rfl, rfl⟩; first | exact (decide_eq_true (by unfold in62; omega)).symm | exact (decide_eq_false (by unfold in62; omega)).symm | exact decide_eq_decide.2 (by unfold in62; omega)
 ·try simp only [tst_] at h1
  refine GL.pureG (s := 5) rfl rfl rfl (p_move rfl) ?_; refine GL.pureG (s := 5) rfl rfl rfl (p_gtr rfl rfl) ?_; refine GL.pure rfl (p_pick_false rfl rfl) ?_; refine GL.as_ rfl rfl ?_; refine GL.nl_ ?_; refine GC.ret ?_
  refine fun a w h => Fin.back (rs := [.tmp 2]) (vs := [_]) (is := []) (js := []) rfl ⟨rfl, trivial⟩ rfl rfl ?_ h
  clear h
  refine ⟨congrArg Value.bool ?_, rfl, rfl⟩; first | exact (decide_eq_true (by unfold in62; omega)).symm | exact (decide_eq_false (by unfold in62; omega)).symm | exact decide_eq_decide.2 (by unfold in62; omega)
theorem zgrp_ct (g : Grp) (A : Option Addr) (cp : Nat) : Ct Tryz.prog 31 [grpV g.epoch A g.members.length cp] [] [] (fun v G Q => v = .bool (decide (g = zgr)) ∧ G = [] ∧ Q = []) := by
 refine Ct.intro Tryz.func31 rfl rfl rfl (fun c hc => ?_)
 refine GC.sr_ ?_; refine GL.step rfl (t_box rfl rfl rfl) (GL.ex fun b_t1 => ?_); refine GL.as_ rfl rfl ?_; refine GL.nl_ ?_; refine GC.sr_ ?_; refine GL.pure rfl (p_fieldAddr fo_33_0 rfl) ?_; refine GL.step rfl (t_mem rfl (m_load (i := 0) rfl rfl ag_3 rfl)) ?_
 refine GL.pure rfl (p_eql rfl rfl) ?_; refine GL.mv_ rfl rfl ?_; refine GL.split (i := 6) rfl (fun h1 => ?_) (fun h1 => ?_)
 ·try simp only [tst_] at h1
  refine GL.pureG (s := 6) rfl rfl rfl (p_fieldAddr fo_33_1 rfl) ?_; refine GL.stepG rfl (s := 6) rfl rfl (t_mem rfl (m_load (i := 0) rfl rfl ag_31 rfl)) ?_; refine GL.pureG (s := 6) rfl rfl rfl (p_len Tryz.underlying31 rfl) ?_
  refine GL.pureG (s := 6) rfl rfl rfl (p_eql rfl rfl) ?_; refine GL.pure rfl (p_pick_true rfl rfl) ?_; refine GL.as_ rfl rfl ?_; refine GL.nl_ ?_; refine GC.ret ?_
  refine fun a w h => Fin.back (rs := [.tmp 2]) (vs := [_]) (is := []) (js := []) rfl ⟨rfl, trivial⟩ rfl rfl ?_ h
  clear h
  refine ⟨congrArg Value.bool ?_, rfl, rfl⟩; simp [gr_ext, zgr, *]
 ·try simp only [tst_] at h1
  iterate 4 refine GL.pass (s := 6) rfl rfl rfl ?_
  refine GL.pure rfl (p_pick_false rfl rfl) ?_; refine GL.as_ rfl rfl ?_; refine GL.nl_ ?_; refine GC.ret ?_
  refine fun a w h => Fin.back (rs := [.tmp 2]) (vs := [_]) (is := []) (js := []) rfl ⟨rfl, trivial⟩ rfl rfl ?_ h
  clear h
  refine ⟨congrArg Value.bool ?_, rfl, rfl⟩; simp [gr_ext, zgr, *]
theorem zres_ct (g : Res) (A : Option Addr) (cp : Nat) : Ct Tryz.prog 29 [.agg #[.int .u8 g.code, .slice A g.data.length cp]] [] [] (fun v G Q => v = .bool (decide (g = rz)) ∧ G = [] ∧ Q = []) := by
 refine Ct.intro Tryz.func29 rfl rfl rfl (fun c hc => ?_)
 refine GC.sr_ ?_; refine GL.step rfl (t_box rfl rfl rfl) (GL.ex fun b_t1 => ?_); refine GL.as_ rfl rfl ?_; refine GL.nl_ ?_; refine GC.sr_ ?_; refine GL.pure rfl (p_fieldAddr fo_30_0 rfl) ?_; refine GL.step rfl (t_mem rfl (m_load (i := 0) rfl rfl ag_28 rfl)) ?_
 refine GL.pure rfl (p_eql rfl rfl) ?_; refine GL.mv_ rfl rfl ?_; refine GL.split (i := 6) rfl (fun h1 => ?_) (fun h1 => ?_)
 ·try simp only [tst_] at h1
  refine GL.pureG (s := 6) rfl rfl rfl (p_fieldAddr fo_30_1 rfl) ?_; refine GL.stepG rfl (s := 6) rfl rfl (t_mem rfl (m_load (i := 0) rfl rfl ag_25 rfl)) ?_; refine GL.pureG (s := 6) rfl rfl rfl (p_len Tryz.underlying25 rfl) ?_
  refine GL.pureG (s := 6) rfl rfl rfl (p_eql rfl rfl) ?_; refine GL.pure rfl (p_pick_true rfl rfl) ?_; refine GL.as_ rfl rfl ?_; refine GL.nl_ ?_; refine GC.ret ?_
  refine fun a w h => Fin.back (rs := [.tmp 2]) (vs := [_]) (is := []) (js := []) rfl ⟨rfl, trivial⟩ rfl rfl ?_ h
  clear h
  refine ⟨congrArg Value.bool ?_, rfl, rfl⟩; simp [rs_ext, rz, *]
 ·try simp only [tst_] at h1
  iterate 4 refine GL.pass (s := 6) rfl rfl rfl ?_
  refine GL.pure rfl (p_pick_false rfl rfl) ?_; refine GL.as_ rfl rfl ?_; refine GL.nl_ ?_; refine GC.ret ?_
  refine fun a w h => Fin.back (rs := [.tmp 2]) (vs := [_]) (is := []) (js := []) rfl ⟨rfl, trivial⟩ rfl rfl ?_ h
  clear h
  refine ⟨congrArg Value.bool ?_, rfl, rfl⟩; simp [rs_ext, rz, *]
theorem bareO_ct (o : OpD) (A : Option Addr) (cp : Nat) (B : Option Addr) (cq : Nat) : Ct Tryz.prog 113 [opD o A cp B cq] [] [Pers.row Kd.u8 A o.data, Pers.row Kd.u8 B o.old] (fun u G Q => u = .bool (decide (o = zop)) ∧ G = [] ∧ Q = []) := by
 refine Ct.intro Tryz.func113 rfl rfl rfl (fun c hc => ?_)
 refine GC.sr_ ?_; refine GL.step rfl (t_box rfl rfl rfl) (GL.ex fun b_t1 => ?_); refine GL.as_ rfl rfl ?_; refine GL.nl_ ?_; refine GC.sr_ ?_; refine GL.step rfl (t_mem rfl (m_loadN (i := 0) rfl rfl ag_27 (vs := [_, _, _, _, _]) sz_27 ⟨rfl, rfl, rfl, rfl, rfl, trivial⟩)) ?_
 refine GL.pure rfl (p_build ze_27 of_27 rfl rfl) ?_; refine GL.step rfl (t_call rfl fn_27 rfl (is := []) (js := [0, 1]) rfl rfl (by exact rbzero_ct o _ _ _ _)) (GL.ret ?_)
 rintro _ _ _ ⟨rfl, rfl, rfl⟩
 refine GL.as_ rfl rfl ?_; refine GL.nl_ ?_; refine GC.ret ?_
 refine fun a w h => Fin.back (rs := [.tmp 2]) (vs := [_]) (is := []) (js := []) rfl ⟨rfl, trivial⟩ rfl rfl ?_ h
 clear h
 exact ⟨rfl, rfl, rfl⟩
def entNums (e : Entry) : Prop := isNum e.num = true ∧ isNum e.client = true ∧ isNum e.serial = true ∧ in62 e.view
instance (e : Entry) : Decidable (entNums e) := by unfold entNums; infer_instance
def entRest (e : Entry) : Prop := (e.kind = 1 ∧ formD e.op ∧ e.grp.epoch = 0 ∧ e.grp.members.length = 0) ∨ (e.kind = 2 ∧ e.op = zop ∧ groupOk e.grp.epoch e.grp.members = true ∧ e.view < 4611686018427387904)
instance (e : Entry) : Decidable (entRest e) := by unfold entRest; infer_instance
theorem entE_eq (e : Entry) : entE e = if entNums e ∧ entRest e then 0 else 71 := by
  unfold entE entOk entNums entRest
  congr 1
  simp only [eq_iff_iff, and_assoc]
theorem entE_yes {e : Entry} (h : entNums e ∧ entRest e) : entE e = 0 := by rw [entE_eq, if_pos h]
theorem entE_no {e : Entry} (h : ¬ (entNums e ∧ entRest e)) : entE e = 71 := by rw [entE_eq, if_neg h]
theorem ment_ct (e : Entry) (A : Option Addr) (cp : Nat) (B : Option Addr) (cq : Nat) (C : Option Addr) (cr : Nat) (hl : e.grp.members.length ≤ 140737488355328) : Ct Tryz.prog 112 [entV e A cp B cq C cr] [] (entQ e A B C) (fun u G Q => u = .int .i64 (entE e) ∧ G = [] ∧ Q = []) := by
 refine Ct.intro Tryz.func112 rfl rfl rfl (fun c hc => ?_)
 refine GC.sr_ ?_; refine GL.step rfl (t_box rfl rfl rfl) (GL.ex fun b_t1 => ?_); refine GL.as_ rfl rfl ?_; refine GL.nl_ ?_; refine GC.joinK1 (ks := [1, 2]) (is := [0]) (js := [0, 1, 2]) (fun (u_ : Unit) => True) (fun (u_ : Unit) => [(3, .bool (decide (entNums e)))]) (fun (u_ : Unit) => []) (fun (u_ : Unit) => []) rfl rfl rfl ?_ ?_
 ·refine GC.region ?_; refine GL.pure rfl (p_fieldAddr fo_64_1 rfl) ?_; refine GL.step rfl (t_mem rfl (m_load (i := 0) rfl rfl ag_3 rfl)) ?_; refine GL.step rfl (t_call rfl fn_144 rfl (is := []) (js := []) rfl rfl (by exact mnum_ct _)) (GL.ret ?_)
  rintro _ _ _ ⟨rfl, rfl, rfl⟩
  refine GL.mv_ rfl rfl ?_; refine GL.split (i := 7) rfl (fun h1 => ?_) (fun h1 => ?_)
  ·try simp only [tst_, formE_iff, grpE_iff] at h1
   refine GL.pureG (s := 7) rfl rfl rfl (p_fieldAddr fo_64_3 rfl) ?_; refine GL.stepG rfl (s := 7) rfl rfl (t_mem rfl (m_load (i := 0) rfl rfl ag_3 rfl)) ?_; refine GL.stepG rfl (s := 7) rfl rfl (t_call rfl fn_144 rfl (is := []) (js := []) rfl rfl (by exact mnum_ct _)) (GL.ret ?_)
   rintro _ _ _ ⟨rfl, rfl, rfl⟩
   refine GL.pure rfl (p_pick_true rfl rfl) ?_; refine GL.mv_ rfl rfl ?_; refine GL.split (i := 12) rfl (fun h2 => ?_) (fun h2 => ?_)
   ·try simp only [tst_, formE_iff, grpE_iff] at h2
    refine GL.pureG (s := 12) rfl rfl rfl (p_fieldAddr fo_64_4 rfl) ?_; refine GL.stepG rfl (s := 12) rfl rfl (t_mem rfl (m_load (i := 0) rfl rfl ag_3 rfl)) ?_; refine GL.stepG rfl (s := 12) rfl rfl (t_call rfl fn_144 rfl (is := []) (js := []) rfl rfl (by exact mnum_ct _)) (GL.ret ?_)
    rintro _ _ _ ⟨rfl, rfl, rfl⟩
    refine GL.pure rfl (p_pick_true rfl rfl) ?_; refine GL.mv_ rfl rfl ?_; refine GL.split (i := 17) rfl (fun h3 => ?_) (fun h3 => ?_)
    ·try simp only [tst_, formE_iff, grpE_iff] at h3
     refine GL.pureG (s := 17) rfl rfl rfl (p_fieldAddr fo_64_2 rfl) ?_; refine GL.stepG rfl (s := 17) rfl rfl (t_mem rfl (m_load (i := 0) rfl rfl ag_3 rfl)) ?_; refine GL.pureG (s := 17) rfl rfl rfl (p_geq rfl rfl) ?_; refine GL.pure rfl (p_pick_true rfl rfl) ?_
     refine GL.mv_ rfl rfl ?_; refine GL.split (i := 22) rfl (fun h4 => ?_) (fun h4 => ?_)
     ·try simp only [tst_, formE_iff, grpE_iff] at h4
      refine GL.pureG (s := 22) rfl rfl rfl (p_fieldAddr fo_64_2 rfl) ?_; refine GL.stepG rfl (s := 22) rfl rfl (t_mem rfl (m_load (i := 0) rfl rfl ag_3 rfl)) ?_; refine GL.pureG (s := 22) rfl rfl rfl (p_leq rfl rfl) ?_; refine GL.pure rfl (p_pick_true rfl rfl) ?_
      refine GL.as_ rfl rfl ?_; refine GL.split (i := 3) rfl (fun h5 => ?_) (fun h5 => ?_)
      ·try simp only [tst_, formE_iff, grpE_iff] at h5
       refine GL.nil ?_
       exact fun a w h => ⟨(()), trivial, by rw [decide_eq_true (show entNums e by simp only [entNums, in62]; simp_all; try omega)]; exact h.cut (is := [0]) (js := [0, 1, 2]) ⟨rfl, rfl, rfl, trivial⟩ rfl rfl⟩
      ·try simp only [tst_, formE_iff, grpE_iff] at h5
       refine GL.nil ?_
       exact fun a w h => ⟨(()), trivial, by rw [decide_eq_false (show ¬ (entNums e) by simp only [entNums, in62]; simp_all; try omega)]; exact h.cut (is := [0]) (js := [0, 1, 2]) ⟨rfl, rfl, rfl, trivial⟩ rfl rfl⟩
     ·try simp only [tst_, formE_iff, grpE_iff] at h4
      iterate 3 refine GL.pass (s := 22) rfl rfl rfl ?_
      refine GL.pure rfl (p_pick_false rfl rfl) ?_; refine GL.as_ rfl rfl ?_; refine GL.nil ?_
      exact fun a w h => ⟨(()), trivial, by rw [decide_eq_false (show ¬ (entNums e) by simp only [entNums, in62]; simp_all; try omega)]; exact h.cut (is := [0]) (js := [0, 1, 2]) ⟨rfl, rfl, rfl, trivial⟩ rfl rfl⟩
    ·try simp only [tst_, formE_iff, grpE_iff] at h3
     iterate 3 refine GL.pass (s := 17) rfl rfl rfl ?_
     refine GL.pure rfl (p_pick_false rfl rfl) ?_; refine GL.mv_ rfl rfl ?_
     iterate 3 refine GL.pass (s := 22) rfl rfl rfl ?_
     refine GL.pure rfl (p_pick_false rfl rfl) ?_; refine GL.as_ rfl rfl ?_; refine GL.nil ?_
     exact fun a w h => ⟨(()), trivial, by rw [decide_eq_false (show ¬ (entNums e) by simp only [entNums, in62]; simp_all; try omega)]; exact h.cut (is := [0]) (js := [0, 1, 2]) ⟨rfl, rfl, rfl, trivial⟩ rfl rfl⟩
   ·try simp only [tst_, formE_iff, grpE_iff] at h2
    iterate 3 refine GL.pass (s := 12) rfl rfl rfl ?_
    refine GL.pure rfl (p_pick_false rfl rfl) ?_; refine GL.mv_ rfl rfl ?_
    iterate 3 refine GL.pass (s := 17) rfl rfl rfl ?_
    refine GL.pure rfl (p_pick_false rfl rfl) ?_; refine GL.mv_ rfl rfl ?_
    iterate 3 refine GL.pass (s := 22) rfl rfl rfl ?_
    refine GL.pure rfl (p_pick_false rfl rfl) ?_; refine GL.as_ rfl rfl ?_; refine GL.nil ?_
    exact fun a w h => ⟨(()), trivial, by rw [decide_eq_false (show ¬ (entNums e) by simp only [entNums, in62]; simp_all; try omega)]; exact h.cut (is := [0]) (js := [0, 1, 2]) ⟨rfl, rfl, rfl, trivial⟩ rfl rfl⟩
  ·try simp only [tst_, formE_iff, grpE_iff] at h1
   iterate 3 refine GL.pass (s := 7) rfl rfl rfl ?_
   refine GL.pure rfl (p_pick_false rfl rfl) ?_; refine GL.mv_ rfl rfl ?_
   iterate 3 refine GL.pass (s := 12) rfl rfl rfl ?_
   refine GL.pure rfl (p_pick_false rfl rfl) ?_; refine GL.mv_ rfl rfl ?_
   iterate 3 refine GL.pass (s := 17) rfl rfl rfl ?_
   refine GL.pure rfl (p_pick_false rfl rfl) ?_; refine GL.mv_ rfl rfl ?_
   iterate 3 refine GL.pass (s := 22) rfl rfl rfl ?_
   refine GL.pure rfl (p_pick_false rfl rfl) ?_; refine GL.as_ rfl rfl ?_; refine GL.nil ?_
   exact fun a w h => ⟨(()), trivial, by rw [decide_eq_false (show ¬ (entNums e) by simp only [entNums, in62]; simp_all; try omega)]; exact h.cut (is := [0]) (js := [0, 1, 2]) ⟨rfl, rfl, rfl, trivial⟩ rfl rfl⟩
 ·intro u_ hj1
  try dsimp only [List.cons_append, List.nil_append] at hj1 ⊢
  refine GC.joinK1 (ks := [2]) (is := [0]) (js := [0, 1, 2]) (fun (u_ : Unit) => True) (fun (u_ : Unit) => [(3, .bool (decide (entNums e ∧ entRest e)))]) (fun (u_ : Unit) => []) (fun (u_ : Unit) => []) rfl rfl rfl ?_ ?_
  ·refine GC.sr_ ?_; refine GL.pure rfl (p_fieldAddr fo_64_0 rfl) ?_; refine GL.step rfl (t_mem rfl (m_load (i := 0) rfl rfl ag_62 rfl)) ?_; refine GL.nl_ ?_; refine GC.block ?_; refine GC.sr_ ?_; refine GL.pure rfl (p_eql rfl rfl) ?_
   refine GL.as_ rfl rfl ?_; refine GL.nl_ ?_; refine GC.cond rfl (fun h6 => ?_) (fun h6 => ?_)
   ·try simp only [tst_, formE_iff, grpE_iff] at h6
    refine GC.region ?_
    iterate 2 refine GL.mv_ rfl rfl ?_
    refine GL.split (i := 32) rfl (fun h7 => ?_) (fun h7 => ?_)
    ·try simp only [tst_, formE_iff, grpE_iff] at h7
     refine GL.pureG (s := 32) rfl rfl rfl (p_fieldAddr fo_64_5 rfl) ?_; refine GL.stepG rfl (s := 32) rfl rfl (t_mem rfl (m_loadN (i := 0) rfl rfl ag_27 (vs := [_, _, _, _, _]) sz_27 ⟨rfl, rfl, rfl, rfl, rfl, trivial⟩)) ?_
     refine GL.stepG rfl (s := 32) rfl rfl (t_call rfl fn_60 rfl (is := []) (js := []) rfl rfl (by exact form_ct e.op.kind e.op.at_ e.op.n _ e.op.data.length _ _ e.op.old.length _)) (GL.ret ?_)
     rintro _ _ _ ⟨rfl, rfl, rfl⟩
     refine GL.pureG (s := 32) rfl rfl rfl (p_eql rfl rfl) ?_; refine GL.pure rfl (p_pick_true rfl rfl) ?_; refine GL.mv_ rfl rfl ?_; refine GL.split (i := 38) rfl (fun h8 => ?_) (fun h8 => ?_)
     ·try simp only [tst_, formE_iff, grpE_iff] at h8
      refine GL.pureG (s := 38) rfl rfl rfl (p_fieldAddr fo_64_6 rfl) ?_; refine GL.pureG (s := 38) rfl rfl rfl (p_fieldAddr fo_33_0 rfl) ?_; refine GL.stepG rfl (s := 38) rfl rfl (t_mem rfl (m_load (i := 0) rfl rfl ag_3 rfl)) ?_
      refine GL.pureG (s := 38) rfl rfl rfl (p_eql rfl rfl) ?_; refine GL.pure rfl (p_pick_true rfl rfl) ?_; refine GL.mv_ rfl rfl ?_; refine GL.split (i := 44) rfl (fun h9 => ?_) (fun h9 => ?_)
      ·try simp only [tst_, formE_iff, grpE_iff] at h9
       refine GL.pureG (s := 44) rfl rfl rfl (p_fieldAddr fo_64_6 rfl) ?_; refine GL.pureG (s := 44) rfl rfl rfl (p_fieldAddr fo_33_1 rfl) ?_; refine GL.stepG rfl (s := 44) rfl rfl (t_mem rfl (m_load (i := 0) rfl rfl ag_31 rfl)) ?_
       refine GL.pureG (s := 44) rfl rfl rfl (p_len Tryz.underlying31 rfl) ?_; refine GL.pureG (s := 44) rfl rfl rfl (p_eql rfl rfl) ?_; refine GL.pure rfl (p_pick_true rfl rfl) ?_; refine GL.as_ rfl rfl ?_; refine GL.split (i := 3) rfl (fun h10 => ?_) (fun h10 => ?_)
       ·try simp only [tst_, formE_iff, grpE_iff] at h10
        refine GL.nil ?_
        exact fun a w h => ⟨(()), trivial, by rw [decide_eq_true (show entNums e ∧ entRest e by simp only [entRest, formD]; simp_all; try omega)]; exact h.cut (is := [0]) (js := [0, 1, 2]) ⟨rfl, rfl, trivial⟩ rfl rfl⟩
       ·try simp only [tst_, formE_iff, grpE_iff] at h10
        refine GL.nil ?_
        exact fun a w h => ⟨(()), trivial, by rw [decide_eq_false (show ¬ (entNums e ∧ entRest e) by simp only [entRest, formD]; simp_all; try omega)]; exact h.cut (is := [0]) (js := [0, 1, 2]) ⟨rfl, rfl, trivial⟩ rfl rfl⟩
      ·try simp only [tst_, formE_iff, grpE_iff] at h9
       iterate 5 refine GL.pass (s := 44) rfl rfl rfl ?_
       refine GL.pure rfl (p_pick_false rfl rfl) ?_; refine GL.as_ rfl rfl ?_; refine GL.nil ?_
       exact fun a w h => ⟨(()), trivial, by rw [decide_eq_false (show ¬ (entNums e ∧ entRest e) by simp only [entRest, formD]; simp_all; try omega)]; exact h.cut (is := [0]) (js := [0, 1, 2]) ⟨rfl, rfl, trivial⟩ rfl rfl⟩
     ·try simp only [tst_, formE_iff, grpE_iff] at h8
      iterate 4 refine GL.pass (s := 38) rfl rfl rfl ?_
      refine GL.pure rfl (p_pick_false rfl rfl) ?_; refine GL.mv_ rfl rfl ?_
      iterate 5 refine GL.pass (s := 44) rfl rfl rfl ?_
      refine GL.pure rfl (p_pick_false rfl rfl) ?_; refine GL.as_ rfl rfl ?_; refine GL.nil ?_
      exact fun a w h => ⟨(()), trivial, by rw [decide_eq_false (show ¬ (entNums e ∧ entRest e) by simp only [entRest, formD]; simp_all; try omega)]; exact h.cut (is := [0]) (js := [0, 1, 2]) ⟨rfl, rfl, trivial⟩ rfl rfl⟩
    ·try simp only [tst_, formE_iff, grpE_iff] at h7
     iterate 4 refine GL.pass (s := 32) rfl rfl rfl ?_
     refine GL.pure rfl (p_pick_false rfl rfl) ?_; refine GL.mv_ rfl rfl ?_
     iterate 4 refine GL.pass (s := 38) rfl rfl rfl ?_
     refine GL.pure rfl (p_pick_false rfl rfl) ?_; refine GL.mv_ rfl rfl ?_
     iterate 5 refine GL.pass (s := 44) rfl rfl rfl ?_
     refine GL.pure rfl (p_pick_false rfl rfl) ?_; refine GL.as_ rfl rfl ?_; refine GL.nil ?_
     exact fun a w h => ⟨(()), trivial, by rw [decide_eq_false (show ¬ (entNums e ∧ entRest e) by simp only [entRest, formD]; simp_all; try omega)]; exact h.cut (is := [0]) (js := [0, 1, 2]) ⟨rfl, rfl, trivial⟩ rfl rfl⟩
   ·try simp only [tst_, formE_iff, grpE_iff] at h6
    refine GC.sr_ ?_; refine GL.pure rfl (p_eql rfl rfl) ?_; refine GL.as_ rfl rfl ?_; refine GL.nl_ ?_; refine GC.cond rfl (fun h11 => ?_) (fun h11 => ?_)
    ·try simp only [tst_, formE_iff, grpE_iff] at h11
     refine GC.region ?_
     iterate 2 refine GL.mv_ rfl rfl ?_
     refine GL.split (i := 54) rfl (fun h12 => ?_) (fun h12 => ?_)
     ·try simp only [tst_, formE_iff, grpE_iff] at h12
      refine GL.pureG (s := 54) rfl rfl rfl (p_fieldAddr fo_64_5 rfl) ?_; refine GL.stepG rfl (s := 54) rfl rfl (t_mem rfl (m_loadN (i := 0) rfl rfl ag_27 (vs := [_, _, _, _, _]) sz_27 ⟨rfl, rfl, rfl, rfl, rfl, trivial⟩)) ?_
      refine GL.pureG (s := 54) rfl rfl rfl (p_build ze_27 of_27 rfl rfl) ?_; refine GL.stepG rfl (s := 54) rfl rfl (t_call rfl fn_37 rfl (is := []) (js := [0, 1]) rfl rfl (by exact bzero_ct e.op _ _ _ _)) (GL.ret ?_)
      rintro _ _ _ ⟨rfl, rfl, rfl⟩
      refine GL.pure rfl (p_pick_true rfl rfl) ?_; refine GL.mv_ rfl rfl ?_; refine GL.split (i := 60) rfl (fun h13 => ?_) (fun h13 => ?_)
      ·try simp only [tst_, formE_iff, grpE_iff] at h13
       refine GL.pureG (s := 60) rfl rfl rfl (p_fieldAddr fo_64_6 rfl) ?_; refine GL.stepG rfl (s := 60) rfl rfl (t_mem rfl (m_loadN (i := 0) rfl rfl ag_33 (vs := [_, _]) sz_33 ⟨rfl, rfl, trivial⟩)) ?_; refine GL.stepG rfl (s := 60) rfl rfl (t_call rfl fn_62 rfl (is := []) (js := [2]) rfl rfl (by exact mgroup_ct e.grp.epoch _ e.grp.members _ (by first | assumption | omega))) (GL.ret ?_)
       rintro _ _ _ ⟨rfl, rfl, rfl⟩
       refine GL.pureG (s := 60) rfl rfl rfl (p_eql rfl rfl) ?_; refine GL.pure rfl (p_pick_true rfl rfl) ?_; refine GL.mv_ rfl rfl ?_; refine GL.split (i := 66) rfl (fun h14 => ?_) (fun h14 => ?_)
       ·try simp only [tst_, formE_iff, grpE_iff] at h14
        refine GL.pureG (s := 66) rfl rfl rfl (p_fieldAddr fo_64_2 rfl) ?_; refine GL.stepG rfl (s := 66) rfl rfl (t_mem rfl (m_load (i := 0) rfl rfl ag_3 rfl)) ?_; refine GL.pureG (s := 66) rfl rfl rfl (p_lss rfl rfl) ?_
        refine GL.pure rfl (p_pick_true rfl rfl) ?_; refine GL.as_ rfl rfl ?_; refine GL.split (i := 3) rfl (fun h15 => ?_) (fun h15 => ?_)
        ·try simp only [tst_, formE_iff, grpE_iff] at h15
         refine GL.nil ?_
         exact fun a w h => ⟨(()), trivial, by rw [decide_eq_true (show entNums e ∧ entRest e by simp only [entRest, formD]; simp_all; try omega)]; exact h.cut (is := [0]) (js := [0, 1, 2]) ⟨rfl, rfl, trivial⟩ rfl rfl⟩
        ·try simp only [tst_, formE_iff, grpE_iff] at h15
         refine GL.nil ?_
         exact fun a w h => ⟨(()), trivial, by rw [decide_eq_false (show ¬ (entNums e ∧ entRest e) by simp only [entRest, formD]; simp_all; try omega)]; exact h.cut (is := [0]) (js := [0, 1, 2]) ⟨rfl, rfl, trivial⟩ rfl rfl⟩
       ·try simp only [tst_, formE_iff, grpE_iff] at h14
        iterate 3 refine GL.pass (s := 66) rfl rfl rfl ?_
        refine GL.pure rfl (p_pick_false rfl rfl) ?_; refine GL.as_ rfl rfl ?_; refine GL.nil ?_
        exact fun a w h => ⟨(()), trivial, by rw [decide_eq_false (show ¬ (entNums e ∧ entRest e) by simp only [entRest, formD]; simp_all; try omega)]; exact h.cut (is := [0]) (js := [0, 1, 2]) ⟨rfl, rfl, trivial⟩ rfl rfl⟩
      ·try simp only [tst_, formE_iff, grpE_iff] at h13
       iterate 4 refine GL.pass (s := 60) rfl rfl rfl ?_
       refine GL.pure rfl (p_pick_false rfl rfl) ?_; refine GL.mv_ rfl rfl ?_
       iterate 3 refine GL.pass (s := 66) rfl rfl rfl ?_
       refine GL.pure rfl (p_pick_false rfl rfl) ?_; refine GL.as_ rfl rfl ?_; refine GL.nil ?_
       exact fun a w h => ⟨(()), trivial, by rw [decide_eq_false (show ¬ (entNums e ∧ entRest e) by simp only [entRest, formD]; simp_all; try omega)]; exact h.cut (is := [0]) (js := [0, 1, 2]) ⟨rfl, rfl, trivial⟩ rfl rfl⟩
     ·try simp only [tst_, formE_iff, grpE_iff] at h12
      iterate 4 refine GL.pass (s := 54) rfl rfl rfl ?_
      refine GL.pure rfl (p_pick_false rfl rfl) ?_; refine GL.mv_ rfl rfl ?_
      iterate 4 refine GL.pass (s := 60) rfl rfl rfl ?_
      refine GL.pure rfl (p_pick_false rfl rfl) ?_; refine GL.mv_ rfl rfl ?_
      iterate 3 refine GL.pass (s := 66) rfl rfl rfl ?_
      refine GL.pure rfl (p_pick_false rfl rfl) ?_; refine GL.as_ rfl rfl ?_; refine GL.nil ?_
      exact fun a w h => ⟨(()), trivial, by rw [decide_eq_false (show ¬ (entNums e ∧ entRest e) by simp only [entRest, formD]; simp_all; try omega)]; exact h.cut (is := [0]) (js := [0, 1, 2]) ⟨rfl, rfl, trivial⟩ rfl rfl⟩
    ·try simp only [tst_, formE_iff, grpE_iff] at h11
     refine GC.region ?_; refine GL.as_ rfl rfl ?_; refine GL.nil ?_
     exact fun a w h => ⟨(()), trivial, by rw [decide_eq_false (show ¬ (entNums e ∧ entRest e) by simp only [entRest, formD]; simp_all; try omega)]; exact h.cut (is := [0]) (js := [0, 1, 2]) ⟨rfl, rfl, trivial⟩ rfl rfl⟩
  ·intro u_ hj2
   try dsimp only [List.cons_append, List.nil_append] at hj2 ⊢
   refine GC.seq' ?_; refine GC.sr_ ?_; refine GL.mv_ rfl rfl ?_; refine GL.pure rfl (p_not rfl) ?_; refine GL.nl_ ?_; refine GC.cond rfl (fun h16 => ?_) (fun h16 => ?_)
   ·try simp only [tst_, formE_iff, grpE_iff] at h16
    refine GC.sr_ ?_; refine GL.as_ rfl rfl ?_; refine GL.nl_ ?_; refine GC.ret ?_
    refine fun a w h => Fin.back (rs := [.tmp 2]) (vs := [_]) (is := []) (js := []) rfl ⟨rfl, trivial⟩ rfl rfl ?_ h
    clear h
    first | exact ⟨by rw [entE_yes (by assumption)]; rfl, rfl, rfl⟩ | exact ⟨by rw [entE_no (by assumption)]; rfl, rfl, rfl⟩
   ·try simp only [tst_, formE_iff, grpE_iff] at h16
    refine GC.skip (?_ : GC _ _ _ _)
    refine GC.sr_ ?_; refine GL.as_ rfl rfl ?_; refine GL.nl_ ?_; refine GC.ret ?_
    refine fun a w h => Fin.back (rs := [.tmp 2]) (vs := [_]) (is := []) (js := []) rfl ⟨rfl, trivial⟩ rfl rfl ?_ h
    clear h
    first | exact ⟨by rw [entE_yes (by assumption)]; rfl, rfl, rfl⟩ | exact ⟨by rw [entE_no (by assumption)]; rfl, rfl, rfl⟩
end Go.Proofs.YtdhdmbmknpjhbaaGreat
namespace Go.Proofs.YtdhdmbmknpjhbaaGreat
open Go Go.Sx Go.Proofs
theorem isNum_in {n : Int} (h : isNum n = true) : 1 ≤ n ∧ n ≤ 4611686018427387904 := by simp [isNum] at h; exact h
theorem lrow_ct (A : Option Addr) (l : List Entry) (cp : Nat) (hl : l.length ≤ 140737488355328) (hm : ∀ e ∈ l, EntLen e) : Ct Tryz.prog 110 [.slice A l.length cp] [] [Pers.row kEntry A l] (fun u G Q => u = .bool (decide (rowOkE l)) ∧ G = [] ∧ Q = []) := by
 refine Ct.intro Tryz.func110 rfl rfl rfl (fun c hc => ?_)
 refine GC.sr_ ?_; refine GL.as_ rfl rfl ?_; refine GL.nl_ ?_; refine GC.seq' ?_; refine GC.sr_ ?_; refine GL.mv_ rfl rfl ?_; refine GL.pure rfl (p_len Tryz.underlying40 rfl) ?_; refine GL.mv_ rfl rfl ?_; refine GL.nl_ ?_
 refine GC.block ?_; refine GC.loopK1 (ks := [0, 5, 6]) (is := []) (js := [0]) (fun (k : Nat) => k ≤ l.length ∧ ∀ j : Nat, j < k → entOk (gt l (j : Int)) ∧ (0 < j → (gt l (j : Int)).num - 1 = (gt l ((j : Int) - 1)).num)) (fun (k : Nat) => [(7, .int .i64 (k : Int))]) (fun (k : Nat) => []) (fun (k : Nat) => []) (fun (k : Nat) => l.length - k) (0) rfl rfl rfl (fun a w h => ⟨⟨by omega, fun j hj => by omega⟩, h.cutK (is := []) (js := [0]) (ks := [0, 5, 6]) ⟨rfl, trivial⟩ rfl rfl rfl⟩) ?_
 intro k hk
 try dsimp only [List.cons_append, List.nil_append] at hk ⊢
 obtain ⟨hk, hall⟩ := hk
 refine GC.sr_ ?_; refine GL.pure rfl (p_lss rfl rfl) ?_; refine GL.nl_ ?_; refine GC.seq' ?_; refine GC.cond rfl (fun h1 => ?_) (fun h1 => ?_)
 ·try simp only [tst_, entE_iff] at h1
  first
  | (exfalso; omega)
  |(skip
    refine GC.skip (?_ : GC _ _ _ _)
    refine GC.seq' ?_; refine GC.block ?_; refine GC.sr_ ?_; refine GL.mv_ rfl rfl ?_; refine GL.step rfl (t_index (i := 0) rfl rfl rfl rfl Tryz.underlying40 sz_64 (by first | omega | (have := isNum_in (show entOk (gt l ((k + 1 : Nat) : Int)) from by assumption).1; dsimp only; omega)) (gt_ok (by first | omega | (have := isNum_in (show entOk (gt l ((k + 1 : Nat) : Int)) from by assumption).1; dsimp only; omega)) (by first | omega | (have := isNum_in (show entOk (gt l ((k + 1 : Nat) : Int)) from by assumption).1; dsimp only; omega)))) (GL.ex fun p_x10 => GL.ex fun r_x10 => GL.and fun ok_x10 => ?_)
    rcases r_x10 with ⟨_, ⟨_, ⟨_, ⟨_, ⟨_, ⟨⟨_, ⟨_, ⟨_, ⟨⟨Ax10_0, cpx10_0⟩, ⟨Ax10_1, cpx10_1⟩⟩⟩⟩⟩, ⟨_, ⟨Ax10_2, cpx10_2⟩⟩⟩⟩⟩⟩⟩⟩
    refine GL.step rfl (t_mem rfl (m_loadPN (i := 0) rfl rfl ag_64 (vs := [_, _, _, _, _, _, _, _, _, _, _, _]) sz_64 ⟨rfl, rfl, rfl, rfl, rfl, rfl, rfl, rfl, rfl, rfl, rfl, rfl, trivial⟩)) ?_; refine GL.step rfl (t_alloc rfl ze_64) (GL.ex fun b_t4 => ?_)
    refine GL.as_ rfl rfl ?_; refine GL.step rfl (t_storeN (i := 0) rfl rfl rfl sz_64 rfl rfl rfl) ?_; refine GL.nl_ ?_; refine GC.seq' ?_
    have hme := (hm _ (gt_elem (l := l) (k := k) (by omega))).m
    have hml : (gt l (k : Int)).grp.members.length ≤ 140737488355328 := by omega
    rcases k with _ | k
    ·skip
     refine GC.regionQ wide_ (by kernel_rfl) ?_; refine GQ.step rfl (q_mem (m_loadN (i := 0) rfl rfl ag_64 (vs := [_, _, _, _, _, _, _, _, _, _, _, _]) sz_64 ⟨rfl, rfl, rfl, rfl, rfl, rfl, rfl, rfl, rfl, rfl, rfl, rfl, trivial⟩)) ?_
     refine GQ.step rfl (q_call fn_112 rfl (js := [1, 2, 3]) rfl (by exact ment_ct (gt l (_ : Int)) _ _ _ _ _ _ (by first | assumption | omega))) ?_; refine GQ.step rfl (q_pure (p_neq rfl rfl)) ?_; refine GQ.step rfl (q_pure (p_move rfl)) ?_
     refine GQ.split (i := 15) rfl (fun h2 => ?_) (fun h2 => ?_)
     ·try simp only [tst_, entE_iff] at h2
      first
      | (exfalso; omega)
      |(skip
        iterate 3 refine GQ.pass (s := 15) rfl rfl rfl ?_
        iterate 10 refine GQ.passU (s := 18) rfl rfl rfl ?_
        refine GQ.pass (s := 15) rfl rfl rfl ?_; refine GQ.step rfl (q_pure (p_pick_true rfl rfl)) ?_
        refine GQ.nil (?_ : GC _ _ _ _)
        refine GC.cond_true rfl ?_; refine GC.sr_ ?_; refine GL.as_ rfl rfl ?_; refine GL.nl_ ?_; refine GC.ret ?_
        refine fun a w h => Fin.back (rs := [.tmp 2]) (vs := [_]) (is := []) (js := []) rfl ⟨rfl, trivial⟩ rfl rfl ?_ h
        clear h
        exact ⟨congrArg Value.bool (decide_eq_false fun H => by first | exact absurd (H 0 (by omega)).1 (by assumption) | exact absurd (H (k + 1) (by omega)).1 (by assumption) | exact absurd ((H (k + 1) (by omega)).2 (by omega)) (by assumption)).symm, rfl, rfl⟩)
     ·try simp only [tst_, entE_iff] at h2
      first
      | (exfalso; omega)
      |(skip
        refine GQ.stepG (s := 15) rfl rfl rfl (q_pure (p_move rfl)) ?_; refine GQ.stepG (s := 15) rfl rfl rfl (q_pure (p_gtr rfl rfl)) ?_; refine GQ.stepG (s := 15) rfl rfl rfl (q_pure (p_move rfl)) ?_; refine GQ.split (i := 18) rfl (fun h3 => ?_) (fun h3 => ?_)
        ·try simp only [tst_, entE_iff] at h3
         first
         | (exfalso; omega)
         |(skip
           refine GQ.stepG (s := 18) rfl rfl rfl (q_pure (p_fieldAddr fo_64_1 rfl)) ?_; refine GQ.stepG (s := 18) rfl rfl rfl (q_mem (m_load (i := 0) rfl rfl ag_3 rfl)) ?_; refine GQ.stepG (s := 18) rfl rfl rfl (q_pure (p_sub rfl rfl (w64 (by first | omega | (have := isNum_in (show entOk (gt l ((k + 1 : Nat) : Int)) from by assumption).1; dsimp only; omega)) (by first | omega | (have := isNum_in (show entOk (gt l ((k + 1 : Nat) : Int)) from by assumption).1; dsimp only; omega))))) ?_
           iterate 2 refine GQ.stepG (s := 18) rfl rfl rfl (q_pure (p_move rfl)) ?_
           refine GQ.stepG (s := 18) rfl rfl rfl (q_pure (p_sub rfl rfl (w64 (by first | omega | (have := isNum_in (show entOk (gt l ((k + 1 : Nat) : Int)) from by assumption).1; dsimp only; omega)) (by first | omega | (have := isNum_in (show entOk (gt l ((k + 1 : Nat) : Int)) from by assumption).1; dsimp only; omega))))) ?_
           exact (by omega : False).elim)
        ·try simp only [tst_, entE_iff] at h3
         first
         | (exfalso; omega)
         |(skip
           iterate 10 refine GQ.pass (s := 18) rfl rfl rfl ?_
           refine GQ.stepG (s := 15) rfl rfl rfl (q_pure (p_pick_false rfl rfl)) ?_; refine GQ.step rfl (q_pure (p_pick_false rfl rfl)) ?_
           refine GQ.nil (?_ : GC _ _ _ _)
           refine GC.cond_false rfl ?_
           refine GC.skip (?_ : GC _ _ _ _)
           refine GC.region ?_; refine GL.pure rfl (p_add rfl rfl (w64 (by first | omega | (have := isNum_in (show entOk (gt l ((k + 1 : Nat) : Int)) from by assumption).1; dsimp only; omega)) (by first | omega | (have := isNum_in (show entOk (gt l ((k + 1 : Nat) : Int)) from by assumption).1; dsimp only; omega)))) ?_
           refine GL.mv_ rfl rfl ?_; refine GL.nil ?_
           exact fun a w h => ⟨(_ + 1), (by omega), ⟨by omega, fun j hj => (Nat.lt_succ_iff_lt_or_eq.1 hj).elim (hall j) (fun e => by subst e; exact ⟨by assumption, fun _ => by first | omega | assumption⟩)⟩, h.cut (is := []) (js := [4]) ⟨rfl, rfl, rfl, rfl, trivial⟩ rfl rfl⟩))
    ·skip
     refine GC.lay (x := .const (.slice A l.length cp)) (y := .const (.int .i64 (((k + 1 : Nat) : Int) - 1))) (j := 4) rfl rfl rfl (by first | omega | (have := isNum_in (show entOk (gt l ((k + 1 : Nat) : Int)) from by assumption).1; dsimp only; omega)) (gt_ok (by first | omega | (have := isNum_in (show entOk (gt l ((k + 1 : Nat) : Int)) from by assumption).1; dsimp only; omega)) (by first | omega | (have := isNum_in (show entOk (gt l ((k + 1 : Nat) : Int)) from by assumption).1; dsimp only; omega))) (fun p_xp r_xp hA_xp ok_xp => ?_)
     rcases r_xp with ⟨_, ⟨_, ⟨_, ⟨_, ⟨_, ⟨⟨_, ⟨_, ⟨_, ⟨⟨Axp_0, cpxp_0⟩, ⟨Axp_1, cpxp_1⟩⟩⟩⟩⟩, ⟨_, ⟨Axp_2, cpxp_2⟩⟩⟩⟩⟩⟩⟩⟩
     refine GC.regionQ wide_ (by kernel_rfl) ?_; refine GQ.step rfl (q_mem (m_loadN (i := 0) rfl rfl ag_64 (vs := [_, _, _, _, _, _, _, _, _, _, _, _]) sz_64 ⟨rfl, rfl, rfl, rfl, rfl, rfl, rfl, rfl, rfl, rfl, rfl, rfl, trivial⟩)) ?_
     refine GQ.step rfl (q_call fn_112 rfl (js := [5, 6, 7]) rfl (by exact ment_ct (gt l (_ : Int)) _ _ _ _ _ _ (by first | assumption | omega))) ?_; refine GQ.step rfl (q_pure (p_neq rfl rfl)) ?_; refine GQ.step rfl (q_pure (p_move rfl)) ?_
     refine GQ.split (i := 15) rfl (fun h4 => ?_) (fun h4 => ?_)
     ·try simp only [tst_, entE_iff] at h4
      first
      | (exfalso; omega)
      |(skip
        iterate 3 refine GQ.pass (s := 15) rfl rfl rfl ?_
        iterate 10 refine GQ.passU (s := 18) rfl rfl rfl ?_
        refine GQ.pass (s := 15) rfl rfl rfl ?_; refine GQ.step rfl (q_pure (p_pick_true rfl rfl)) ?_
        refine GQ.nil (?_ : GC _ _ _ _)
        refine GC.cond_true rfl ?_; refine GC.sr_ ?_; refine GL.as_ rfl rfl ?_; refine GL.nl_ ?_; refine GC.ret ?_
        refine fun a w h => Fin.back (rs := [.tmp 2]) (vs := [_]) (is := []) (js := []) rfl ⟨rfl, trivial⟩ rfl rfl ?_ h
        clear h
        exact ⟨congrArg Value.bool (decide_eq_false fun H => by first | exact absurd (H 0 (by omega)).1 (by assumption) | exact absurd (H (k + 1) (by omega)).1 (by assumption) | exact absurd ((H (k + 1) (by omega)).2 (by omega)) (by assumption)).symm, rfl, rfl⟩)
     ·try simp only [tst_, entE_iff] at h4
      first
      | (exfalso; omega)
      |(skip
        refine GQ.stepG (s := 15) rfl rfl rfl (q_pure (p_move rfl)) ?_; refine GQ.stepG (s := 15) rfl rfl rfl (q_pure (p_gtr rfl rfl)) ?_; refine GQ.stepG (s := 15) rfl rfl rfl (q_pure (p_move rfl)) ?_; refine GQ.split (i := 18) rfl (fun h5 => ?_) (fun h5 => ?_)
        ·try simp only [tst_, entE_iff] at h5
         first
         | (exfalso; omega)
         |(skip
           refine GQ.stepG (s := 18) rfl rfl rfl (q_pure (p_fieldAddr fo_64_1 rfl)) ?_; refine GQ.stepG (s := 18) rfl rfl rfl (q_mem (m_load (i := 0) rfl rfl ag_3 rfl)) ?_; refine GQ.stepG (s := 18) rfl rfl rfl (q_pure (p_sub rfl rfl (w64 (by first | omega | (have := isNum_in (show entOk (gt l ((k + 1 : Nat) : Int)) from by assumption).1; dsimp only; omega)) (by first | omega | (have := isNum_in (show entOk (gt l ((k + 1 : Nat) : Int)) from by assumption).1; dsimp only; omega))))) ?_
           iterate 2 refine GQ.stepG (s := 18) rfl rfl rfl (q_pure (p_move rfl)) ?_
           refine GQ.stepG (s := 18) rfl rfl rfl (q_pure (p_sub rfl rfl (w64 (by first | omega | (have := isNum_in (show entOk (gt l ((k + 1 : Nat) : Int)) from by assumption).1; dsimp only; omega)) (by first | omega | (have := isNum_in (show entOk (gt l ((k + 1 : Nat) : Int)) from by assumption).1; dsimp only; omega))))) ?_
           refine GQ.stepG (s := 18) rfl rfl rfl (q_pure (p_indexL hA_xp rfl rfl Tryz.underlying40 sz_64 (by first | omega | (have := isNum_in (show entOk (gt l ((k + 1 : Nat) : Int)) from by assumption).1; dsimp only; omega)) (by first | omega | (have := isNum_in (show entOk (gt l ((k + 1 : Nat) : Int)) from by assumption).1; dsimp only; omega)))) ?_
           refine GQ.stepG (s := 18) rfl rfl rfl (q_pure (p_fieldAddr' fo_64_1 rfl)) ?_; refine GQ.stepG (s := 18) rfl rfl rfl (q_mem (m_loadP (i := 0) rfl rfl ag_3 rfl)) ?_; refine GQ.stepG (s := 18) rfl rfl rfl (q_pure (p_neq rfl rfl)) ?_
           refine GQ.stepG (s := 15) rfl rfl rfl (q_pure (p_pick_true rfl rfl)) ?_; refine GQ.step rfl (q_pure (p_pick_false rfl rfl)) ?_
           refine GQ.nil (?_ : GC _ _ _ _)
           refine GC.cond rfl (fun h6 => ?_) (fun h6 => ?_)
           ·try simp only [tst_, entE_iff] at h6
            first
            | (exfalso; omega)
            |(skip
              refine GC.sr_ ?_; refine GL.as_ rfl rfl ?_; refine GL.nl_ ?_; refine GC.ret ?_
              refine fun a w h => Fin.back (rs := [.tmp 2]) (vs := [_]) (is := []) (js := []) rfl ⟨rfl, trivial⟩ rfl rfl ?_ h
              clear h
              exact ⟨congrArg Value.bool (decide_eq_false fun H => by first | exact absurd (H 0 (by omega)).1 (by assumption) | exact absurd (H (k + 1) (by omega)).1 (by assumption) | exact absurd ((H (k + 1) (by omega)).2 (by omega)) (by assumption)).symm, rfl, rfl⟩)
           ·try simp only [tst_, entE_iff] at h6
            first
            | (exfalso; omega)
            |(skip
              refine GC.skip (?_ : GC _ _ _ _)
              refine GC.region ?_; refine GL.pure rfl (p_add rfl rfl (w64 (by first | omega | (have := isNum_in (show entOk (gt l ((k + 1 : Nat) : Int)) from by assumption).1; dsimp only; omega)) (by first | omega | (have := isNum_in (show entOk (gt l ((k + 1 : Nat) : Int)) from by assumption).1; dsimp only; omega)))) ?_
              refine GL.mv_ rfl rfl ?_; refine GL.nil ?_
              exact fun a w h => ⟨(_ + 1), (by omega), ⟨by omega, fun j hj => (Nat.lt_succ_iff_lt_or_eq.1 hj).elim (hall j) (fun e => by subst e; exact ⟨by assumption, fun _ => by first | omega | assumption⟩)⟩, h.cut (is := []) (js := [8]) ⟨rfl, rfl, rfl, rfl, trivial⟩ rfl rfl⟩))
        ·try simp only [tst_, entE_iff] at h5
         first
         | (exfalso; omega)
         |(skip
           iterate 10 refine GQ.pass (s := 18) rfl rfl rfl ?_
           refine GQ.stepG (s := 15) rfl rfl rfl (q_pure (p_pick_false rfl rfl)) ?_; refine GQ.step rfl (q_pure (p_pick_false rfl rfl)) ?_
           refine GQ.nil (?_ : GC _ _ _ _)
           refine GC.cond_false rfl ?_
           refine GC.skip (?_ : GC _ _ _ _)
           refine GC.region ?_; refine GL.pure rfl (p_add rfl rfl (w64 (by first | omega | (have := isNum_in (show entOk (gt l ((k + 1 : Nat) : Int)) from by assumption).1; dsimp only; omega)) (by first | omega | (have := isNum_in (show entOk (gt l ((k + 1 : Nat) : Int)) from by assumption).1; dsimp only; omega)))) ?_
           refine GL.mv_ rfl rfl ?_; refine GL.nil ?_
           exact fun a w h => ⟨(_ + 1), (by omega), ⟨by omega, fun j hj => (Nat.lt_succ_iff_lt_or_eq.1 hj).elim (hall j) (fun e => by subst e; exact ⟨by assumption, fun _ => by first | omega | assumption⟩)⟩, h.cut (is := []) (js := [8]) ⟨rfl, rfl, rfl, rfl, trivial⟩ rfl rfl⟩)))
 ·try simp only [tst_, entE_iff] at h1
  first
  | (exfalso; omega)
  |(skip
    refine GC.exit (?_ : GC _ _ _ _)
    refine GC.sr_ ?_; refine GL.as_ rfl rfl ?_; refine GL.nl_ ?_; refine GC.ret ?_
    refine fun a w h => Fin.back (rs := [.tmp 2]) (vs := [_]) (is := []) (js := []) rfl ⟨rfl, trivial⟩ rfl rfl ?_ h
    clear h
    exact ⟨congrArg Value.bool (decide_eq_true fun j hj => hall j (by omega)).symm, rfl, rfl⟩)
theorem wrow_ct (A : Option Addr) (l : List Entry) (cp : Nat) (hl : l.length ≤ 140737488355328) (hm : ∀ e ∈ l, EntLen e) : Ct Tryz.prog 64 [.slice A l.length cp] [] [Pers.row kEntry A l] (fun u G Q => u = .bool (decide (rowOkE l)) ∧ G = [] ∧ Q = []) := by
 refine Ct.intro Tryz.func64 rfl rfl rfl (fun c hc => ?_)
 refine GC.sr_ ?_; refine GL.as_ rfl rfl ?_; refine GL.nl_ ?_; refine GC.seq' ?_; refine GC.sr_ ?_; refine GL.mv_ rfl rfl ?_; refine GL.pure rfl (p_len Tryz.underlying40 rfl) ?_; refine GL.mv_ rfl rfl ?_; refine GL.nl_ ?_
 refine GC.block ?_; refine GC.loopK1 (ks := [0, 5, 6]) (is := []) (js := [0]) (fun (k : Nat) => k ≤ l.length ∧ ∀ j : Nat, j < k → entOk (gt l (j : Int)) ∧ (0 < j → (gt l (j : Int)).num - 1 = (gt l ((j : Int) - 1)).num)) (fun (k : Nat) => [(7, .int .i64 (k : Int))]) (fun (k : Nat) => []) (fun (k : Nat) => []) (fun (k : Nat) => l.length - k) (0) rfl rfl rfl (fun a w h => ⟨⟨by omega, fun j hj => by omega⟩, h.cutK (is := []) (js := [0]) (ks := [0, 5, 6]) ⟨rfl, trivial⟩ rfl rfl rfl⟩) ?_
 intro k hk
 try dsimp only [List.cons_append, List.nil_append] at hk ⊢
 obtain ⟨hk, hall⟩ := hk
 refine GC.sr_ ?_; refine GL.pure rfl (p_lss rfl rfl) ?_; refine GL.nl_ ?_; refine GC.seq' ?_; refine GC.cond rfl (fun h1 => ?_) (fun h1 => ?_)
 ·try simp only [tst_, entE_iff] at h1
  first
  | (exfalso; omega)
  |(skip
    refine GC.skip (?_ : GC _ _ _ _)
    refine GC.seq' ?_; refine GC.block ?_; refine GC.sr_ ?_; refine GL.mv_ rfl rfl ?_; refine GL.step rfl (t_index (i := 0) rfl rfl rfl rfl Tryz.underlying40 sz_64 (by first | omega | (have := isNum_in (show entOk (gt l ((k + 1 : Nat) : Int)) from by assumption).1; dsimp only; omega)) (gt_ok (by first | omega | (have := isNum_in (show entOk (gt l ((k + 1 : Nat) : Int)) from by assumption).1; dsimp only; omega)) (by first | omega | (have := isNum_in (show entOk (gt l ((k + 1 : Nat) : Int)) from by assumption).1; dsimp only; omega)))) (GL.ex fun p_x10 => GL.ex fun r_x10 => GL.and fun ok_x10 => ?_)
    rcases r_x10 with ⟨_, ⟨_, ⟨_, ⟨_, ⟨_, ⟨⟨_, ⟨_, ⟨_, ⟨⟨Ax10_0, cpx10_0⟩, ⟨Ax10_1, cpx10_1⟩⟩⟩⟩⟩, ⟨_, ⟨Ax10_2, cpx10_2⟩⟩⟩⟩⟩⟩⟩⟩
    refine GL.step rfl (t_mem rfl (m_loadPN (i := 0) rfl rfl ag_64 (vs := [_, _, _, _, _, _, _, _, _, _, _, _]) sz_64 ⟨rfl, rfl, rfl, rfl, rfl, rfl, rfl, rfl, rfl, rfl, rfl, rfl, trivial⟩)) ?_; refine GL.step rfl (t_alloc rfl ze_64) (GL.ex fun b_t4 => ?_)
    refine GL.as_ rfl rfl ?_; refine GL.step rfl (t_storeN (i := 0) rfl rfl rfl sz_64 rfl rfl rfl) ?_; refine GL.nl_ ?_; refine GC.seq' ?_
    have hme := (hm _ (gt_elem (l := l) (k := k) (by omega))).m
    have hml : (gt l (k : Int)).grp.members.length ≤ 140737488355328 := by omega
    rcases k with _ | k
    ·skip
     refine GC.regionQ wide_ (by kernel_rfl) ?_; refine GQ.step rfl (q_mem (m_loadN (i := 0) rfl rfl ag_64 (vs := [_, _, _, _, _, _, _, _, _, _, _, _]) sz_64 ⟨rfl, rfl, rfl, rfl, rfl, rfl, rfl, rfl, rfl, rfl, rfl, rfl, trivial⟩)) ?_
     refine GQ.step rfl (q_call fn_112 rfl (js := [1, 2, 3]) rfl (by exact ment_ct (gt l (_ : Int)) _ _ _ _ _ _ (by first | assumption | omega))) ?_; refine GQ.step rfl (q_pure (p_neq rfl rfl)) ?_; refine GQ.step rfl (q_pure (p_move rfl)) ?_
     refine GQ.split (i := 15) rfl (fun h2 => ?_) (fun h2 => ?_)
     ·try simp only [tst_, entE_iff] at h2
      first
      | (exfalso; omega)
      |(skip
        iterate 3 refine GQ.pass (s := 15) rfl rfl rfl ?_
        iterate 10 refine GQ.passU (s := 18) rfl rfl rfl ?_
        refine GQ.pass (s := 15) rfl rfl rfl ?_; refine GQ.step rfl (q_pure (p_pick_true rfl rfl)) ?_
        refine GQ.nil (?_ : GC _ _ _ _)
        refine GC.cond_true rfl ?_; refine GC.sr_ ?_; refine GL.as_ rfl rfl ?_; refine GL.nl_ ?_; refine GC.ret ?_
        refine fun a w h => Fin.back (rs := [.tmp 2]) (vs := [_]) (is := []) (js := []) rfl ⟨rfl, trivial⟩ rfl rfl ?_ h
        clear h
        exact ⟨congrArg Value.bool (decide_eq_false fun H => by first | exact absurd (H 0 (by omega)).1 (by assumption) | exact absurd (H (k + 1) (by omega)).1 (by assumption) | exact absurd ((H (k + 1) (by omega)).2 (by omega)) (by assumption)).symm, rfl, rfl⟩)
     ·try simp only [tst_, entE_iff] at h2
      first
      | (exfalso; omega)
      |(skip
        refine GQ.stepG (s := 15) rfl rfl rfl (q_pure (p_move rfl)) ?_; refine GQ.stepG (s := 15) rfl rfl rfl (q_pure (p_gtr rfl rfl)) ?_; refine GQ.stepG (s := 15) rfl rfl rfl (q_pure (p_move rfl)) ?_; refine GQ.split (i := 18) rfl (fun h3 => ?_) (fun h3 => ?_)
        ·try simp only [tst_, entE_iff] at h3
         first
         | (exfalso; omega)
         |(skip
           refine GQ.stepG (s := 18) rfl rfl rfl (q_pure (p_fieldAddr fo_64_1 rfl)) ?_; refine GQ.stepG (s := 18) rfl rfl rfl (q_mem (m_load (i := 0) rfl rfl ag_3 rfl)) ?_; refine GQ.stepG (s := 18) rfl rfl rfl (q_pure (p_sub rfl rfl (w64 (by first | omega | (have := isNum_in (show entOk (gt l ((k + 1 : Nat) : Int)) from by assumption).1; dsimp only; omega)) (by first | omega | (have := isNum_in (show entOk (gt l ((k + 1 : Nat) : Int)) from by assumption).1; dsimp only; omega))))) ?_
           iterate 2 refine GQ.stepG (s := 18) rfl rfl rfl (q_pure (p_move rfl)) ?_
           refine GQ.stepG (s := 18) rfl rfl rfl (q_pure (p_sub rfl rfl (w64 (by first | omega | (have := isNum_in (show entOk (gt l ((k + 1 : Nat) : Int)) from by assumption).1; dsimp only; omega)) (by first | omega | (have := isNum_in (show entOk (gt l ((k + 1 : Nat) : Int)) from by assumption).1; dsimp only; omega))))) ?_
           exact (by omega : False).elim)
        ·try simp only [tst_, entE_iff] at h3
         first
         | (exfalso; omega)
         |(skip
           iterate 10 refine GQ.pass (s := 18) rfl rfl rfl ?_
           refine GQ.stepG (s := 15) rfl rfl rfl (q_pure (p_pick_false rfl rfl)) ?_; refine GQ.step rfl (q_pure (p_pick_false rfl rfl)) ?_
           refine GQ.nil (?_ : GC _ _ _ _)
           refine GC.cond_false rfl ?_
           refine GC.skip (?_ : GC _ _ _ _)
           refine GC.region ?_; refine GL.pure rfl (p_add rfl rfl (w64 (by first | omega | (have := isNum_in (show entOk (gt l ((k + 1 : Nat) : Int)) from by assumption).1; dsimp only; omega)) (by first | omega | (have := isNum_in (show entOk (gt l ((k + 1 : Nat) : Int)) from by assumption).1; dsimp only; omega)))) ?_
           refine GL.mv_ rfl rfl ?_; refine GL.nil ?_
           exact fun a w h => ⟨(_ + 1), (by omega), ⟨by omega, fun j hj => (Nat.lt_succ_iff_lt_or_eq.1 hj).elim (hall j) (fun e => by subst e; exact ⟨by assumption, fun _ => by first | omega | assumption⟩)⟩, h.cut (is := []) (js := [4]) ⟨rfl, rfl, rfl, rfl, trivial⟩ rfl rfl⟩))
    ·skip
     refine GC.lay (x := .const (.slice A l.length cp)) (y := .const (.int .i64 (((k + 1 : Nat) : Int) - 1))) (j := 4) rfl rfl rfl (by first | omega | (have := isNum_in (show entOk (gt l ((k + 1 : Nat) : Int)) from by assumption).1; dsimp only; omega)) (gt_ok (by first | omega | (have := isNum_in (show entOk (gt l ((k + 1 : Nat) : Int)) from by assumption).1; dsimp only; omega)) (by first | omega | (have := isNum_in (show entOk (gt l ((k + 1 : Nat) : Int)) from by assumption).1; dsimp only; omega))) (fun p_xp r_xp hA_xp ok_xp => ?_)
     rcases r_xp with ⟨_, ⟨_, ⟨_, ⟨_, ⟨_, ⟨⟨_, ⟨_, ⟨_, ⟨⟨Axp_0, cpxp_0⟩, ⟨Axp_1, cpxp_1⟩⟩⟩⟩⟩, ⟨_, ⟨Axp_2, cpxp_2⟩⟩⟩⟩⟩⟩⟩⟩
     refine GC.regionQ wide_ (by kernel_rfl) ?_; refine GQ.step rfl (q_mem (m_loadN (i := 0) rfl rfl ag_64 (vs := [_, _, _, _, _, _, _, _, _, _, _, _]) sz_64 ⟨rfl, rfl, rfl, rfl, rfl, rfl, rfl, rfl, rfl, rfl, rfl, rfl, trivial⟩)) ?_
     refine GQ.step rfl (q_call fn_112 rfl (js := [5, 6, 7]) rfl (by exact ment_ct (gt l (_ : Int)) _ _ _ _ _ _ (by first | assumption | omega))) ?_; refine GQ.step rfl (q_pure (p_neq rfl rfl)) ?_; refine GQ.step rfl (q_pure (p_move rfl)) ?_
     refine GQ.split (i := 15) rfl (fun h4 => ?_) (fun h4 => ?_)
     ·try simp only [tst_, entE_iff] at h4
      first
      | (exfalso; omega)
      |(skip
        iterate 3 refine GQ.pass (s := 15) rfl rfl rfl ?_
        iterate 10 refine GQ.passU (s := 18) rfl rfl rfl ?_
        refine GQ.pass (s := 15) rfl rfl rfl ?_; refine GQ.step rfl (q_pure (p_pick_true rfl rfl)) ?_
        refine GQ.nil (?_ : GC _ _ _ _)
        refine GC.cond_true rfl ?_; refine GC.sr_ ?_; refine GL.as_ rfl rfl ?_; refine GL.nl_ ?_; refine GC.ret ?_
        refine fun a w h => Fin.back (rs := [.tmp 2]) (vs := [_]) (is := []) (js := []) rfl ⟨rfl, trivial⟩ rfl rfl ?_ h
        clear h
        exact ⟨congrArg Value.bool (decide_eq_false fun H => by first | exact absurd (H 0 (by omega)).1 (by assumption) | exact absurd (H (k + 1) (by omega)).1 (by assumption) | exact absurd ((H (k + 1) (by omega)).2 (by omega)) (by assumption)).symm, rfl, rfl⟩)
     ·try simp only [tst_, entE_iff] at h4
      first
      | (exfalso; omega)
      |(skip
        refine GQ.stepG (s := 15) rfl rfl rfl (q_pure (p_move rfl)) ?_; refine GQ.stepG (s := 15) rfl rfl rfl (q_pure (p_gtr rfl rfl)) ?_; refine GQ.stepG (s := 15) rfl rfl rfl (q_pure (p_move rfl)) ?_; refine GQ.split (i := 18) rfl (fun h5 => ?_) (fun h5 => ?_)
        ·try simp only [tst_, entE_iff] at h5
         first
         | (exfalso; omega)
         |(skip
           refine GQ.stepG (s := 18) rfl rfl rfl (q_pure (p_fieldAddr fo_64_1 rfl)) ?_; refine GQ.stepG (s := 18) rfl rfl rfl (q_mem (m_load (i := 0) rfl rfl ag_3 rfl)) ?_; refine GQ.stepG (s := 18) rfl rfl rfl (q_pure (p_sub rfl rfl (w64 (by first | omega | (have := isNum_in (show entOk (gt l ((k + 1 : Nat) : Int)) from by assumption).1; dsimp only; omega)) (by first | omega | (have := isNum_in (show entOk (gt l ((k + 1 : Nat) : Int)) from by assumption).1; dsimp only; omega))))) ?_
           iterate 2 refine GQ.stepG (s := 18) rfl rfl rfl (q_pure (p_move rfl)) ?_
           refine GQ.stepG (s := 18) rfl rfl rfl (q_pure (p_sub rfl rfl (w64 (by first | omega | (have := isNum_in (show entOk (gt l ((k + 1 : Nat) : Int)) from by assumption).1; dsimp only; omega)) (by first | omega | (have := isNum_in (show entOk (gt l ((k + 1 : Nat) : Int)) from by assumption).1; dsimp only; omega))))) ?_
           refine GQ.stepG (s := 18) rfl rfl rfl (q_pure (p_indexL hA_xp rfl rfl Tryz.underlying40 sz_64 (by first | omega | (have := isNum_in (show entOk (gt l ((k + 1 : Nat) : Int)) from by assumption).1; dsimp only; omega)) (by first | omega | (have := isNum_in (show entOk (gt l ((k + 1 : Nat) : Int)) from by assumption).1; dsimp only; omega)))) ?_
           refine GQ.stepG (s := 18) rfl rfl rfl (q_pure (p_fieldAddr' fo_64_1 rfl)) ?_; refine GQ.stepG (s := 18) rfl rfl rfl (q_mem (m_loadP (i := 0) rfl rfl ag_3 rfl)) ?_; refine GQ.stepG (s := 18) rfl rfl rfl (q_pure (p_neq rfl rfl)) ?_
           refine GQ.stepG (s := 15) rfl rfl rfl (q_pure (p_pick_true rfl rfl)) ?_; refine GQ.step rfl (q_pure (p_pick_false rfl rfl)) ?_
           refine GQ.nil (?_ : GC _ _ _ _)
           refine GC.cond rfl (fun h6 => ?_) (fun h6 => ?_)
           ·try simp only [tst_, entE_iff] at h6
            first
            | (exfalso; omega)
            |(skip
              refine GC.sr_ ?_; refine GL.as_ rfl rfl ?_; refine GL.nl_ ?_; refine GC.ret ?_
              refine fun a w h => Fin.back (rs := [.tmp 2]) (vs := [_]) (is := []) (js := []) rfl ⟨rfl, trivial⟩ rfl rfl ?_ h
              clear h
              exact ⟨congrArg Value.bool (decide_eq_false fun H => by first | exact absurd (H 0 (by omega)).1 (by assumption) | exact absurd (H (k + 1) (by omega)).1 (by assumption) | exact absurd ((H (k + 1) (by omega)).2 (by omega)) (by assumption)).symm, rfl, rfl⟩)
           ·try simp only [tst_, entE_iff] at h6
            first
            | (exfalso; omega)
            |(skip
              refine GC.skip (?_ : GC _ _ _ _)
              refine GC.region ?_; refine GL.pure rfl (p_add rfl rfl (w64 (by first | omega | (have := isNum_in (show entOk (gt l ((k + 1 : Nat) : Int)) from by assumption).1; dsimp only; omega)) (by first | omega | (have := isNum_in (show entOk (gt l ((k + 1 : Nat) : Int)) from by assumption).1; dsimp only; omega)))) ?_
              refine GL.mv_ rfl rfl ?_; refine GL.nil ?_
              exact fun a w h => ⟨(_ + 1), (by omega), ⟨by omega, fun j hj => (Nat.lt_succ_iff_lt_or_eq.1 hj).elim (hall j) (fun e => by subst e; exact ⟨by assumption, fun _ => by first | omega | assumption⟩)⟩, h.cut (is := []) (js := [8]) ⟨rfl, rfl, rfl, rfl, trivial⟩ rfl rfl⟩))
        ·try simp only [tst_, entE_iff] at h5
         first
         | (exfalso; omega)
         |(skip
           iterate 10 refine GQ.pass (s := 18) rfl rfl rfl ?_
           refine GQ.stepG (s := 15) rfl rfl rfl (q_pure (p_pick_false rfl rfl)) ?_; refine GQ.step rfl (q_pure (p_pick_false rfl rfl)) ?_
           refine GQ.nil (?_ : GC _ _ _ _)
           refine GC.cond_false rfl ?_
           refine GC.skip (?_ : GC _ _ _ _)
           refine GC.region ?_; refine GL.pure rfl (p_add rfl rfl (w64 (by first | omega | (have := isNum_in (show entOk (gt l ((k + 1 : Nat) : Int)) from by assumption).1; dsimp only; omega)) (by first | omega | (have := isNum_in (show entOk (gt l ((k + 1 : Nat) : Int)) from by assumption).1; dsimp only; omega)))) ?_
           refine GL.mv_ rfl rfl ?_; refine GL.nil ?_
           exact fun a w h => ⟨(_ + 1), (by omega), ⟨by omega, fun j hj => (Nat.lt_succ_iff_lt_or_eq.1 hj).elim (hall j) (fun e => by subst e; exact ⟨by assumption, fun _ => by first | omega | assumption⟩)⟩, h.cut (is := []) (js := [8]) ⟨rfl, rfl, rfl, rfl, trivial⟩ rfl rfl⟩)))
 ·try simp only [tst_, entE_iff] at h1
  first
  | (exfalso; omega)
  |(skip
    refine GC.exit (?_ : GC _ _ _ _)
    refine GC.sr_ ?_; refine GL.as_ rfl rfl ?_; refine GL.nl_ ?_; refine GC.ret ?_
    refine fun a w h => Fin.back (rs := [.tmp 2]) (vs := [_]) (is := []) (js := []) rfl ⟨rfl, trivial⟩ rfl rfl ?_ h
    clear h
    exact ⟨congrArg Value.bool (decide_eq_true fun j hj => hall j (by omega)).symm, rfl, rfl⟩)
theorem joins_nil (n : Int) (cp : Nat) (A : Option Addr) : Ct Tryz.prog 111 [.int .i64 n, .slice A 0 cp] [] [] (fun u G Q => u = .bool true ∧ G = [] ∧ Q = []) := by
 refine Ct.intro Tryz.func111 rfl rfl rfl (fun c hc => ?_)
 refine GC.sr_ ?_; refine GL.as_ rfl rfl ?_; refine GL.nl_ ?_; refine GC.sr_ ?_; refine GL.mv_ rfl rfl ?_; refine GL.pure rfl (p_len Tryz.underlying40 rfl) ?_; refine GL.pure rfl (p_eql rfl rfl) ?_; refine GL.mv_ rfl rfl ?_
 refine GL.split (i := 8) rfl (fun h1 => ?_) (fun h1 => ?_)
 ·try simp only [tst_] at h1
  iterate 7 refine GL.pass (s := 8) rfl rfl rfl ?_
  refine GL.pure rfl (p_pick_true rfl rfl) ?_; refine GL.as_ rfl rfl ?_; refine GL.nl_ ?_; refine GC.ret ?_
  refine fun a w h => Fin.back (rs := [.tmp 4]) (vs := [_]) (is := []) (js := []) rfl ⟨rfl, trivial⟩ rfl rfl ?_ h
  clear h
  exact ⟨rfl, rfl, rfl⟩
 ·try simp only [tst_] at h1
  exfalso; omega
theorem vload_ct (bl sz : Int) (A : Option Addr) (l : List Page) (cp : Nat) (hl : l.length ≤ 140737488355328) : Ct Tryz.prog 145 [shpV bl sz, .slice A l.length cp] [] [Pers.row kPage A l] (fun v G Q => (∃ x e, v = .tuple #[.pointer x, .int .i64 e] ∧ (e = 0 ↔ (shapeOk bl sz ∧ laidF bl sz (-1) l = true))) ∧ G = [] ∧ Q = []) := by
  by_cases h : shapeOk bl sz
  · cases hb : laidF bl sz (-1) l
    · exact Ct.drop (load_no bl sz A l cp h hl hb) fun v G Q h => ⟨_, _, h.1, by simp⟩
    · exact Ct.drop (load_ok bl sz A l cp h hl hb) fun v G Q ⟨p, pb, pv, h1, _⟩ => ⟨_, _, h1, by simp [h]⟩
  · exact Ct.drop (load_bad bl sz A l cp h) fun v G Q h1 => ⟨_, _, h1.1, by simp [h]⟩
theorem tload_ct (A : Option Addr) (l : List Row) (cp : Nat) (hl : l.length ≤ 140737488355328) : Ct Tryz.prog 146 [.slice A l.length cp] [] [Pers.row kRow A l] (fun v G Q => (∃ x e, v = .tuple #[.pointer x, .int .i64 e] ∧ (e = 0 ↔ rightF l = true)) ∧ G = [] ∧ Q = []) := by
  cases hb : rightF l
  · exact Ct.drop (tload_bad A l cp hl hb) fun v G Q h => ⟨_, _, h.1, by simp⟩
  · exact Ct.drop (tload_ok A l cp hl hb) fun v G Q h => by
      obtain ⟨_, _, _, _, h1, _⟩ := h
      exact ⟨_, _, h1, by simp⟩
theorem mown_ct (e : Int) (A : Option Addr) (l : List Int) (cp : Nat) (hl : l.length ≤ 17592186044416) : Ct Tryz.prog 149 [grpV e A l.length cp] [] [Pers.row kI A l] (fun u G Q => ∃ A' cp', u = grpV e A' l.length cp' ∧ G = [] ∧ Q = []) := by
 refine Ct.intro Tryz.func149 rfl rfl rfl (fun c hc => ?_)
 refine GC.sr_ ?_; refine GL.step rfl (t_box rfl rfl rfl) (GL.ex fun b_t1 => ?_); refine GL.step rfl (t_alloc rfl ze_33) (GL.ex fun b_t2 => ?_); refine GL.nl_ ?_; refine GC.sr_ ?_; refine GL.pure rfl (p_fieldAddr fo_33_1 rfl) ?_
 refine GL.step rfl (t_mem rfl (m_load (i := 1) rfl rfl ag_31 rfl)) ?_; refine GL.step rfl (t_call rfl fn_167 rfl (is := []) (js := [0]) rfl rfl (by exact clone_i _ _ _ (by first | assumption | omega))) (GL.ret ?_)
 rintro _ _ _ ⟨A5, cp5, l5, k5, rfl, rfl, rfl⟩
 refine GL.pure rfl (p_fieldAddr fo_33_1 rfl) ?_; refine GL.step rfl (t_store (i := 2) rfl rfl rfl rfl sz_31 rfl rfl rfl) ?_; refine GL.nl_ ?_; refine GC.sr_ ?_; refine GL.step rfl (t_mem rfl (m_loadN (i := 2) rfl rfl ag_33 (vs := [_, _]) sz_33 ⟨rfl, rfl, trivial⟩)) ?_
 refine GL.step rfl (t_storeN (i := 1) rfl rfl rfl sz_33 rfl rfl rfl) ?_; refine GL.nl_ ?_; refine GC.ret ?_
 refine fun a w h => Fin.back (rs := [.cell 2 33]) (vs := [_]) (is := []) (js := []) rfl ⟨⟨1, _, _, _, _, rfl, rfl, .inr ⟨[_, _], rfl, ag_33, sz_33, ⟨rfl, rfl, trivial⟩⟩⟩, trivial⟩ rfl rfl ?_ h
 clear h
 exact ⟨_, _, rfl, rfl, rfl⟩
abbrev sttL (s : Stt) (A : Option Addr) (cp : Nat) (B : Option Addr) (cq : Nat) (C : Option Addr) (cr : Nat) : List Value := [.int .i64 s.num, .int .i64 s.shp.bl, .int .i64 s.shp.sz, .slice A s.pages.length cp, .slice B s.rows.length cq, .int .i64 s.grp.epoch, .slice C s.grp.members.length cr]
theorem heldc_ct (b : Nat) (s : Stt) (A : Option Addr) (cp : Nat) (B : Option Addr) (cq : Nat) (C : Option Addr) (cr : Nat) (pg : Page) (D : Option Addr) (cd : Nat) : Ct Tryz.prog 148 [pageV pg D cd, .pointer (some ⟨b, 0, none⟩)] [.cells b (sttL s A cp B cq C cr) 39] []
    (fun u G Q => u = .bool (decide (s.num < pg.ver)) ∧ G = [.cells b (sttL s A cp B cq C cr) 39] ∧ Q = []) := by
 refine Ct.intro Tryz.func148 rfl rfl rfl (fun c hc => ?_)
 refine GC.sr_ ?_; refine GL.step rfl (t_box rfl rfl rfl) (GL.ex fun b_t2 => ?_); refine GL.as_ rfl rfl ?_; refine GL.nl_ ?_; refine GC.sr_ ?_; refine GL.pure rfl (p_fieldAddr fo_59_1 rfl) ?_; refine GL.step rfl (t_mem rfl (m_load (i := 0) rfl rfl ag_3 rfl)) ?_
 refine GL.pure rfl (p_fieldAddr fo_39_0 rfl) ?_; refine GL.step rfl (t_mem rfl (m_load (i := 1) rfl rfl ag_3 rfl)) ?_; refine GL.pure rfl (p_gtr rfl rfl) ?_; refine GL.as_ rfl rfl ?_; refine GL.nl_ ?_; refine GC.ret ?_
 refine fun a w h => Fin.back (rs := [.tmp 3]) (vs := [_]) (is := [1]) (js := []) rfl ⟨rfl, trivial⟩ rfl rfl ?_ h
 clear h
 exact ⟨rfl, rfl, rfl⟩
theorem hidx_ct (b : Nat) (s : Stt) (A : Option Addr) (cp : Nat) (B : Option Addr) (cq : Nat) (C : Option Addr) (cr : Nat) (D : Option Addr) (l : List Page) (cd : Nat) (hl : l.length ≤ 140737488355328) : Ct Tryz.prog 166 [.slice D l.length cd, .func (.func 148) #[] #[.pointer (some ⟨b, 0, none⟩)]] [.cells b (sttL s A cp B cq C cr) 39] [Pers.row kPage D l]
    (fun u G Q => ∃ i : Int, (0 ≤ i ↔ ¬ ∀ p ∈ l, p.ver ≤ s.num) ∧ u = .int .i64 i ∧ G = [.cells b (sttL s A cp B cq C cr) 39] ∧ Q = []) := by
 refine Ct.intro Tryz.func166 rfl rfl rfl (fun c hc => ?_)
 refine GC.sr_ ?_; refine GL.as_ rfl rfl ?_; refine GL.nl_ ?_; refine GC.seq' ?_; refine GC.sr_ ?_; refine GL.mv_ rfl rfl ?_; refine GL.pure rfl (p_len Tryz.underlying36 rfl) ?_; refine GL.mv_ rfl rfl ?_; refine GL.nl_ ?_
 refine GC.block ?_; refine GC.loopK1 (ks := [0, 1, 7]) (is := [0]) (js := [0]) (fun (k : Nat) => k ≤ l.length ∧ ∀ j : Nat, j < k → (gt l (j : Int)).ver ≤ s.num) (fun (k : Nat) => [(8, .int .i64 (k : Int))]) (fun (k : Nat) => []) (fun (k : Nat) => []) (fun (k : Nat) => l.length - k) (0) rfl rfl rfl (fun a w h => ⟨⟨by omega, fun j hj => by omega⟩, h.cutK (is := [0]) (js := [0]) (ks := [0, 1, 7]) ⟨rfl, trivial⟩ rfl rfl rfl⟩) ?_
 intro k hk
 try dsimp only [List.cons_append, List.nil_append] at hk ⊢
 obtain ⟨hk, hall⟩ := hk
 refine GC.sr_ ?_; refine GL.pure rfl (p_lss rfl rfl) ?_; refine GL.nl_ ?_; refine GC.seq' ?_; refine GC.cond rfl (fun h1 => ?_) (fun h1 => ?_)
 ·try simp only [tst_] at h1
  refine GC.skip (?_ : GC _ _ _ _)
  refine GC.seq' ?_; refine GC.block ?_; refine GC.sr_ ?_; refine GL.mv_ rfl rfl ?_; refine GL.as_ rfl rfl ?_; refine GL.nl_ ?_; refine GC.sr_ ?_
  iterate 3 refine GL.mv_ rfl rfl ?_
  refine GL.step rfl (t_index (i := 0) rfl rfl rfl rfl Tryz.underlying36 sz_59 (by omega) (gt_ok (by omega) (by omega))) (GL.ex fun p_x14 => GL.ex fun r_x14 => GL.and fun ok_x14 => ?_)
  rcases r_x14 with ⟨_, ⟨_, ⟨Ax14_0, cpx14_0⟩⟩⟩
  refine GL.step rfl (t_mem rfl (m_loadPN (i := 0) rfl rfl ag_59 (vs := [_, _, _]) sz_59 ⟨rfl, rfl, rfl, trivial⟩)) ?_; refine GL.step rfl (t_callv rfl fn_148 rfl rfl (is := [0]) (js := []) rfl rfl (by exact heldc_ct _ s _ _ _ _ _ _ (gt l (k : Int)) _ _)) (GL.ret ?_)
  rintro _ _ _ ⟨rfl, rfl, rfl⟩
  refine GL.nl_ ?_; refine GC.cond rfl (fun h2 => ?_) (fun h2 => ?_)
  ·try simp only [tst_] at h2
   refine GC.sr_ ?_; refine GL.mv_ rfl rfl ?_; refine GL.as_ rfl rfl ?_; refine GL.nl_ ?_; refine GC.ret ?_
   refine fun a w h => Fin.back (rs := [.tmp 4]) (vs := [_]) (is := [0]) (js := []) rfl ⟨rfl, trivial⟩ rfl rfl ?_ h
   clear h
   exact ⟨_, ⟨fun _ H => by have := H _ (gt_elem (l := l) (k := k) (by omega)); omega, fun _ => by omega⟩, rfl, rfl, rfl⟩
  ·try simp only [tst_] at h2
   refine GC.skip (?_ : GC _ _ _ _)
   refine GC.region ?_; refine GL.pure rfl (p_add rfl rfl (w64 (by omega) (by omega))) ?_; refine GL.mv_ rfl rfl ?_; refine GL.nil ?_
   exact fun a w h => ⟨(k + 1), (by omega), ⟨by omega, fun j hj => (Nat.lt_succ_iff_lt_or_eq.1 hj).elim (hall j) (fun e => by subst e; omega)⟩, h.cut (is := [0]) (js := [2]) ⟨rfl, rfl, rfl, rfl, trivial⟩ rfl rfl⟩
 ·try simp only [tst_] at h1
  refine GC.exit (?_ : GC _ _ _ _)
  refine GC.sr_ ?_; refine GL.as_ rfl rfl ?_; refine GL.nl_ ?_; refine GC.ret ?_
  refine fun a w h => Fin.back (rs := [.tmp 4]) (vs := [_]) (is := [0]) (js := []) rfl ⟨rfl, trivial⟩ rfl rfl ?_ h
  clear h
  exact ⟨_, ⟨fun g => by omega, fun g => absurd (fun p hp => by obtain ⟨j, hj, rfl⟩ := mem_gt hp; exact hall j (by omega)) g⟩, rfl, rfl, rfl⟩
theorem hcon_ct (b : Nat) (s : Stt) (A : Option Addr) (cp : Nat) (B : Option Addr) (cq : Nat) (C : Option Addr) (cr : Nat) (D : Option Addr) (l : List Page) (cd : Nat) (hl : l.length ≤ 140737488355328) : Ct Tryz.prog 147 [.slice D l.length cd, .func (.func 148) #[] #[.pointer (some ⟨b, 0, none⟩)]] [.cells b (sttL s A cp B cq C cr) 39] [Pers.row kPage D l]
    (fun u G Q => u = .bool (decide (¬ ∀ p ∈ l, p.ver ≤ s.num)) ∧ G = [.cells b (sttL s A cp B cq C cr) 39] ∧ Q = []) := by
 refine Ct.intro Tryz.func147 rfl rfl rfl (fun c hc => ?_)
 refine GC.sr_ ?_; refine GL.as_ rfl rfl ?_; refine GL.nl_ ?_; refine GC.sr_ ?_
 iterate 2 refine GL.mv_ rfl rfl ?_
 refine GL.step rfl (t_call rfl fn_166 rfl (is := [0]) (js := [0]) rfl rfl (by exact hidx_ct _ s _ _ _ _ _ _ _ _ _ hl)) (GL.ret ?_)
 rintro _ _ _ ⟨i7, hi7, rfl, rfl, rfl⟩
 refine GL.pure rfl (p_geq rfl rfl) ?_; refine GL.as_ rfl rfl ?_; refine GL.nl_ ?_; refine GC.ret ?_
 refine fun a w h => Fin.back (rs := [.tmp 4]) (vs := [_]) (is := [0]) (js := []) rfl ⟨rfl, trivial⟩ rfl rfl ?_ h
 clear h
 exact ⟨congrArg Value.bool (decide_eq_decide.2 hi7), rfl, rfl⟩
theorem held_ct (s : Stt) (A : Option Addr) (cp : Nat) (B : Option Addr) (cq : Nat) (C : Option Addr) (cr : Nat) (hs : SttLen s) : Ct Tryz.prog 121 [sttV s A cp B cq C cr] [] (sttQ s A B C) (fun u G Q => ∃ x, u = .tuple #[.pointer x, .bool (decide (heldOk s))] ∧ G = [] ∧ Q = []) := by
 obtain ⟨hp_, hr_, hm_, _, _⟩ := hs
 refine Ct.intro Tryz.func121 rfl rfl rfl (fun c hc => ?_)
 refine GC.sr_ ?_; refine GL.step rfl (t_box rfl rfl rfl) (GL.ex fun b_t1 => ?_)
 iterate 2 refine GL.as_ rfl rfl ?_
 refine GL.nl_ ?_; refine GC.seq' ?_; refine GC.sr_ ?_; refine GL.pure rfl (p_fieldAddr fo_39_0 rfl) ?_; refine GL.step rfl (t_mem rfl (m_load (i := 0) rfl rfl ag_3 rfl)) ?_; refine GL.pure rfl (p_lss rfl rfl) ?_; refine GL.mv_ rfl rfl ?_
 refine GL.split (i := 11) rfl (fun h1 => ?_) (fun h1 => ?_)
 ·try simp only [tst_, grpE_iff] at h1
  iterate 3 refine GL.pass (s := 11) rfl rfl rfl ?_
  refine GL.pure rfl (p_pick_true rfl rfl) ?_; refine GL.mv_ rfl rfl ?_
  iterate 4 refine GL.pass (s := 16) rfl rfl rfl ?_
  refine GL.pure rfl (p_pick_true rfl rfl) ?_; refine GL.nl_ ?_; refine GC.cond_true rfl ?_; refine GC.sr_ ?_
  iterate 2 refine GL.as_ rfl rfl ?_
  refine GL.nl_ ?_; refine GC.ret ?_
  refine fun a w h => Fin.back (rs := [.tmp 2, .tmp 3]) (vs := [_, _]) (is := []) (js := []) rfl ⟨rfl, rfl, trivial⟩ rfl rfl ?_ h
  clear h
  first | exact ⟨_, congrArg (fun b => Value.tuple #[.pointer _, .bool b]) (decide_eq_false (fun H => by obtain ⟨⟨g1, g2⟩, g3, g4, g5, g6, g7⟩ := H; first | omega | contradiction | simp_all)).symm, rfl, rfl⟩ | exact ⟨_, congrArg (fun b => Value.tuple #[.pointer _, .bool b]) (decide_eq_true (⟨⟨by omega, by omega⟩, by assumption, (he27.1 (by assumption)).1, (he27.1 (by assumption)).2, he33.1 (by assumption), by simp_all⟩)).symm, rfl, rfl⟩
 ·try simp only [tst_, grpE_iff] at h1
  refine GL.pureG (s := 11) rfl rfl rfl (p_fieldAddr fo_39_0 rfl) ?_; refine GL.stepG rfl (s := 11) rfl rfl (t_mem rfl (m_load (i := 0) rfl rfl ag_3 rfl)) ?_; refine GL.pureG (s := 11) rfl rfl rfl (p_gtr rfl rfl) ?_; refine GL.pure rfl (p_pick_false rfl rfl) ?_
  refine GL.mv_ rfl rfl ?_; refine GL.split (i := 16) rfl (fun h2 => ?_) (fun h2 => ?_)
  ·try simp only [tst_, grpE_iff] at h2
   iterate 4 refine GL.pass (s := 16) rfl rfl rfl ?_
   refine GL.pure rfl (p_pick_true rfl rfl) ?_; refine GL.nl_ ?_; refine GC.cond_true rfl ?_; refine GC.sr_ ?_
   iterate 2 refine GL.as_ rfl rfl ?_
   refine GL.nl_ ?_; refine GC.ret ?_
   refine fun a w h => Fin.back (rs := [.tmp 2, .tmp 3]) (vs := [_, _]) (is := []) (js := []) rfl ⟨rfl, rfl, trivial⟩ rfl rfl ?_ h
   clear h
   first | exact ⟨_, congrArg (fun b => Value.tuple #[.pointer _, .bool b]) (decide_eq_false (fun H => by obtain ⟨⟨g1, g2⟩, g3, g4, g5, g6, g7⟩ := H; first | omega | contradiction | simp_all)).symm, rfl, rfl⟩ | exact ⟨_, congrArg (fun b => Value.tuple #[.pointer _, .bool b]) (decide_eq_true (⟨⟨by omega, by omega⟩, by assumption, (he27.1 (by assumption)).1, (he27.1 (by assumption)).2, he33.1 (by assumption), by simp_all⟩)).symm, rfl, rfl⟩
  ·try simp only [tst_, grpE_iff] at h2
   refine GL.pureG (s := 16) rfl rfl rfl (p_fieldAddr fo_39_4 rfl) ?_; refine GL.stepG rfl (s := 16) rfl rfl (t_mem rfl (m_loadN (i := 0) rfl rfl ag_33 (vs := [_, _]) sz_33 ⟨rfl, rfl, trivial⟩)) ?_; refine GL.stepG rfl (s := 16) rfl rfl (t_call rfl fn_62 rfl (is := []) (js := [2]) rfl rfl (by exact mgroup_ct s.grp.epoch _ s.grp.members _ (by omega))) (GL.ret ?_)
   rintro _ _ _ ⟨rfl, rfl, rfl⟩
   refine GL.pureG (s := 16) rfl rfl rfl (p_neq rfl rfl) ?_; refine GL.pure rfl (p_pick_false rfl rfl) ?_; refine GL.nl_ ?_; refine GC.cond rfl (fun h3 => ?_) (fun h3 => ?_)
   ·try simp only [tst_, grpE_iff] at h3
    refine GC.sr_ ?_
    iterate 2 refine GL.as_ rfl rfl ?_
    refine GL.nl_ ?_; refine GC.ret ?_
    refine fun a w h => Fin.back (rs := [.tmp 2, .tmp 3]) (vs := [_, _]) (is := []) (js := []) rfl ⟨rfl, rfl, trivial⟩ rfl rfl ?_ h
    clear h
    first | exact ⟨_, congrArg (fun b => Value.tuple #[.pointer _, .bool b]) (decide_eq_false (fun H => by obtain ⟨⟨g1, g2⟩, g3, g4, g5, g6, g7⟩ := H; first | omega | contradiction | simp_all)).symm, rfl, rfl⟩ | exact ⟨_, congrArg (fun b => Value.tuple #[.pointer _, .bool b]) (decide_eq_true (⟨⟨by omega, by omega⟩, by assumption, (he27.1 (by assumption)).1, (he27.1 (by assumption)).2, he33.1 (by assumption), by simp_all⟩)).symm, rfl, rfl⟩
   ·try simp only [tst_, grpE_iff] at h3
    refine GC.skip (?_ : GC _ _ _ _)
    refine GC.sr_ ?_; refine GL.pure rfl (p_fieldAddr fo_39_1 rfl) ?_; refine GL.step rfl (t_mem rfl (m_loadN (i := 0) rfl rfl ag_35 (vs := [_, _]) sz_35 ⟨rfl, rfl, trivial⟩)) ?_; refine GL.pure rfl (p_fieldAddr fo_39_2 rfl) ?_
    refine GL.step rfl (t_mem rfl (m_load (i := 0) rfl rfl ag_36 rfl)) ?_; refine GL.step rfl (t_call rfl fn_145 rfl (is := []) (js := [0]) rfl rfl (by exact vload_ct s.shp.bl s.shp.sz _ s.pages _ (by omega))) (GL.ret ?_)
    rintro _ _ _ ⟨⟨x27, e27, rfl, he27⟩, rfl, rfl⟩
    refine GL.mv_ rfl rfl ?_
    iterate 2 refine GL.pure rfl (p_extract rfl rfl) ?_
    iterate 2 refine GL.as_ rfl rfl ?_
    refine GL.nl_ ?_; refine GC.sr_ ?_; refine GL.pure rfl (p_fieldAddr fo_39_3 rfl) ?_; refine GL.step rfl (t_mem rfl (m_load (i := 0) rfl rfl ag_37 rfl)) ?_; refine GL.step rfl (t_call rfl fn_146 rfl (is := []) (js := [1]) rfl rfl (by exact tload_ct _ s.rows _ (by omega))) (GL.ret ?_)
    rintro _ _ _ ⟨⟨x33, e33, rfl, he33⟩, rfl, rfl⟩
    refine GL.mv_ rfl rfl ?_
    iterate 2 refine GL.pure rfl (p_extract rfl rfl) ?_
    iterate 2 refine GL.as_ rfl rfl ?_
    refine GL.nl_ ?_; refine GC.seq' ?_; refine GC.sr_ ?_; refine GL.mv_ rfl rfl ?_; refine GL.pure rfl (p_neq rfl rfl) ?_; refine GL.mv_ rfl rfl ?_; refine GL.split (i := 38) rfl (fun h4 => ?_) (fun h4 => ?_)
    ·try simp only [tst_, grpE_iff] at h4
     iterate 2 refine GL.pass (s := 38) rfl rfl rfl ?_
     refine GL.pure rfl (p_pick_true rfl rfl) ?_; refine GL.mv_ rfl rfl ?_
     iterate 4 refine GL.pass (s := 42) rfl rfl rfl ?_
     refine GL.pure rfl (p_pick_true rfl rfl) ?_; refine GL.nl_ ?_; refine GC.cond_true rfl ?_; refine GC.sr_ ?_
     iterate 2 refine GL.as_ rfl rfl ?_
     refine GL.nl_ ?_; refine GC.ret ?_
     refine fun a w h => Fin.back (rs := [.tmp 2, .tmp 3]) (vs := [_, _]) (is := []) (js := []) rfl ⟨rfl, rfl, trivial⟩ rfl rfl ?_ h
     clear h
     first | exact ⟨_, congrArg (fun b => Value.tuple #[.pointer _, .bool b]) (decide_eq_false (fun H => by obtain ⟨⟨g1, g2⟩, g3, g4, g5, g6, g7⟩ := H; first | omega | contradiction | simp_all)).symm, rfl, rfl⟩ | exact ⟨_, congrArg (fun b => Value.tuple #[.pointer _, .bool b]) (decide_eq_true (⟨⟨by omega, by omega⟩, by assumption, (he27.1 (by assumption)).1, (he27.1 (by assumption)).2, he33.1 (by assumption), by simp_all⟩)).symm, rfl, rfl⟩
    ·try simp only [tst_, grpE_iff] at h4
     refine GL.pureG (s := 38) rfl rfl rfl (p_move rfl) ?_; refine GL.pureG (s := 38) rfl rfl rfl (p_neq rfl rfl) ?_; refine GL.pure rfl (p_pick_false rfl rfl) ?_; refine GL.mv_ rfl rfl ?_; refine GL.split (i := 42) rfl (fun h5 => ?_) (fun h5 => ?_)
     ·try simp only [tst_, grpE_iff] at h5
      iterate 4 refine GL.pass (s := 42) rfl rfl rfl ?_
      refine GL.pure rfl (p_pick_true rfl rfl) ?_; refine GL.nl_ ?_; refine GC.cond_true rfl ?_; refine GC.sr_ ?_
      iterate 2 refine GL.as_ rfl rfl ?_
      refine GL.nl_ ?_; refine GC.ret ?_
      refine fun a w h => Fin.back (rs := [.tmp 2, .tmp 3]) (vs := [_, _]) (is := []) (js := []) rfl ⟨rfl, rfl, trivial⟩ rfl rfl ?_ h
      clear h
      first | exact ⟨_, congrArg (fun b => Value.tuple #[.pointer _, .bool b]) (decide_eq_false (fun H => by obtain ⟨⟨g1, g2⟩, g3, g4, g5, g6, g7⟩ := H; first | omega | contradiction | simp_all)).symm, rfl, rfl⟩ | exact ⟨_, congrArg (fun b => Value.tuple #[.pointer _, .bool b]) (decide_eq_true (⟨⟨by omega, by omega⟩, by assumption, (he27.1 (by assumption)).1, (he27.1 (by assumption)).2, he33.1 (by assumption), by simp_all⟩)).symm, rfl, rfl⟩
     ·try simp only [tst_, grpE_iff] at h5
      refine GL.pureG (s := 42) rfl rfl rfl (p_fieldAddr fo_39_2 rfl) ?_; refine GL.stepG rfl (s := 42) rfl rfl (t_mem rfl (m_load (i := 0) rfl rfl ag_36 rfl)) ?_; refine GL.pureG (s := 42) rfl rfl rfl (p_makeFunc rfl rfl) ?_
      refine GL.stepG rfl (s := 42) rfl rfl (t_call rfl fn_147 rfl (is := [0]) (js := [0]) rfl rfl (by exact hcon_ct _ s _ _ _ _ _ _ _ s.pages _ (by omega))) (GL.ret ?_)
      rintro _ _ _ ⟨rfl, rfl, rfl⟩
      refine GL.pure rfl (p_pick_false rfl rfl) ?_; refine GL.nl_ ?_; refine GC.cond rfl (fun h6 => ?_) (fun h6 => ?_)
      ·try simp only [tst_, grpE_iff] at h6
       refine GC.sr_ ?_
       iterate 2 refine GL.as_ rfl rfl ?_
       refine GL.nl_ ?_; refine GC.ret ?_
       refine fun a w h => Fin.back (rs := [.tmp 2, .tmp 3]) (vs := [_, _]) (is := []) (js := []) rfl ⟨rfl, rfl, trivial⟩ rfl rfl ?_ h
       clear h
       first | exact ⟨_, congrArg (fun b => Value.tuple #[.pointer _, .bool b]) (decide_eq_false (fun H => by obtain ⟨⟨g1, g2⟩, g3, g4, g5, g6, g7⟩ := H; first | omega | contradiction | simp_all)).symm, rfl, rfl⟩ | exact ⟨_, congrArg (fun b => Value.tuple #[.pointer _, .bool b]) (decide_eq_true (⟨⟨by omega, by omega⟩, by assumption, (he27.1 (by assumption)).1, (he27.1 (by assumption)).2, he33.1 (by assumption), by simp_all⟩)).symm, rfl, rfl⟩
      ·try simp only [tst_, grpE_iff] at h6
       refine GC.skip (?_ : GC _ _ _ _)
       refine GC.seq' ?_; refine GC.regionC (m := 11) (is := [0]) (js := [0, 1, 2]) wide_ rfl rfl rfl ?_; refine GA.take 0 rfl (by kernel_rfl) (by kernel_rfl) (by kernel_rfl) rfl (fun a w h => h.mem (is := [0]) (js := [0, 1, 2]) rfl rfl) (i_pure (p_fieldAddr fo_39_0 rfl)) ?_
       refine GA.take 1 rfl (by kernel_rfl) (by kernel_rfl) (by kernel_rfl) rfl (fun a w h => h.mem (is := [0]) (js := [0, 1, 2]) rfl rfl) (i_mem (m_load (i := 0) rfl rfl ag_3 rfl)) ?_; refine GA.take 2 rfl (by kernel_rfl) (by kernel_rfl) (by kernel_rfl) rfl (fun a w h => h.mem (is := [0]) (js := [0, 1, 2]) rfl rfl) (i_pure (p_move rfl)) ?_
       refine GA.take 3 rfl (by kernel_rfl) (by kernel_rfl) (by kernel_rfl) rfl (fun a w h => h.mem (is := [0]) (js := [0, 1, 2]) rfl rfl) (i_pure (p_move rfl)) ?_; refine GA.take 4 rfl (by kernel_rfl) (by kernel_rfl) (by kernel_rfl) rfl (fun a w h => h.mem (is := [0]) (js := [0, 1, 2]) rfl rfl) (i_pure (p_fieldAddr fo_39_4 rfl)) ?_
       refine GA.take 5 rfl (by kernel_rfl) (by kernel_rfl) (by kernel_rfl) rfl (fun a w h => h.mem (is := [0]) (js := [0, 1, 2]) rfl rfl) (i_mem (m_loadN (i := 0) rfl rfl ag_33 (vs := [_, _]) sz_33 ⟨rfl, rfl, trivial⟩)) ?_
       refine GA.all (rs := [6]) (by kernel_rfl) (by simp) ?_
       refine GAs.cons (i := 6) rfl rfl (t_call rfl fn_149 rfl (is := []) (js := [2]) rfl rfl (by exact mown_ct s.grp.epoch _ s.grp.members _ (by omega))) (by rintro a w ⟨_, _, _, ⟨A54, cp54, rfl, rfl, rfl⟩, h⟩; exact h.mem (is := [0]) (js := [0, 1, 2]) rfl rfl) (GA.ret ?_) ?_
       ·rintro _ _ _ ⟨A54, cp54, rfl, rfl, rfl⟩
        refine GA.take 7 rfl (by kernel_rfl) (by kernel_rfl) (by kernel_rfl) rfl (fun a w h => h.mem (is := [0]) (js := [0, 1, 2]) rfl rfl) (i_pure (p_build ze_187 of_187 rfl rfl)) ?_; refine GA.all (rs := [8]) (by kernel_rfl) (by simp) ?_
        refine GAs.cons (i := 8) rfl rfl (t_box rfl rfl rfl) (by rintro a w ⟨_, h⟩; exact h.mem (is := [1]) (js := [0, 1, 2]) rfl rfl) (GA.ex fun b_t56 => ?_) ?_
        ·refine GA.take 9 rfl (by kernel_rfl) (by kernel_rfl) (by kernel_rfl) rfl (fun a w h => h.mem (is := [1]) (js := [0, 1, 2]) rfl rfl) (i_pure (p_assign rfl)) ?_; refine GA.take 10 rfl (by kernel_rfl) (by kernel_rfl) (by kernel_rfl) rfl (fun a w h => h.mem (is := [1]) (js := [0, 1, 2]) rfl rfl) (i_pure (p_assign rfl)) ?_
         refine GA.done (by kernel_rfl) (?_ : GC _ _ _ _)
         refine GC.ret ?_
         refine fun a w h => Fin.back (rs := [.tmp 2, .tmp 3]) (vs := [_, _]) (is := []) (js := []) rfl ⟨rfl, rfl, trivial⟩ rfl rfl ?_ h
         clear h
         first | exact ⟨_, congrArg (fun b => Value.tuple #[.pointer _, .bool b]) (decide_eq_false (fun H => by obtain ⟨⟨g1, g2⟩, g3, g4, g5, g6, g7⟩ := H; first | omega | contradiction | simp_all)).symm, rfl, rfl⟩ | exact ⟨_, congrArg (fun b => Value.tuple #[.pointer _, .bool b]) (decide_eq_true (⟨⟨by omega, by omega⟩, by assumption, (he27.1 (by assumption)).1, (he27.1 (by assumption)).2, he33.1 (by assumption), by simp_all⟩)).symm, rfl, rfl⟩
        exact GAs.nil
       exact GAs.nil
end Go.Proofs.YtdhdmbmknpjhbaaGreat
namespace Go.Proofs.YtdhdmbmknpjhbaaGreat
open Go Go.Sx Go.Proofs
theorem mload_ct (s : Stt) (A : Option Addr) (cp : Nat) (B : Option Addr) (cq : Nat) (C : Option Addr) (cr : Nat) (hs : SttLen s) : Ct Tryz.prog 109 [sttV s A cp B cq C cr] [] (sttQ s A B C) (fun u G Q => ∃ x, u = .tuple #[.pointer x, .int .i64 (if heldOk s then 0 else 72)] ∧ G = [] ∧ Q = []) := by
 refine Ct.intro Tryz.func109 rfl rfl rfl (fun c hc => ?_)
 refine GC.sr_ ?_; refine GL.step rfl (t_box rfl rfl rfl) (GL.ex fun b_t1 => ?_)
 iterate 2 refine GL.as_ rfl rfl ?_
 refine GL.nl_ ?_; refine GC.sr_ ?_; refine GL.step rfl (t_mem rfl (m_loadN (i := 0) rfl rfl ag_39 (vs := [_, _, _, _, _, _, _]) sz_39 ⟨rfl, rfl, rfl, rfl, rfl, rfl, rfl, trivial⟩)) ?_; refine GL.step rfl (t_call rfl fn_121 rfl (is := []) (js := [0, 1, 2]) rfl rfl (by exact held_ct s _ _ _ _ _ _ hs)) (GL.ret ?_)
 rintro _ _ _ ⟨x8, rfl, rfl, rfl⟩
 refine GL.mv_ rfl rfl ?_
 iterate 2 refine GL.pure rfl (p_extract rfl rfl) ?_
 iterate 2 refine GL.as_ rfl rfl ?_
 refine GL.nl_ ?_; refine GC.seq' ?_; refine GC.sr_ ?_; refine GL.mv_ rfl rfl ?_; refine GL.pure rfl (p_not rfl) ?_; refine GL.nl_ ?_; refine GC.cond rfl (fun h1 => ?_) (fun h1 => ?_)
 ·try simp only [tst_] at h1
  refine GC.sr_ ?_
  iterate 2 refine GL.as_ rfl rfl ?_
  refine GL.nl_ ?_; refine GC.ret ?_
  refine fun a w h => Fin.back (rs := [.tmp 2, .tmp 3]) (vs := [_, _]) (is := []) (js := []) rfl ⟨rfl, rfl, trivial⟩ rfl rfl ?_ h
  clear h
  first | (rw [if_pos (show heldOk s by assumption)]; exact ⟨_, rfl, rfl, rfl⟩) | (rw [if_neg (show ¬ heldOk s by assumption)]; exact ⟨_, rfl, rfl, rfl⟩)
 ·try simp only [tst_] at h1
  refine GC.skip (?_ : GC _ _ _ _)
  refine GC.sr_ ?_; refine GL.mv_ rfl rfl ?_
  iterate 2 refine GL.as_ rfl rfl ?_
  refine GL.nl_ ?_; refine GC.ret ?_
  refine fun a w h => Fin.back (rs := [.tmp 2, .tmp 3]) (vs := [_, _]) (is := []) (js := []) rfl ⟨rfl, rfl, trivial⟩ rfl rfl ?_ h
  clear h
  first | (rw [if_pos (show heldOk s by assumption)]; exact ⟨_, rfl, rfl, rfl⟩) | (rw [if_neg (show ¬ heldOk s by assumption)]; exact ⟨_, rfl, rfl, rfl⟩)
theorem lrow_nil : Ct Tryz.prog 110 [.slice none 0 0] [] [] (fun u G Q => u = .bool true ∧ G = [] ∧ Q = []) :=
  Ct.free (q := Pers.row kEntry none []) (Ct.mono (lrow_ct none [] 0 (by simp) (by simp)) fun u G Q h => ⟨h.1.trans (congrArg Value.bool (decide_eq_true (fun k hk => by simp at hk))), h.2⟩) (fun _ _ => .inl rfl)
theorem ldE_iff (s : Stt) : ((if heldOk s then (0 : Int) else 72) = 0) = heldOk s := by split <;> simp_all
theorem lchk_ct (s : Stt) (A : Option Addr) (cp : Nat) (B : Option Addr) (cq : Nat) (C : Option Addr) (cr : Nat) (hs : SttLen s) : Ct Tryz.prog 63 [.agg #[.int .i64 s.num, .int .i64 s.shp.bl, .int .i64 s.shp.sz, .slice A s.pages.length cp, .slice B s.rows.length cq, .int .i64 s.grp.epoch, .slice C s.grp.members.length cr, .slice none 0 0]] [] (sttQ s A B C) (fun u G Q => u = .int .i64 (if heldOk s then 0 else 150) ∧ G = [] ∧ Q = []) := by
 refine Ct.intro Tryz.func63 rfl rfl rfl (fun c hc => ?_)
 refine GC.sr_ ?_; refine GL.step rfl (t_box rfl rfl rfl) (GL.ex fun b_t1 => ?_); refine GL.as_ rfl rfl ?_; refine GL.nl_ ?_; refine GC.sr_ ?_; refine GL.pure rfl (p_fieldAddr fo_111_0 rfl) ?_; refine GL.step rfl (t_mem rfl (m_loadN (i := 0) rfl rfl ag_39 (vs := [_, _, _, _, _, _, _]) sz_39 ⟨rfl, rfl, rfl, rfl, rfl, rfl, rfl, trivial⟩)) ?_
 refine GL.step rfl (t_call rfl fn_109 rfl (is := []) (js := [0, 1, 2]) rfl rfl (by exact mload_ct s _ _ _ _ _ _ hs)) (GL.ret ?_)
 rintro _ _ _ ⟨x8, rfl, rfl, rfl⟩
 refine GL.mv_ rfl rfl ?_
 iterate 2 refine GL.pure rfl (p_extract rfl rfl) ?_
 iterate 2 refine GL.as_ rfl rfl ?_
 refine GL.nl_ ?_; refine GC.seq' ?_; refine GC.sr_ ?_; refine GL.mv_ rfl rfl ?_; refine GL.pure rfl (p_neq rfl rfl) ?_; refine GL.mv_ rfl rfl ?_; refine GL.split (i := 13) rfl (fun h1 => ?_) (fun h1 => ?_)
 ·try simp only [tst_, ldE_iff] at h1
  iterate 4 refine GL.pass (s := 13) rfl rfl rfl ?_
  refine GL.pure rfl (p_pick_true rfl rfl) ?_; refine GL.mv_ rfl rfl ?_
  iterate 7 refine GL.pass (s := 19) rfl rfl rfl ?_
  refine GL.pure rfl (p_pick_true rfl rfl) ?_; refine GL.nl_ ?_; refine GC.cond_true rfl ?_; refine GC.sr_ ?_; refine GL.as_ rfl rfl ?_; refine GL.nl_ ?_; refine GC.ret ?_
  refine fun a w h => Fin.back (rs := [.tmp 2]) (vs := [_]) (is := []) (js := []) rfl ⟨rfl, trivial⟩ rfl rfl ?_ h
  clear h
  first | exact ⟨by rw [if_pos (show heldOk s by assumption)]; rfl, rfl, rfl⟩ | exact ⟨by rw [if_neg (show ¬ heldOk s by assumption)]; rfl, rfl, rfl⟩
 ·try simp only [tst_, ldE_iff] at h1
  refine GL.pureG (s := 13) rfl rfl rfl (p_fieldAddr fo_111_1 rfl) ?_; refine GL.stepG rfl (s := 13) rfl rfl (t_mem rfl (m_load (i := 0) rfl rfl ag_40 rfl)) ?_; refine GL.stepG rfl (s := 13) rfl rfl (t_call rfl fn_110 rfl (is := []) (js := []) rfl rfl (by exact lrow_nil)) (GL.ret ?_)
  rintro _ _ _ ⟨rfl, rfl, rfl⟩
  refine GL.pureG (s := 13) rfl rfl rfl (p_not rfl) ?_; refine GL.pure rfl (p_pick_false rfl rfl) ?_; refine GL.mv_ rfl rfl ?_; refine GL.pureG (s := 19) rfl rfl rfl (p_fieldAddr fo_111_0 rfl) ?_; refine GL.pureG (s := 19) rfl rfl rfl (p_fieldAddr fo_39_0 rfl) ?_
  refine GL.stepG rfl (s := 19) rfl rfl (t_mem rfl (m_load (i := 0) rfl rfl ag_3 rfl)) ?_; refine GL.pureG (s := 19) rfl rfl rfl (p_fieldAddr fo_111_1 rfl) ?_; refine GL.stepG rfl (s := 19) rfl rfl (t_mem rfl (m_load (i := 0) rfl rfl ag_40 rfl)) ?_
  refine GL.stepG rfl (s := 19) rfl rfl (t_call rfl fn_111 rfl (is := []) (js := []) rfl rfl (by exact joins_nil _ _ _)) (GL.ret ?_)
  rintro _ _ _ ⟨rfl, rfl, rfl⟩
  refine GL.pureG (s := 19) rfl rfl rfl (p_not rfl) ?_; refine GL.pure rfl (p_pick_false rfl rfl) ?_; refine GL.nl_ ?_; refine GC.cond_false rfl ?_
  refine GC.skip (?_ : GC _ _ _ _)
  refine GC.sr_ ?_; refine GL.as_ rfl rfl ?_; refine GL.nl_ ?_; refine GC.ret ?_
  refine fun a w h => Fin.back (rs := [.tmp 2]) (vs := [_]) (is := []) (js := []) rfl ⟨rfl, trivial⟩ rfl rfl ?_ h
  clear h
  first | exact ⟨by rw [if_pos (show heldOk s by assumption)]; rfl, rfl, rfl⟩ | exact ⟨by rw [if_neg (show ¬ heldOk s by assumption)]; rfl, rfl, rfl⟩
theorem lcE_iff (s : Stt) : ((if heldOk s then (0 : Int) else 150) = 0) = heldOk s := by split <;> simp_all
def pbit (a b c d : Bool) : Int := (if a = true then 1 else 0) + (if b = true then 2 else 0) + (if c = true then 4 else 0) + (if d = true then 8 else 0)
theorem or_b1 : IntKind.u8.wrap ((BitVec.ofInt IntKind.u8.bits 0 ||| BitVec.ofInt IntKind.u8.bits 1).toNat : Int) = pbit true false false false := by decide
theorem or_b2 (a : Bool) : IntKind.u8.wrap ((BitVec.ofInt IntKind.u8.bits (pbit a false false false) ||| BitVec.ofInt IntKind.u8.bits 2).toNat : Int) = pbit a true false false := by cases a <;> decide
theorem or_b4 (a b : Bool) : IntKind.u8.wrap ((BitVec.ofInt IntKind.u8.bits (pbit a b false false) ||| BitVec.ofInt IntKind.u8.bits 4).toNat : Int) = pbit a b true false := by cases a <;> cases b <;> decide
theorem or_b8 (a b c : Bool) : IntKind.u8.wrap ((BitVec.ofInt IntKind.u8.bits (pbit a b c false) ||| BitVec.ofInt IntKind.u8.bits 8).toNat : Int) = pbit a b c true := by cases a <;> cases b <;> cases c <;> decide
def bi (a : Bool) (n : Int) : Int := if a = true then n else 0
theorem bi_iff (a : Bool) (n : Int) (h : n ≠ 0) : (bi a n = 0) = (a = false) := by cases a <;> simp [bi, h]
theorem bi1 (a : Bool) : (bi a 1 = 0) = (a = false) := bi_iff a 1 (by decide)
theorem bi2 (a : Bool) : (bi a 2 = 0) = (a = false) := bi_iff a 2 (by decide)
theorem bi4 (a : Bool) : (bi a 4 = 0) = (a = false) := bi_iff a 4 (by decide)
theorem bi8 (a : Bool) : (bi a 8 = 0) = (a = false) := bi_iff a 8 (by decide)
theorem and_b1 (a b c d : Bool) : IntKind.u8.wrap ((BitVec.ofInt IntKind.u8.bits (pbit a b c d) &&& BitVec.ofInt IntKind.u8.bits 1).toNat : Int) = bi a 1 := by revert a b c d; decide
theorem and_b2 (a b c d : Bool) : IntKind.u8.wrap ((BitVec.ofInt IntKind.u8.bits (pbit a b c d) &&& BitVec.ofInt IntKind.u8.bits 2).toNat : Int) = bi b 2 := by revert a b c d; decide
theorem and_b4 (a b c d : Bool) : IntKind.u8.wrap ((BitVec.ofInt IntKind.u8.bits (pbit a b c d) &&& BitVec.ofInt IntKind.u8.bits 4).toNat : Int) = bi c 4 := by revert a b c d; decide
theorem and_b8 (a b c d : Bool) : IntKind.u8.wrap ((BitVec.ofInt IntKind.u8.bits (pbit a b c d) &&& BitVec.ofInt IntKind.u8.bits 8).toNat : Int) = bi d 8 := by revert a b c d; decide
def partsN (m : Msg) : Int := pbit (decide (¬ m.op = zop)) (decide (¬ m.res = rz)) (decide (¬ m.grp = zgr)) (decide (¬ m.stt = zst))
theorem rz_iff (r : Res) : (r = rz) ↔ (r.code = 0 ∧ (r.data.length : Int) ≤ 0) := by
  rw [rs_ext]; simp only [rz]
  constructor
  · rintro ⟨h1, h2⟩; rw [h2]; exact ⟨h1, by simp⟩
  · rintro ⟨h1, h2⟩; exact ⟨h1, List.length_eq_zero_iff.1 (by omega)⟩
theorem zgr_iff (r : Grp) : (r = zgr) ↔ (r.epoch = 0 ∧ (r.members.length : Int) ≤ 0) := by
  rw [gr_ext]; simp only [zgr]
  constructor
  · rintro ⟨h1, h2⟩; rw [h2]; exact ⟨h1, by simp⟩
  · rintro ⟨h1, h2⟩; exact ⟨h1, List.length_eq_zero_iff.1 (by omega)⟩
end Go.Proofs.YtdhdmbmknpjhbaaGreat
