/- Texts of this claim, in one: what the law leans on (part 4). -/
import Derived.Test.YtdhdmbmknpjhbaaGreatK3
set_option linter.unusedVariables false
set_option linter.unusedSimpArgs false
set_option maxRecDepth 100000
namespace Go.Proofs.YtdhdmbmknpjhbaaGreat
open Go Go.Sx Go.Proofs
set_option maxHeartbeats 2000000 in
theorem encstt_all (s : Stt) (A : Option Addr) (cp : Nat) (B : Option Addr) (cq : Nat) (C : Option Addr) (cr : Nat) (hs : SttLen s) (hh : heldOk s) : Ct Tryz.prog 79 [sttV s A cp B cq C cr] [] (sttQ s A B C)
    (fun u G Q => ((sttB s).length ≤ 33554432 ∧ ∃ A' cp', (sttB s).length ≤ cp' ∧ cp' ≤ 9223372036854775807 ∧ u = .tuple #[.slice A' (sttB s).length cp', .int .i64 0] ∧ G = [rowOf A' cp' (sttB s)] ∧ Q = []) ∨ (33554432 < (sttB s).length ∧ u = .tuple #[.slice none 0 0, .int .i64 2] ∧ G = [] ∧ Q = [])) := by
 have hr := held_rng hh
 obtain ⟨n1, b1, s1, pl, rl, pg, rw_, gr⟩ := held_rng hh
 have hH := sttH_len s
 have hpa := pgs_all hr
 have hra := rws_all hr
 have hgl := grpB_len gr
 refine Ct.intro Tryz.func79 rfl rfl rfl (fun c hc => ?_)
 refine GC.sr_ ?_;refine GL.step rfl (t_box rfl rfl rfl) (GL.ex fun b_t1 => ?_);refine GL.rz 2 ?_;refine GC.seq' ?_;refine GC.sr_ ?_;refine GL.ln_ 0 7 ?_;refine GL.cl Tryz.call121 [] [0, 1, 2] rfl rfl rfl (by exact held_ok s hh _ _ _ _ _ _ hs) ?_
 rintro _ _ _ ⟨x17, rfl, rfl, rfl⟩
 refine GL.rz 5 ?_;refine GC.rg 2 ?_;refine GC.cond_false rfl ?_
 refine GC.skip (?_ : GC _ _ _ _)
 refine GC.joinK2 (ks := [1, 2, 3]) (is := [0]) (js := [0, 1, 2]) (fun (A1 : Option Addr) (c1 : Nat) => (sttH s).length ≤ c1 ∧ c1 ≤ 9223372036854775807) (fun (A1 : Option Addr) (c1 : Nat) => [(6, .slice A1 (sttH s).length c1)]) (fun (A1 : Option Addr) (c1 : Nat) => [rowOf A1 c1 (sttH s)]) (fun (A1 : Option Addr) (c1 : Nat) => []) rfl rfl rfl ?_ ?_
 ·refine GC.regionC (m := 16) (is := [0]) (js := [0, 1, 2]) wide_ rfl rfl rfl ?_;refine GA.tk 0 [0] [0, 1, 2] ?_;refine GA.tp 1 rfl [0] [0, 1, 2] (i_mem (m_load (i := 0) rfl rfl ag_3 rfl)) ?_;refine GA.tk 4 [0] [0, 1, 2] ?_
  refine GA.tk 5 [0] [0, 1, 2] ?_;refine GA.tp 6 rfl [0] [0, 1, 2] (i_mem (m_load (i := 0) rfl rfl ag_3 rfl)) ?_;refine GA.tk 7 [0] [0, 1, 2] ?_;refine GA.tk 8 [0] [0, 1, 2] ?_;refine GA.tp 9 rfl [0] [0, 1, 2] (i_mem (m_load (i := 0) rfl rfl ag_3 rfl)) ?_
  refine GA.tk 10 [0] [0, 1, 2] ?_;refine GA.tp 11 rfl [0] [0, 1, 2] (i_mem (m_load (i := 0) rfl rfl ag_36 rfl)) ?_;refine GA.tk 12 [0] [0, 1, 2] ?_;refine GA.al [2, 13] ?_
  refine GAs.cons (i := 2) rfl rfl (t_buildSlice rfl Tryz.underlying31 sz_3 ze_3 rfl rfl rfl rfl rfl rfl) (by rintro a w ⟨_, h⟩; exact h.me [1] [0, 1, 2]) (GA.ex fun b_t24 => ?_) ?_
  ·refine GA.freezeC (enc := iv) (xs := [s.num]) (h1 := fun _ => rfl) (i := 0) rfl ?_;refine GA.al [3, 13] ?_
   refine GAs.cons (i := 3) rfl rfl (t_call rfl Tryz.call122 rfl (is := []) (js := [0]) rfl rfl (by exact mput_nil 8 _ [s.num] _ (by omega) (by omega) (by simp) (by rw [p256_8]; intro x hx; simp at hx; omega) (by simp))) (by rintro a w ⟨_, _, _, ⟨A25, cp25, l25, k25, rfl, rfl, rfl⟩, h⟩; exact h.me [1] [1, 2, 3]) (GA.ret ?_) ?_
   ·rintro _ _ _ ⟨A25, cp25, l25, k25, rfl, rfl, rfl⟩
    refine GA.al [13] ?_
    refine GAs.cons (i := 13) rfl rfl (t_buildSlice rfl Tryz.underlying31 sz_3 ze_3 rfl rfl rfl rfl rfl rfl) (by rintro a w ⟨_, h⟩; exact h.me [2] [1, 2, 3]) (GA.ex fun b_t35 => ?_) GAs.nil
    refine GA.freezeC (enc := iv) (xs := [s.shp.bl, s.shp.sz, (s.pages.length : Int)]) (h1 := fun _ => rfl) (i := 0) rfl ?_;refine GA.freezeB (i := 0) rfl ?_;refine GA.al [14] ?_
    refine GAs.cons (i := 14) rfl rfl (t_call rfl Tryz.call122 rfl (is := []) (js := [0, 1]) rfl rfl (by exact mput_ct _ (flZ 8 [s.num]) _ 4 _ [s.shp.bl, s.shp.sz, (s.pages.length : Int)] _ (by omega) (by omega) (by simp [flZ_length]) (by rw [p256_4]; intro x hx; simp at hx; omega) (by simp))) (by rintro a w ⟨_, _, _, ⟨A36, cp36, l36, k36, rfl, rfl, rfl⟩, h⟩; exact h.me [1] [3, 4, 5]) (GA.ret ?_) GAs.nil
    rintro _ _ _ ⟨A36, cp36, l36, k36, rfl, rfl, rfl⟩
    refine GA.tk 15 [1] [3, 4, 5] ?_;refine GA.done (by kernel_rfl) ?_
    exact zq53_
   refine GAs.cons (i := 13) rfl rfl (t_buildSlice rfl Tryz.underlying31 sz_3 ze_3 rfl rfl rfl rfl rfl rfl) (by rintro a w ⟨_, h⟩; exact h.me [1] [1, 2, 3]) (GA.ex fun b_t35 => ?_) GAs.nil
   refine GA.al [3] ?_
   refine GAs.cons (i := 3) rfl rfl (t_call rfl Tryz.call122 rfl (is := []) (js := [0]) rfl rfl (by exact mput_nil 8 _ [s.num] _ (by omega) (by omega) (by simp) (by rw [p256_8]; intro x hx; simp at hx; omega) (by simp))) (by rintro a w ⟨_, _, _, ⟨A25, cp25, l25, k25, rfl, rfl, rfl⟩, h⟩; exact h.me [2] [1, 2, 3]) (GA.ret ?_) GAs.nil
   rintro _ _ _ ⟨A25, cp25, l25, k25, rfl, rfl, rfl⟩
   refine GA.freezeC (enc := iv) (xs := [s.shp.bl, s.shp.sz, (s.pages.length : Int)]) (h1 := fun _ => rfl) (i := 1) rfl ?_;refine GA.freezeB (i := 0) rfl ?_;refine GA.al [14] ?_
   refine GAs.cons (i := 14) rfl rfl (t_call rfl Tryz.call122 rfl (is := []) (js := [0, 1]) rfl rfl (by exact mput_ct _ (flZ 8 [s.num]) _ 4 _ [s.shp.bl, s.shp.sz, (s.pages.length : Int)] _ (by omega) (by omega) (by simp [flZ_length]) (by rw [p256_4]; intro x hx; simp at hx; omega) (by simp))) (by rintro a w ⟨_, _, _, ⟨A36, cp36, l36, k36, rfl, rfl, rfl⟩, h⟩; exact h.me [1] [3, 4, 5]) (GA.ret ?_) GAs.nil
   rintro _ _ _ ⟨A36, cp36, l36, k36, rfl, rfl, rfl⟩
   refine GA.tk 15 [1] [3, 4, 5] ?_;refine GA.done (by kernel_rfl) ?_
   exact zq53_
  refine GAs.cons (i := 13) rfl rfl (t_buildSlice rfl Tryz.underlying31 sz_3 ze_3 rfl rfl rfl rfl rfl rfl) (by rintro a w ⟨_, h⟩; exact h.me [1] [0, 1, 2]) (GA.ex fun b_t35 => ?_) GAs.nil
  refine GA.al [2] ?_
  refine GAs.cons (i := 2) rfl rfl (t_buildSlice rfl Tryz.underlying31 sz_3 ze_3 rfl rfl rfl rfl rfl rfl) (by rintro a w ⟨_, h⟩; exact h.me [2] [0, 1, 2]) (GA.ex fun b_t24 => ?_) GAs.nil
  refine GA.freezeC (enc := iv) (xs := [s.num]) (h1 := fun _ => rfl) (i := 0) rfl ?_;refine GA.al [3] ?_
  refine GAs.cons (i := 3) rfl rfl (t_call rfl Tryz.call122 rfl (is := []) (js := [0]) rfl rfl (by exact mput_nil 8 _ [s.num] _ (by omega) (by omega) (by simp) (by rw [p256_8]; intro x hx; simp at hx; omega) (by simp))) (by rintro a w ⟨_, _, _, ⟨A25, cp25, l25, k25, rfl, rfl, rfl⟩, h⟩; exact h.me [2] [1, 2, 3]) (GA.ret ?_) GAs.nil
  rintro _ _ _ ⟨A25, cp25, l25, k25, rfl, rfl, rfl⟩
  refine GA.freezeC (enc := iv) (xs := [s.shp.bl, s.shp.sz, (s.pages.length : Int)]) (h1 := fun _ => rfl) (i := 1) rfl ?_;refine GA.freezeB (i := 0) rfl ?_;refine GA.al [14] ?_
  refine GAs.cons (i := 14) rfl rfl (t_call rfl Tryz.call122 rfl (is := []) (js := [0, 1]) rfl rfl (by exact mput_ct _ (flZ 8 [s.num]) _ 4 _ [s.shp.bl, s.shp.sz, (s.pages.length : Int)] _ (by omega) (by omega) (by simp [flZ_length]) (by rw [p256_4]; intro x hx; simp at hx; omega) (by simp))) (by rintro a w ⟨_, _, _, ⟨A36, cp36, l36, k36, rfl, rfl, rfl⟩, h⟩; exact h.me [1] [3, 4, 5]) (GA.ret ?_) GAs.nil
  rintro _ _ _ ⟨A36, cp36, l36, k36, rfl, rfl, rfl⟩
  refine GA.tk 15 [1] [3, 4, 5] ?_;refine GA.done (by kernel_rfl) ?_
  exact zq53_
 intro A1 c1 hj4
 try dsimp only [List.cons_append, List.nil_append] at hj4 ⊢
 refine GC.seq' ?_;refine GC.rr 1 ?_;refine GL.ld_ 1 ?_;refine GL.rz 2 ?_;refine GC.block ?_;refine GC.loopK3 (ks := [1, 38, 39]) (is := [1]) (js := [0, 1, 2]) (fun (k : Nat) (A1 : Option Addr) (c1 : Nat) => k ≤ s.pages.length) (fun (k : Nat) (A1 : Option Addr) (c1 : Nat) => [(6, .slice A1 (sttH s ++ (s.pages.take k).flatMap pgB).length c1), (40, .int .i64 (k : Int))]) (fun (k : Nat) (A1 : Option Addr) (c1 : Nat) => [rowOf A1 c1 (sttH s ++ (s.pages.take k).flatMap pgB)]) (fun (k : Nat) (A1 : Option Addr) (c1 : Nat) => []) (fun (k : Nat) (A1 : Option Addr) (c1 : Nat) => s.pages.length - k) (0) (_) (_) rfl rfl rfl (fun a w h => ⟨by omega, by simp only [List.take_zero, List.flatMap_nil, List.append_nil]; exact h.cutK (is := [0, 0]) (js := [0, 1, 2]) (ks := [1, 38, 39]) ⟨rfl, rfl, trivial⟩ rfl rfl rfl⟩) ?_
 intro k A1 c1 hk
 try dsimp only [List.cons_append, List.nil_append] at hk ⊢
 refine GC.rg 1 ?_;refine GC.seq' ?_;refine GC.co ?_ ?_
 ·intro h1; try simp only [tst_] at h1
  first
  | (exfalso; omega)
  |(skip
    refine GC.skip (?_ : GC _ _ _ _)
    refine GC.seq' ?_;refine GC.block ?_;refine GC.seq' ?_
    have hx := pg _ (gt_elem (l := s.pages) (k := k) (by omega))
    refine GC.region ?_;refine GL.step rfl (t_index (i := 0) rfl rfl rfl rfl Tryz.underlying36 sz_59 (by omega) (gt_ok (by omega) (by omega))) (GL.ex fun p_x42 => GL.ex fun r_x42 => GL.and fun ok_x42 => ?_)
    rcases r_x42 with ⟨_, ⟨_, ⟨Ax42_0, cpx42_0⟩⟩⟩
    refine GL.step rfl (t_mem rfl (m_loadPN (i := 0) rfl rfl ag_59 (vs := [_, _, _]) sz_59 ⟨rfl, rfl, rfl, trivial⟩)) ?_;refine GL.step rfl (t_alloc rfl ze_59) (GL.ex fun b_t8 => ?_);refine GL.sn_ 0 ?_
    refine GL.nil (?_ : GC _ _ _ _)
    refine GC.joinK2 (ks := [1, 6, 38, 39, 40]) (is := [0, 1, 2]) (js := (up 0 5)) (fun (A2 : Option Addr) (c2 : Nat) => (pgB (gt s.pages (k : Int))).length ≤ c2 ∧ c2 ≤ 9223372036854775807) (fun (A2 : Option Addr) (c2 : Nat) => [(9, .slice A2 (pgB (gt s.pages (k : Int))).length c2)]) (fun (A2 : Option Addr) (c2 : Nat) => [rowOf A2 c2 (pgB (gt s.pages (k : Int)))]) (fun (A2 : Option Addr) (c2 : Nat) => []) rfl rfl rfl ?_ ?_
    ·refine GC.regionC (m := 16) (is := [0, 0, 0]) (js := (up 0 5)) wide_ rfl rfl rfl ?_;refine GA.tk 0 [0, 0, 0] (up 0 5) ?_;refine GA.tp 1 rfl [0, 0, 0] (up 0 5) (i_mem (m_load (i := 0) rfl rfl ag_3 rfl)) ?_;refine GA.tk 4 [0, 0, 0] (up 0 5) ?_
     refine GA.tp 5 rfl [0, 0, 0] (up 0 5) (i_mem (m_load (i := 0) rfl rfl ag_3 rfl)) ?_;refine GA.tk 8 [0, 0, 0] (up 0 5) ?_;refine GA.tp 9 rfl [0, 0, 0] (up 0 5) (i_mem (m_load (i := 0) rfl rfl ag_25 rfl)) ?_;refine GA.al [2, 6] ?_
     refine GAs.cons (i := 2) rfl rfl (t_buildSlice rfl Tryz.underlying31 sz_3 ze_3 rfl rfl rfl rfl rfl rfl) (by rintro a w ⟨_, h⟩; exact h.me [1, 1, 1] (up 0 5)) (GA.ex fun b_t47 => ?_) ?_
     ·refine GA.freezeC (enc := iv) (xs := [(gt s.pages (k : Int)).at_]) (h1 := fun _ => rfl) (i := 0) rfl ?_;refine GA.al [3, 6] ?_
      refine GAs.cons (i := 3) rfl rfl (t_call rfl Tryz.call122 rfl (is := []) (js := [0]) rfl rfl (by exact mput_nil 4 _ [(gt s.pages (k : Int)).at_] _ (by omega) (by omega) (by simp) (by rw [p256_4]; intro x hx; simp at hx; omega) (by simp))) (by rintro a w ⟨_, _, _, ⟨A48, cp48, l48, k48, rfl, rfl, rfl⟩, h⟩; exact h.me [1, 1, 1] (up 1 5)) (GA.ret ?_) ?_
      ·rintro _ _ _ ⟨A48, cp48, l48, k48, rfl, rfl, rfl⟩
       refine GA.al [6] ?_
       refine GAs.cons (i := 6) rfl rfl (t_buildSlice rfl Tryz.underlying31 sz_3 ze_3 rfl rfl rfl rfl rfl rfl) (by rintro a w ⟨_, h⟩; exact h.me [2, 2, 2] (up 1 5)) (GA.ex fun b_t51 => ?_) GAs.nil
       refine GA.freezeC (enc := iv) (xs := [(gt s.pages (k : Int)).ver]) (h1 := fun _ => rfl) (i := 0) rfl ?_;refine GA.freezeB (i := 0) rfl ?_;refine GA.al [7] ?_
       refine GAs.cons (i := 7) rfl rfl (t_call rfl Tryz.call122 rfl (is := []) (js := [0, 1]) rfl rfl (by exact mput_ct _ (flZ 4 [(gt s.pages (k : Int)).at_]) _ 8 _ [(gt s.pages (k : Int)).ver] _ (by omega) (by omega) (by simp [flZ_length]) (by rw [p256_8]; intro x hx; simp at hx; omega) (by simp))) (by rintro a w ⟨_, _, _, ⟨A52, cp52, l52, k52, rfl, rfl, rfl⟩, h⟩; exact h.me [1, 1, 1] (up 3 5)) (GA.ret ?_) GAs.nil
       rintro _ _ _ ⟨A52, cp52, l52, k52, rfl, rfl, rfl⟩
       refine GA.freezeB (i := 0) rfl ?_;refine GA.al [10] ?_
       refine GAs.cons (i := 10) rfl rfl (t_call rfl Tryz.call82 rfl (is := []) (js := [0, 5]) rfl rfl (by exact otext_ct _ (flZ 4 [(gt s.pages (k : Int)).at_] ++ flZ 8 [(gt s.pages (k : Int)).ver]) _ _ (gt s.pages (k : Int)).data _ (by simp [flZ_length]) (by omega))) (by rintro a w ⟨_, _, _, ⟨A55, cp55, l55, k55, rfl, rfl, rfl⟩, h⟩; exact h.me [1, 1, 1] (up 4 5)) (GA.ret ?_) GAs.nil
       rintro _ _ _ ⟨A55, cp55, l55, k55, rfl, rfl, rfl⟩
       refine GA.tk 11 [1, 1, 1] (up 4 5) ?_;refine GA.tk 12 [1, 1, 1] (up 4 5) ?_;refine GA.tk 13 [1, 1, 1] (up 4 5) ?_;refine GA.tk 14 [1, 1, 1] (up 4 5) ?_;refine GA.tk 15 [1, 1, 1] (up 4 5) ?_;refine GA.done (by kernel_rfl) ?_
       exact zq54_
      refine GAs.cons (i := 6) rfl rfl (t_buildSlice rfl Tryz.underlying31 sz_3 ze_3 rfl rfl rfl rfl rfl rfl) (by rintro a w ⟨_, h⟩; exact h.me [1, 1, 1] (up 1 5)) (GA.ex fun b_t51 => ?_) GAs.nil
      refine GA.al [3] ?_
      refine GAs.cons (i := 3) rfl rfl (t_call rfl Tryz.call122 rfl (is := []) (js := [0]) rfl rfl (by exact mput_nil 4 _ [(gt s.pages (k : Int)).at_] _ (by omega) (by omega) (by simp) (by rw [p256_4]; intro x hx; simp at hx; omega) (by simp))) (by rintro a w ⟨_, _, _, ⟨A48, cp48, l48, k48, rfl, rfl, rfl⟩, h⟩; exact h.me [2, 2, 2] (up 1 5)) (GA.ret ?_) GAs.nil
      rintro _ _ _ ⟨A48, cp48, l48, k48, rfl, rfl, rfl⟩
      refine GA.freezeC (enc := iv) (xs := [(gt s.pages (k : Int)).ver]) (h1 := fun _ => rfl) (i := 1) rfl ?_;refine GA.freezeB (i := 0) rfl ?_;refine GA.al [7] ?_
      refine GAs.cons (i := 7) rfl rfl (t_call rfl Tryz.call122 rfl (is := []) (js := [0, 1]) rfl rfl (by exact mput_ct _ (flZ 4 [(gt s.pages (k : Int)).at_]) _ 8 _ [(gt s.pages (k : Int)).ver] _ (by omega) (by omega) (by simp [flZ_length]) (by rw [p256_8]; intro x hx; simp at hx; omega) (by simp))) (by rintro a w ⟨_, _, _, ⟨A52, cp52, l52, k52, rfl, rfl, rfl⟩, h⟩; exact h.me [1, 1, 1] (up 3 5)) (GA.ret ?_) GAs.nil
      rintro _ _ _ ⟨A52, cp52, l52, k52, rfl, rfl, rfl⟩
      refine GA.freezeB (i := 0) rfl ?_;refine GA.al [10] ?_
      refine GAs.cons (i := 10) rfl rfl (t_call rfl Tryz.call82 rfl (is := []) (js := [0, 5]) rfl rfl (by exact otext_ct _ (flZ 4 [(gt s.pages (k : Int)).at_] ++ flZ 8 [(gt s.pages (k : Int)).ver]) _ _ (gt s.pages (k : Int)).data _ (by simp [flZ_length]) (by omega))) (by rintro a w ⟨_, _, _, ⟨A55, cp55, l55, k55, rfl, rfl, rfl⟩, h⟩; exact h.me [1, 1, 1] (up 4 5)) (GA.ret ?_) GAs.nil
      rintro _ _ _ ⟨A55, cp55, l55, k55, rfl, rfl, rfl⟩
      refine GA.tk 11 [1, 1, 1] (up 4 5) ?_;refine GA.tk 12 [1, 1, 1] (up 4 5) ?_;refine GA.tk 13 [1, 1, 1] (up 4 5) ?_;refine GA.tk 14 [1, 1, 1] (up 4 5) ?_;refine GA.tk 15 [1, 1, 1] (up 4 5) ?_;refine GA.done (by kernel_rfl) ?_
      exact zq54_
     refine GAs.cons (i := 6) rfl rfl (t_buildSlice rfl Tryz.underlying31 sz_3 ze_3 rfl rfl rfl rfl rfl rfl) (by rintro a w ⟨_, h⟩; exact h.me [1, 1, 1] (up 0 5)) (GA.ex fun b_t51 => ?_) GAs.nil
     refine GA.al [2] ?_
     refine GAs.cons (i := 2) rfl rfl (t_buildSlice rfl Tryz.underlying31 sz_3 ze_3 rfl rfl rfl rfl rfl rfl) (by rintro a w ⟨_, h⟩; exact h.me [2, 2, 2] (up 0 5)) (GA.ex fun b_t47 => ?_) GAs.nil
     refine GA.freezeC (enc := iv) (xs := [(gt s.pages (k : Int)).at_]) (h1 := fun _ => rfl) (i := 0) rfl ?_;refine GA.al [3] ?_
     refine GAs.cons (i := 3) rfl rfl (t_call rfl Tryz.call122 rfl (is := []) (js := [0]) rfl rfl (by exact mput_nil 4 _ [(gt s.pages (k : Int)).at_] _ (by omega) (by omega) (by simp) (by rw [p256_4]; intro x hx; simp at hx; omega) (by simp))) (by rintro a w ⟨_, _, _, ⟨A48, cp48, l48, k48, rfl, rfl, rfl⟩, h⟩; exact h.me [2, 2, 2] (up 1 5)) (GA.ret ?_) GAs.nil
     rintro _ _ _ ⟨A48, cp48, l48, k48, rfl, rfl, rfl⟩
     refine GA.freezeC (enc := iv) (xs := [(gt s.pages (k : Int)).ver]) (h1 := fun _ => rfl) (i := 1) rfl ?_;refine GA.freezeB (i := 0) rfl ?_;refine GA.al [7] ?_
     refine GAs.cons (i := 7) rfl rfl (t_call rfl Tryz.call122 rfl (is := []) (js := [0, 1]) rfl rfl (by exact mput_ct _ (flZ 4 [(gt s.pages (k : Int)).at_]) _ 8 _ [(gt s.pages (k : Int)).ver] _ (by omega) (by omega) (by simp [flZ_length]) (by rw [p256_8]; intro x hx; simp at hx; omega) (by simp))) (by rintro a w ⟨_, _, _, ⟨A52, cp52, l52, k52, rfl, rfl, rfl⟩, h⟩; exact h.me [1, 1, 1] (up 3 5)) (GA.ret ?_) GAs.nil
     rintro _ _ _ ⟨A52, cp52, l52, k52, rfl, rfl, rfl⟩
     refine GA.freezeB (i := 0) rfl ?_;refine GA.al [10] ?_
     refine GAs.cons (i := 10) rfl rfl (t_call rfl Tryz.call82 rfl (is := []) (js := [0, 5]) rfl rfl (by exact otext_ct _ (flZ 4 [(gt s.pages (k : Int)).at_] ++ flZ 8 [(gt s.pages (k : Int)).ver]) _ _ (gt s.pages (k : Int)).data _ (by simp [flZ_length]) (by omega))) (by rintro a w ⟨_, _, _, ⟨A55, cp55, l55, k55, rfl, rfl, rfl⟩, h⟩; exact h.me [1, 1, 1] (up 4 5)) (GA.ret ?_) GAs.nil
     rintro _ _ _ ⟨A55, cp55, l55, k55, rfl, rfl, rfl⟩
     refine GA.tk 11 [1, 1, 1] (up 4 5) ?_;refine GA.tk 12 [1, 1, 1] (up 4 5) ?_;refine GA.tk 13 [1, 1, 1] (up 4 5) ?_;refine GA.tk 14 [1, 1, 1] (up 4 5) ?_;refine GA.tk 15 [1, 1, 1] (up 4 5) ?_;refine GA.done (by kernel_rfl) ?_
     exact zq54_
    intro A2 c2 hj8
    try dsimp only [List.cons_append, List.nil_append] at hj8 ⊢
    refine GC.region ?_;refine GL.rn 2 ?_;refine GL.freezeB (i := 0) rfl ?_;refine GL.step rfl (t_appendS (i := 1) (k := 0) rfl el_25 rfl rfl rfl rfl (by (try simp only [List.length_append, List.length_cons, List.length_nil, List.length_map, flZ_length, flI_length, leN_length]); first | omega | (have := pgs_len hr k; have := pgB_len (pg _ (gt_elem (l := s.pages) (k := k) (by omega))).2.2.2.2; omega) | (have := rws_len hr k; have := rowBy_len (rw_ _ (gt_elem (l := s.rows) (k := k) (by omega))).2.2; simp only [rowBy, List.length_append, flZ_length, List.length_cons, List.length_nil] at this; omega)) (fun _ => rfl)) (GL.ex fun v60 => ?_)
    refine GL.rowIs (i := 1) (m' := ((sttH s ++ (s.pages.take k).flatMap pgB ++ pgB (gt s.pages (k : Int)))).length) (cs' := ((sttH s ++ (s.pages.take k).flatMap pgB ++ pgB (gt s.pages (k : Int)))).map u8v) rfl (by first | (simp only [List.length_append, List.length_cons, List.length_nil, List.append_assoc]; done) | (simp only [List.length_append, List.length_cons, List.length_nil, List.append_assoc]; omega) | (simp [rowBy]; done) | (simp [rowBy]; omega) | rfl) (by first | (simp only [List.map_append, List.map_cons, List.map_nil, List.append_assoc]; done) | (simp [rowBy]; done) | rfl) rfl ?_
    refine GL.shape (i := 1) rfl (fun A_b c_b e_b l_b k_b => ?_)
    subst e_b
    refine GL.rn 1 ?_
    refine GL.nil (?_ : GC _ _ _ _)
    refine GC.region ?_;refine GL.pure rfl (p_add rfl rfl (w64 (by omega) (by omega))) ?_;refine GL.rn 1 ?_;refine GL.nil ?_
    exact fun a w h => ⟨(k + 1), (A_b), (c_b), (by omega), by omega, by rw [fm_take (by omega), ← List.append_assoc]; exact h.ct [1, 1] [3, 4, 5]⟩)
 intro h1; try simp only [tst_] at h1
 first
 | (exfalso; omega)
 |(skip
   refine GC.exit (?_ : GC _ _ _ _)
   refine GC.seq' ?_
   obtain rfl : k = s.pages.length := by omega
   rw [List.take_length]
   refine GC.region ?_;refine GL.rn 2 ?_;refine GL.ld_ 1 ?_;refine GL.rn 1 ?_;refine GL.pure rfl (p_convR (t := 3) (r := (((byI (s.rows.length : Int)).toNat : Nat) : Int)) (by rw [Tryz.underlying3]; simp) Tryz.underlying5 rfl (cv8 (by omega) (by omega))) ?_
   refine GL.step rfl (t_buildSlice rfl Tryz.underlying25 sz_5 ze_5 rfl rfl rfl rfl rfl rfl) (GL.ex fun b_t67 => ?_);refine GL.step rfl (t_append (i := 1) (k := 0) rfl el_25 rfl rfl rfl rfl rfl (allOne_mem rfl) (by (try simp only [List.length_append, List.length_cons, List.length_nil, List.length_map, flZ_length, flI_length, leN_length]); first | omega | (have := pgs_len hr k; have := pgB_len (pg _ (gt_elem (l := s.pages) (k := k) (by omega))).2.2.2.2; omega) | (have := rws_len hr k; have := rowBy_len (rw_ _ (gt_elem (l := s.rows) (k := k) (by omega))).2.2; simp only [rowBy, List.length_append, flZ_length, List.length_cons, List.length_nil] at this; omega)) (fun _ => rfl)) (GL.ex fun v68 => ?_)
   refine GL.rowIs (i := 1) (m' := ((sttH s ++ s.pages.flatMap pgB ++ [byI (s.rows.length : Int)])).length) (cs' := ((sttH s ++ s.pages.flatMap pgB ++ [byI (s.rows.length : Int)])).map u8v) rfl (by first | (simp only [List.length_append, List.length_cons, List.length_nil, List.append_assoc]; done) | (simp only [List.length_append, List.length_cons, List.length_nil, List.append_assoc]; omega) | (simp [rowBy]; done) | (simp [rowBy]; omega) | rfl) (by first | (simp only [List.map_append, List.map_cons, List.map_nil, List.append_assoc]; done) | (simp [rowBy]; done) | rfl) rfl ?_
   refine GL.shape (i := 1) rfl (fun A_b c_b e_b l_b k_b => ?_)
   subst e_b
   refine GL.rn 1 ?_
   refine GL.nil (?_ : GC _ _ _ _)
   refine GC.seq' ?_;refine GC.rr 1 ?_;refine GL.ld_ 2 ?_;refine GL.rz 2 ?_;refine GC.block ?_;refine GC.loopK3 (ks := [1, 70, 71]) (is := [0, 2]) (js := [0, 1, 2]) (fun (k : Nat) (A1 : Option Addr) (c1 : Nat) => k ≤ s.rows.length) (fun (k : Nat) (A1 : Option Addr) (c1 : Nat) => [(6, .slice A1 (sttH s ++ s.pages.flatMap pgB ++ [byI (s.rows.length : Int)] ++ (s.rows.take k).flatMap rowBy).length c1), (72, .int .i64 (k : Int))]) (fun (k : Nat) (A1 : Option Addr) (c1 : Nat) => [rowOf A1 c1 (sttH s ++ s.pages.flatMap pgB ++ [byI (s.rows.length : Int)] ++ (s.rows.take k).flatMap rowBy)]) (fun (k : Nat) (A1 : Option Addr) (c1 : Nat) => []) (fun (k : Nat) (A1 : Option Addr) (c1 : Nat) => s.rows.length - k) (0) (_) (_) rfl rfl rfl (fun a w h => ⟨by omega, by simp only [List.take_zero, List.flatMap_nil, List.append_nil]; exact h.cutK (is := [1, 0, 0]) (js := [0, 1, 2]) (ks := [1, 70, 71]) ⟨rfl, rfl, trivial⟩ rfl rfl rfl⟩) ?_
   intro k A1 c1 hk
   try dsimp only [List.cons_append, List.nil_append] at hk ⊢
   refine GC.rg 1 ?_;refine GC.seq' ?_;refine GC.co ?_ ?_
   ·intro h2; try simp only [tst_] at h2
    first
    | (exfalso; omega)
    |(skip
      refine GC.skip (?_ : GC _ _ _ _)
      refine GC.seq' ?_;refine GC.block ?_;refine GC.seq' ?_
      have hx := rw_ _ (gt_elem (l := s.rows) (k := k) (by omega))
      refine GC.region ?_;refine GL.step rfl (t_index (i := 1) rfl rfl rfl rfl Tryz.underlying37 sz_61 (by omega) (gt_ok (by omega) (by omega))) (GL.ex fun p_x74 => GL.ex fun r_x74 => GL.and fun ok_x74 => ?_)
      rcases r_x74 with ⟨_, ⟨_, ⟨_, ⟨Ax74_0, cpx74_0⟩⟩⟩⟩
      refine GL.step rfl (t_mem rfl (m_loadPN (i := 0) rfl rfl ag_61 (vs := [_, _, _, _]) sz_61 ⟨rfl, rfl, rfl, rfl, trivial⟩)) ?_;refine GL.step rfl (t_alloc rfl ze_61) (GL.ex fun b_t12 => ?_);refine GL.sn_ 0 ?_
      refine GL.nil (?_ : GC _ _ _ _)
      refine GC.rr 1 ?_;refine GL.ln_ 0 2 ?_;refine GL.cl Tryz.call78 [] [1] rfl rfl rfl (by exact encres_ct (gt s.rows (k : Int)).result _ _ hx.2.2) ?_
      rintro _ _ _ ⟨A79, cp79, l79, k79, rfl, rfl, rfl⟩
      refine GL.rz 5 ?_;refine GC.region ?_;refine GL.rn 2 ?_;refine GL.ld_ 1 ?_;refine GL.rn 1 ?_;refine GL.ld_ 1 ?_;refine GL.step rfl (t_buildSlice rfl Tryz.underlying31 sz_3 ze_3 rfl rfl rfl rfl rfl rfl) (GL.ex fun b_t87 => ?_)
      refine GL.freezeC (enc := iv) (xs := [(gt s.rows (k : Int)).client, (gt s.rows (k : Int)).serial]) (h1 := fun _ => rfl) (i := 0) rfl ?_;refine GL.cl Tryz.call122 [] [0] rfl rfl rfl (by exact mput_nil 8 _ [(gt s.rows (k : Int)).client, (gt s.rows (k : Int)).serial] _ (by omega) (by omega) (by simp) (by rw [p256_8]; intro x hx; simp at hx; omega) (by simp)) ?_
      rintro _ _ _ ⟨A88, cp88, l88, k88, rfl, rfl, rfl⟩
      refine GL.freezeB (i := 0) rfl ?_;refine GL.step rfl (t_appendS (i := 2) (k := 0) rfl el_25 rfl rfl rfl rfl (by (try simp only [List.length_append, List.length_cons, List.length_nil, List.length_map, flZ_length, flI_length, leN_length]); first | omega | (have := pgs_len hr k; have := pgB_len (pg _ (gt_elem (l := s.pages) (k := k) (by omega))).2.2.2.2; omega) | (have := rws_len hr k; have := rowBy_len (rw_ _ (gt_elem (l := s.rows) (k := k) (by omega))).2.2; simp only [rowBy, List.length_append, flZ_length, List.length_cons, List.length_nil] at this; omega)) (fun _ => rfl)) (GL.ex fun v89 => ?_)
      refine GL.rn 1 ?_;refine GL.freezeB (i := 0) rfl ?_;refine GL.step rfl (t_appendS (i := 1) (k := 0) rfl el_25 rfl rfl rfl rfl (by (try simp only [List.length_append, List.length_cons, List.length_nil, List.length_map, flZ_length, flI_length, leN_length]); first | omega | (have := pgs_len hr k; have := pgB_len (pg _ (gt_elem (l := s.pages) (k := k) (by omega))).2.2.2.2; omega) | (have := rws_len hr k; have := rowBy_len (rw_ _ (gt_elem (l := s.rows) (k := k) (by omega))).2.2; simp only [rowBy, List.length_append, flZ_length, List.length_cons, List.length_nil] at this; omega)) (fun _ => rfl)) (GL.ex fun v91 => ?_)
      refine GL.rowIs (i := 1) (m' := ((sttH s ++ s.pages.flatMap pgB ++ [byI (s.rows.length : Int)] ++ (s.rows.take k).flatMap rowBy ++ rowBy (gt s.rows (k : Int)))).length) (cs' := ((sttH s ++ s.pages.flatMap pgB ++ [byI (s.rows.length : Int)] ++ (s.rows.take k).flatMap rowBy ++ rowBy (gt s.rows (k : Int)))).map u8v) rfl (by first | (simp only [List.length_append, List.length_cons, List.length_nil, List.append_assoc]; done) | (simp only [List.length_append, List.length_cons, List.length_nil, List.append_assoc]; omega) | (simp [rowBy]; done) | (simp [rowBy]; omega) | rfl) (by first | (simp only [List.map_append, List.map_cons, List.map_nil, List.append_assoc]; done) | (simp [rowBy]; done) | rfl) rfl ?_
      refine GL.shape (i := 1) rfl (fun A_b c_b e_b l_b k_b => ?_)
      subst e_b
      refine GL.rn 1 ?_
      refine GL.nil (?_ : GC _ _ _ _)
      refine GC.region ?_;refine GL.pure rfl (p_add rfl rfl (w64 (by omega) (by omega))) ?_;refine GL.rn 1 ?_;refine GL.nil ?_
      exact fun a w h => ⟨(k + 1), (A_b), (c_b), (by omega), by omega, by rw [fm_take (by omega), ← List.append_assoc]; exact h.ct [1, 1, 1] [5, 6, 7]⟩)
   intro h2; try simp only [tst_] at h2
   first
   | (exfalso; omega)
   |(skip
     refine GC.exit (?_ : GC _ _ _ _)
     refine GC.seq' ?_
     obtain rfl : k = s.rows.length := by omega
     rw [List.take_length]
     refine GC.region ?_;refine GL.rn 2 ?_;refine GL.ln_ 2 2 ?_;refine GL.cl Tryz.call123 [] [2] rfl rfl rfl (by exact mpg_nil s.grp _ _ gr) ?_
     rintro _ _ _ ⟨A96, cp96, l96, k96, rfl, rfl, rfl⟩
     refine GL.freezeB (i := 0) rfl ?_;refine GL.step rfl (t_appendS (i := 0) (k := 0) rfl el_25 rfl rfl rfl rfl (by (try simp only [List.length_append, List.length_cons, List.length_nil, List.length_map, flZ_length, flI_length, leN_length]); first | omega | (have := pgs_len hr k; have := pgB_len (pg _ (gt_elem (l := s.pages) (k := k) (by omega))).2.2.2.2; omega) | (have := rws_len hr k; have := rowBy_len (rw_ _ (gt_elem (l := s.rows) (k := k) (by omega))).2.2; simp only [rowBy, List.length_append, flZ_length, List.length_cons, List.length_nil] at this; omega)) (fun _ => rfl)) (GL.ex fun v97 => ?_)
     refine GL.rowIs (i := 0) (m' := ((sttH s ++ s.pages.flatMap pgB ++ [byI (s.rows.length : Int)] ++ s.rows.flatMap rowBy ++ grpB s.grp)).length) (cs' := ((sttH s ++ s.pages.flatMap pgB ++ [byI (s.rows.length : Int)] ++ s.rows.flatMap rowBy ++ grpB s.grp)).map u8v) rfl (by first | (simp only [List.length_append, List.length_cons, List.length_nil, List.append_assoc]; done) | (simp only [List.length_append, List.length_cons, List.length_nil, List.append_assoc]; omega) | (simp [rowBy]; done) | (simp [rowBy]; omega) | rfl) (by first | (simp only [List.map_append, List.map_cons, List.map_nil, List.append_assoc]; done) | (simp [rowBy]; done) | rfl) rfl ?_
     refine GL.shape (i := 0) rfl (fun A_b c_b e_b l_b k_b => ?_)
     subst e_b
     refine GL.rn 1 ?_
     refine GL.nil (?_ : GC _ _ _ _)
     iterate 2 refine GC.seq' ?_
     have hsb : (sttH s ++ s.pages.flatMap pgB ++ [byI (s.rows.length : Int)] ++ s.rows.flatMap rowBy ++ grpB s.grp).length = (sttB s).length := rfl
     refine GC.region ?_;refine GL.rn 3 ?_
     refine GL.nil (?_ : GC _ _ _ _)
     refine GC.co ?_ ?_
     ·intro h3; try simp only [tst_] at h3
      first
      | (exfalso; omega)
      |(skip
        refine GC.rg 2 ?_;refine GC.ret (Fin.b2 2 3 [] [] ?_)
        exact .inr ⟨by omega, rfl, rfl, rfl⟩)
     intro h3; try simp only [tst_] at h3
     first
     | (exfalso; omega)
     |(skip
       refine GC.skip (?_ : GC _ _ _ _)
       refine GC.rg 3 ?_;refine GC.ret (Fin.b2 2 3 [0] [] ?_)
       exact .inl ⟨by omega, _, _, l_b, k_b, rfl, rfl, rfl⟩)))
theorem encstt_ok (s : Stt) (A : Option Addr) (cp : Nat) (B : Option Addr) (cq : Nat) (C : Option Addr) (cr : Nat) (hs : SttLen s) (hh : heldOk s) (hl : (sttB s).length ≤ 33554432) : Ct Tryz.prog 79 [sttV s A cp B cq C cr] [] (sttQ s A B C)
    (fun u G Q => ∃ A' cp', (sttB s).length ≤ cp' ∧ cp' ≤ 9223372036854775807 ∧ u = .tuple #[.slice A' (sttB s).length cp', .int .i64 0] ∧ G = [rowOf A' cp' (sttB s)] ∧ Q = []) :=
  Ct.mono (encstt_all s A cp B cq C cr hs hh) fun u G Q h => h.elim (fun h => h.2) (fun h => by omega)
theorem encstt_long (s : Stt) (A : Option Addr) (cp : Nat) (B : Option Addr) (cq : Nat) (C : Option Addr) (cr : Nat) (hs : SttLen s) (hh : heldOk s) (hl : 33554432 < (sttB s).length) : Ct Tryz.prog 79 [sttV s A cp B cq C cr] [] (sttQ s A B C)
    (fun u G Q => u = .tuple #[.slice none 0 0, .int .i64 2] ∧ G = [] ∧ Q = []) :=
  Ct.mono (encstt_all s A cp B cq C cr hs hh) fun u G Q h => h.elim (fun h => by omega) (fun h => h.2)
def u64 (x : Int) : Nat := (x % 18446744073709551616).toNat
theorem u64_lt (x : Int) : u64 x < 18446744073709551616 := by unfold u64; omega
theorem cvU64 (x : Int) : IntKind.u64.wrap x = ((u64 x : Nat) : Int) := cvU' x
theorem u64_eq {x : Int} (h : 0 ≤ x) (h' : x < 18446744073709551616) : x = ((u64 x : Nat) : Int) := by unfold u64; omega
theorem partsN_rng (m : Msg) : 0 ≤ partsN m ∧ partsN m < 256 := by
  unfold partsN pbit
  repeat' split
  all_goals omega
theorem flZ1 (l : List Int) (h : ∀ x ∈ l, 0 ≤ x ∧ x < 256) : flZ 1 l = l.map byI := by
  unfold flZ
  induction l with
  | nil => rfl
  | cons x r ih =>
    have hx := h x (List.mem_cons_self ..)
    rw [List.flatMap_cons, ih fun y hy => h y (List.mem_cons_of_mem _ hy), List.map_cons]
    have : x.toNat % 256 = x.toNat := by omega
    simp [leN, byI, this]
def pO (m : Msg) : List UInt8 := if m.op = zop then [] else opB m.op
def pR (m : Msg) : List UInt8 := if m.res = rz then [] else resB m.res
def pG (m : Msg) : List UInt8 := if m.grp = zgr then [] else grpB m.grp
def pS (m : Msg) : List UInt8 := if m.stt = zst then [] else sttB m.stt
def hdB (m : Msg) : List UInt8 := [byI m.kind] ++ flI 8 [u64 m.src, u64 m.dst, u64 m.epoch, u64 m.view, u64 m.num, u64 m.commit, u64 m.normal, u64 m.nonce, u64 m.client, u64 m.serial] ++ [byI (partsN m)]
def preB (m : Msg) : List UInt8 := hdB m ++ pO m ++ pR m ++ pG m ++ pS m ++ leN 4 m.log.length
def bodyB (m : Msg) : List UInt8 := preB m ++ m.log.flatMap entB
structure MsgR (m : Msg) : Prop where
  kind : 1 ≤ m.kind ∧ m.kind ≤ 14
  op : ¬ m.op = zop → formD m.op
  res : ¬ m.res = rz → resOk m.res.code m.res.data.length = true
  grp : ¬ m.grp = zgr → groupOk m.grp.epoch m.grp.members = true
  stt : ¬ m.stt = zst → heldOk m.stt
  log : ∀ e ∈ m.log, entOk e
theorem msg_rng {m : Msg} (h : msgOk m) : MsgR m := by
  obtain ⟨h1, h2, h3, h4, h5, ⟨g1, g2, g3, g4⟩, h7⟩ := h
  refine ⟨⟨h2, h3⟩, g1.resolve_left, g2.resolve_left, g3.resolve_left, g4.resolve_left, fun e he => ?_⟩
  obtain ⟨j, hj, rfl⟩ := mem_gt he
  exact (h7 j hj).1
theorem hdB_len (m : Msg) : (hdB m).length = 82 := by simp [hdB, flI_length]
theorem pO_len {m : Msg} (h : MsgR m) : (pO m).length ≤ 300000 := by
  unfold pO; split
  · simp
  · exact opB_len (h.op (by assumption))
theorem pR_len {m : Msg} (h : MsgR m) : (pR m).length ≤ 300000 := by
  unfold pR; split
  · simp
  · exact resB_len (h.res (by assumption))
theorem pG_len {m : Msg} (h : MsgR m) : (pG m).length ≤ 100 := by
  unfold pG; split
  · simp
  · exact grpB_len (h.grp (by assumption))
theorem sttB_len {s : Stt} (h : heldOk s) : (sttB s).length ≤ 100000000 := by
  have hr := held_rng h
  have := pgs_all hr
  have := rws_all hr
  have := grpB_len hr.gr
  have := sttH_len s
  simp only [sttB, List.length_append, List.length_cons, List.length_nil]; omega
theorem pS_len {m : Msg} (h : MsgR m) : (pS m).length ≤ 100000000 := by
  unfold pS; split
  · simp
  · exact sttB_len (h.stt (by assumption))
theorem preB_len {m : Msg} (h : MsgR m) : (preB m).length ≤ 200000000 := by
  have := hdB_len m
  have := pO_len h
  have := pR_len h
  have := pG_len h
  have := pS_len h
  simp only [preB, List.length_append, leN_length]; omega
theorem log_len {m : Msg} (h : MsgR m) (k : Nat) : ((m.log.take k).flatMap entB).length ≤ k * 400000 := by
  have := fm_len (f := entB) (n := 400000) (l := m.log.take k) fun x hx => entB_len (h.log x (List.mem_of_mem_take hx))
  rw [List.length_take] at this
  exact Nat.le_trans this (Nat.mul_le_mul_right _ (by omega))
theorem body_ge {m : Msg} {k : Nat} (hk : k ≤ m.log.length) : (preB m).length + ((m.log.take k).flatMap entB).length ≤ (bodyB m).length := by
  have e : m.log.flatMap entB = (m.log.take k).flatMap entB ++ (m.log.drop k).flatMap entB := by rw [← List.flatMap_append, List.take_append_drop]
  rw [bodyB, e]; simp only [List.length_append]; omega
theorem body_ge' {m : Msg} {k : Nat} (hk : k < m.log.length) : (preB m).length + ((m.log.take k).flatMap entB).length + (entB (gt m.log (k : Int))).length ≤ (bodyB m).length := by
  have := body_ge (m := m) (k := k + 1) (by omega)
  rw [fm_take hk, List.length_append] at this
  omega
theorem pS_body (m : Msg) : (pS m).length ≤ (bodyB m).length := by simp only [bodyB, preB, List.length_append]; omega
theorem putall_nil (n : Nat) (L : Option Addr) (l : List Nat) (cl : Nat) (hn : 1 ≤ n) (hn' : n ≤ 8) (hb : 8 * l.length ≤ 100000000000000) (hl : ∀ x ∈ l, x < 256 ^ n) : Ct Tryz.prog 76 [.slice none 0 0, .int .i64 (n : Int), .slice L l.length cl] [] [Pers.row kU L l]
    (fun u G Q => ∃ A' cp', (flI n l).length ≤ cp' ∧ cp' ≤ 9223372036854775807 ∧ u = .tuple #[.slice A' (flI n l).length cp', .int .i64 0] ∧ G = [rowOf A' cp' (flI n l)] ∧ Q = []) :=
  Ct.free (putall_ct none [] 0 n L l cl hn hn' (by simpa using hb) hl) nil8
theorem flI_flZ {x : Int} (h : 0 ≤ x) (h' : x < 18446744073709551616) : flI 8 [u64 x] = flZ 8 [x] := by
  have : u64 x = x.toNat := by unfold u64; omega
  simp [flI, flZ, this]
theorem zq55_ {X : Prop} (h : X := by (exact fun a w h => ⟨(A_b), (c_b), trivial, by rw [show pR m = resB m.res from if_neg (by assumption)]; exact h.ct [0, 0, 0] (up 1 10)⟩)) : X := h
theorem zq56_ {X : Prop} (h : X := by (exact fun a w h => ⟨(k + 1), (A_b), (c_b), (by omega), by omega, by rw [take_gt (by omega), List.map_append, ← List.append_assoc]; exact h.ct [1, 1, 1, 1] (up 1 12)⟩)) : X := h
theorem zq57_ {X : Prop} (h : X := by (exact fun a w h => ⟨(_), (_), trivial, by rw [show pG m = flI 8 [u64 m.grp.epoch] ++ [byI (m.grp.members.length : Int)] ++ (m.grp.members.take m.grp.members.length).map byI from by rw [pG, if_neg (by assumption), grpB, flZ1 [_] (by intro x hx; simp at hx; omega), flZ1 _ (fun x hx => by have := gr.1 x hx; omega), flI_flZ (by omega) (by omega), List.take_length]; rfl]; simp only [← List.append_assoc]; exact h.cut (is := [0, 1, 1]) (js := (up 2 10)) ⟨rfl, rfl, rfl, trivial⟩ rfl rfl⟩)) : X := h
theorem zq58_ {X : Prop} (h : X := by (exact fun a w h => ⟨(A_b), (c_b), trivial, by rw [show pS m = sttB m.stt from if_neg (by assumption)]; exact h.ct [0, 0, 0] (up 1 10)⟩)) : X := h
set_option maxHeartbeats 2000000 in
theorem wbody_all (m : Msg) (s : Lie) (hm : MsgLen m) (hok : msgOk m) (hn : 0 ≤ m.nonce ∧ m.nonce < 18446744073709551616) (hlog : m.log.length < 100000) : Ct Tryz.prog 45 [msgV m s] [] (msgQ m s)
    (fun u G Q => ((bodyB m).length ≤ 16777216 ∧ ∃ A cp, (bodyB m).length ≤ cp ∧ cp ≤ 9223372036854775807 ∧ u = .tuple #[.slice A (bodyB m).length cp, .bool true] ∧ G = [rowOf A cp (bodyB m)] ∧ Q = []) ∨ (16777216 < (bodyB m).length ∧ (∃ A n cp, u = .tuple #[.slice A n cp, .bool false]) ∧ G = [] ∧ Q = [])) := by
 have hr := msg_rng hok
 have hpn := partsN_rng m
 have hk := hr.kind
 have l0 := hdB_len m
 have l1 := pO_len hr
 have l2 := pR_len hr
 have l3 := pG_len hr
 have l4 := pS_len hr
 have l5 := preB_len hr
 have lS := pS_body m
 refine Ct.intro Tryz.func45 rfl rfl rfl (fun c hc => ?_)
 refine GC.sr_ ?_;refine GL.step rfl (t_box rfl rfl rfl) (GL.ex fun b_t1 => ?_);refine GL.rz 2 ?_;refine GC.sr_ ?_;refine GL.ln_ 0 28 ?_;refine GL.cl Tryz.call59 [] (up 0 8) rfl rfl rfl (by exact parts_ct m s hm) ?_
 rintro _ _ _ ⟨rfl, rfl, rfl⟩
 refine GL.rz 1 ?_;refine GC.rr 1 ?_;refine GL.ld_ 0 ?_;refine GL.reval 18 rfl (congrArg (Value.int .u8) (byI_eq (by omega) (by omega))) ?_;refine GL.step rfl (t_buildSlice rfl Tryz.underlying25 sz_5 ze_5 rfl rfl rfl rfl rfl rfl) (GL.ex fun b_t19 => ?_)
 refine GL.rn 1 ?_;refine GL.ld_ 1 ?_;refine GL.pure rfl (p_convR (t := 3) (by rw [Tryz.underlying3]; simp) Tryz.underlying23 rfl (cvU64 m.src)) ?_
 refine GL.rn 1 ?_;refine GL.ld_ 1 ?_;refine GL.pure rfl (p_convR (t := 3) (by rw [Tryz.underlying3]; simp) Tryz.underlying23 rfl (cvU64 m.dst)) ?_
 refine GL.rn 1 ?_;refine GL.ld_ 1 ?_;refine GL.pure rfl (p_convR (t := 3) (by rw [Tryz.underlying3]; simp) Tryz.underlying23 rfl (cvU64 m.epoch)) ?_
 refine GL.rn 1 ?_;refine GL.ld_ 1 ?_;refine GL.pure rfl (p_convR (t := 3) (by rw [Tryz.underlying3]; simp) Tryz.underlying23 rfl (cvU64 m.view)) ?_
 refine GL.rn 1 ?_;refine GL.ld_ 1 ?_;refine GL.pure rfl (p_convR (t := 3) (by rw [Tryz.underlying3]; simp) Tryz.underlying23 rfl (cvU64 m.num)) ?_
 refine GL.rn 1 ?_;refine GL.ld_ 1 ?_;refine GL.pure rfl (p_convR (t := 3) (by rw [Tryz.underlying3]; simp) Tryz.underlying23 rfl (cvU64 m.commit)) ?_
 refine GL.rn 1 ?_;refine GL.ld_ 1 ?_;refine GL.pure rfl (p_convR (t := 3) (by rw [Tryz.underlying3]; simp) Tryz.underlying23 rfl (cvU64 m.normal)) ?_
 refine GL.rn 1 ?_;refine GL.ld_ 1 ?_;refine GL.reval 42 rfl (congrArg (Value.int .u64) (u64_eq hn.1 hn.2)) ?_;refine GL.rn 1 ?_;refine GL.ld_ 1 ?_;refine GL.pure rfl (p_convR (t := 3) (by rw [Tryz.underlying3]; simp) Tryz.underlying23 rfl (cvU64 m.client)) ?_
 refine GL.rn 1 ?_;refine GL.ld_ 1 ?_;refine GL.pure rfl (p_convR (t := 3) (by rw [Tryz.underlying3]; simp) Tryz.underlying23 rfl (cvU64 m.serial)) ?_
 refine GL.step rfl (t_buildSlice rfl Tryz.underlying126 sz_23 ze_23 rfl rfl rfl rfl rfl rfl) (GL.ex fun b_t49 => ?_);refine GL.freezeC (enc := u8v) (xs := [byI m.kind]) (h1 := fun _ => rfl) (i := 1) rfl ?_;refine GL.freezeC (enc := uv) (xs := [u64 m.src, u64 m.dst, u64 m.epoch, u64 m.view, u64 m.num, u64 m.commit, u64 m.normal, u64 m.nonce, u64 m.client, u64 m.serial]) (h1 := fun _ => rfl) (i := 0) rfl ?_
 refine GL.cl Tryz.call76 [] [1, 0] rfl rfl rfl (by exact putall_ct _ [byI m.kind] _ 8 _ [u64 m.src, u64 m.dst, u64 m.epoch, u64 m.view, u64 m.num, u64 m.commit, u64 m.normal, u64 m.nonce, u64 m.client, u64 m.serial] _ (by omega) (by omega) (by simp) (by rw [p256_8]; intro x hx; simp only [List.mem_cons, List.not_mem_nil, or_false] at hx; rcases hx with rfl | rfl | rfl | rfl | rfl | rfl | rfl | rfl | rfl | rfl <;> exact u64_lt _)) ?_
 rintro _ _ _ ⟨A50, cp50, l50, k50, rfl, rfl, rfl⟩
 refine GL.rz 5 ?_;refine GC.rr 2 ?_;refine GL.reval 54 rfl (congrArg (Value.int .u8) (byI_eq hpn.1 hpn.2)) ?_;refine GL.step rfl (t_buildSlice rfl Tryz.underlying25 sz_5 ze_5 rfl rfl rfl rfl rfl rfl) (GL.ex fun b_t55 => ?_)
 refine GL.step rfl (t_append (i := 1) (k := 0) rfl el_25 rfl rfl rfl rfl rfl (allOne_mem rfl) (by (try simp only [List.length_append, List.length_cons, List.length_nil, List.length_map, List.length_take, flZ_length, flI_length, leN_length]); first | omega | (have := opB_len (hr.op (by assumption)); omega) | (have := resB_len (hr.res (by assumption)); omega) | (have := grp_rng (hr.grp (by assumption)); omega) | (have := sttB_len (hr.stt (by assumption)); omega) | (have := log_len hr k; have := entB_len (hr.log _ (gt_elem (l := m.log) (k := k) (by omega))); have : k * 400000 ≤ 100000 * 400000 := Nat.mul_le_mul_right _ (by omega); omega)) (fun _ => rfl)) (GL.ex fun v56 => ?_)
 refine GL.rowIs (i := 1) (m' := ((hdB m)).length) (cs' := ((hdB m)).map u8v) rfl (by first | (simp only [List.length_append, List.length_cons, List.length_nil, List.append_assoc]; done) | (simp only [List.length_append, List.length_cons, List.length_nil, List.append_assoc]; omega) | (simp [leN_length, flI_length, hdB]; done) | (simp [leN_length, flI_length, hdB]; omega) | rfl) (by first | (simp only [List.map_append, List.map_cons, List.map_nil, List.append_assoc]; done) | (simp [leN_length, flI_length, hdB]; done) | rfl) rfl ?_
 refine GL.shape (i := 1) rfl (fun A_pa50 c_pa50 e_pa50 l_pa50 k_pa50 => ?_)
 subst e_pa50
 refine GL.rz 1 ?_;refine GC.rg 1 ?_;refine GC.joinK2 (ks := [1, 4]) (is := [0, 2]) (js := (up 0 10)) (fun (A1 : Option Addr) (c1 : Nat) => True) (fun (A1 : Option Addr) (c1 : Nat) => [(5, .slice A1 (hdB m ++ pO m).length c1)]) (fun (A1 : Option Addr) (c1 : Nat) => [rowOf A1 c1 (hdB m ++ pO m)]) (fun (A1 : Option Addr) (c1 : Nat) => []) rfl rfl rfl ?_ ?_
 ·refine GC.rr 1 ?_;refine GL.pure rfl (p_andR rfl rfl (and_b1 _ _ _ _)) ?_;refine GL.rz 1 ?_;refine GC.co ?_ ?_
  ·intro h1; try simp only [tst_, bi1, bi2, bi4, bi8] at h1
   refine GC.rr 1 ?_;refine GL.ln_ 2 5 ?_;refine GL.cl Tryz.call77 [] [2, 3] rfl rfl rfl (by exact encop_ct m.op _ _ _ _ (hr.op (by assumption))) ?_
   rintro _ _ _ ⟨A63, cp63, l63, k63, rfl, rfl, rfl⟩
   refine GL.rz 4 ?_;refine GC.region ?_;refine GL.rn 2 ?_;refine GL.freezeB (i := 0) rfl ?_;refine GL.step rfl (t_appendS (i := 1) (k := 0) rfl el_25 rfl rfl rfl rfl (by (try simp only [List.length_append, List.length_cons, List.length_nil, List.length_map, List.length_take, flZ_length, flI_length, leN_length]); first | omega | (have := opB_len (hr.op (by assumption)); omega) | (have := resB_len (hr.res (by assumption)); omega) | (have := grp_rng (hr.grp (by assumption)); omega) | (have := sttB_len (hr.stt (by assumption)); omega) | (have := log_len hr k; have := entB_len (hr.log _ (gt_elem (l := m.log) (k := k) (by omega))); have : k * 400000 ≤ 100000 * 400000 := Nat.mul_le_mul_right _ (by omega); omega)) (fun _ => rfl)) (GL.ex fun v68 => ?_)
   refine GL.rowIs (i := 1) (m' := ((hdB m ++ opB m.op)).length) (cs' := ((hdB m ++ opB m.op)).map u8v) rfl (by first | (simp only [List.length_append, List.length_cons, List.length_nil, List.append_assoc]; done) | (simp only [List.length_append, List.length_cons, List.length_nil, List.append_assoc]; omega) | (simp [leN_length, flI_length, hdB]; done) | (simp [leN_length, flI_length, hdB]; omega) | rfl) (by first | (simp only [List.map_append, List.map_cons, List.map_nil, List.append_assoc]; done) | (simp [leN_length, flI_length, hdB]; done) | rfl) rfl ?_
   refine GL.shape (i := 1) rfl (fun A_pa50 c_pa50 e_pa50 l_pa50 k_pa50 => ?_)
   subst e_pa50
   refine GL.rn 1 ?_;refine GL.nil ?_
   exact fun a w h => ⟨(A_pa50), (c_pa50), trivial, by rw [show pO m = opB m.op from if_neg (by assumption)]; exact h.ct [1, 0, 0] (up 1 10)⟩
  intro h1; try simp only [tst_, bi1, bi2, bi4, bi8] at h1
  refine GC.skip ?_
  exact fun a w h => ⟨(A_pa50), (c_pa50), trivial, by rw [show pO m = [] from if_pos (by assumption), List.append_nil]; exact h.ct [1, 0, 0] (up 0 10)⟩
 intro A1 c1 hj5
 try dsimp only [List.cons_append, List.nil_append] at hj5 ⊢
 refine GC.joinK2 (ks := [1, 4]) (is := [1, 2]) (js := (up 0 10)) (fun (A1 : Option Addr) (c1 : Nat) => True) (fun (A1 : Option Addr) (c1 : Nat) => [(5, .slice A1 (hdB m ++ pO m ++ pR m).length c1)]) (fun (A1 : Option Addr) (c1 : Nat) => [rowOf A1 c1 (hdB m ++ pO m ++ pR m)]) (fun (A1 : Option Addr) (c1 : Nat) => []) rfl rfl rfl ?_ ?_
 ·refine GC.rr 1 ?_;refine GL.pure rfl (p_andR rfl rfl (and_b2 _ _ _ _)) ?_;refine GL.rz 1 ?_;refine GC.co ?_ ?_
  ·intro h2; try simp only [tst_, bi1, bi2, bi4, bi8] at h2
   refine GC.rr 1 ?_;refine GL.ln_ 2 2 ?_;refine GL.cl Tryz.call78 [] [4] rfl rfl rfl (by exact encres_ct m.res _ _ (hr.res (by assumption))) ?_
   rintro _ _ _ ⟨A75, cp75, l75, k75, rfl, rfl, rfl⟩
   refine GL.rz 4 ?_;refine GC.region ?_;refine GL.rn 2 ?_;refine GL.freezeB (i := 0) rfl ?_;refine GL.step rfl (t_appendS (i := 0) (k := 0) rfl el_25 rfl rfl rfl rfl (by (try simp only [List.length_append, List.length_cons, List.length_nil, List.length_map, List.length_take, flZ_length, flI_length, leN_length]); first | omega | (have := opB_len (hr.op (by assumption)); omega) | (have := resB_len (hr.res (by assumption)); omega) | (have := grp_rng (hr.grp (by assumption)); omega) | (have := sttB_len (hr.stt (by assumption)); omega) | (have := log_len hr k; have := entB_len (hr.log _ (gt_elem (l := m.log) (k := k) (by omega))); have : k * 400000 ≤ 100000 * 400000 := Nat.mul_le_mul_right _ (by omega); omega)) (fun _ => rfl)) (GL.ex fun v80 => ?_)
   refine GL.rowIs (i := 0) (m' := ((hdB m ++ pO m ++ resB m.res)).length) (cs' := ((hdB m ++ pO m ++ resB m.res)).map u8v) rfl (by first | (simp only [List.length_append, List.length_cons, List.length_nil, List.append_assoc]; done) | (simp only [List.length_append, List.length_cons, List.length_nil, List.append_assoc]; omega) | (simp [leN_length, flI_length, hdB]; done) | (simp [leN_length, flI_length, hdB]; omega) | rfl) (by first | (simp only [List.map_append, List.map_cons, List.map_nil, List.append_assoc]; done) | (simp [leN_length, flI_length, hdB]; done) | rfl) rfl ?_
   refine GL.shape (i := 0) rfl (fun A_b c_b e_b l_b k_b => ?_)
   subst e_b
   refine GL.rn 1 ?_;refine GL.nil ?_
   exact zq55_
  intro h2; try simp only [tst_, bi1, bi2, bi4, bi8] at h2
  refine GC.skip ?_
  exact fun a w h => ⟨(_), (_), trivial, by rw [show pR m = [] from if_pos (by assumption), List.append_nil]; exact h.cut (is := [0, 0, 0]) (js := (up 0 10)) ⟨rfl, rfl, rfl, trivial⟩ rfl rfl⟩
 intro A1 c1 hj8
 try dsimp only [List.cons_append, List.nil_append] at hj8 ⊢
 refine GC.joinK2 (ks := [1, 4]) (is := [1, 2]) (js := (up 0 10)) (fun (A1 : Option Addr) (c1 : Nat) => True) (fun (A1 : Option Addr) (c1 : Nat) => [(5, .slice A1 (hdB m ++ pO m ++ pR m ++ pG m).length c1)]) (fun (A1 : Option Addr) (c1 : Nat) => [rowOf A1 c1 (hdB m ++ pO m ++ pR m ++ pG m)]) (fun (A1 : Option Addr) (c1 : Nat) => []) rfl rfl rfl ?_ ?_
 ·refine GC.rr 1 ?_;refine GL.pure rfl (p_andR rfl rfl (and_b4 _ _ _ _)) ?_;refine GL.rz 1 ?_;refine GC.co ?_ ?_
  ·intro h3; try simp only [tst_, bi1, bi2, bi4, bi8] at h3
   refine GC.seq' ?_
   have gr := grp_rng (hr.grp (by assumption))
   refine GC.region ?_;refine GL.rn 2 ?_;refine GL.ld_ 2 ?_;refine GL.pure rfl (p_convR (t := 3) (by rw [Tryz.underlying3]; simp) Tryz.underlying23 rfl (cvU64 m.grp.epoch)) ?_
   refine GL.step rfl (t_buildSlice rfl Tryz.underlying126 sz_23 ze_23 rfl rfl rfl rfl rfl rfl) (GL.ex fun b_t89 => ?_);refine GL.freezeC (enc := uv) (xs := [u64 m.grp.epoch]) (h1 := fun _ => rfl) (i := 0) rfl ?_;refine GL.cl Tryz.call76 [] [0] rfl rfl rfl (by exact putall_nil 8 _ [u64 m.grp.epoch] _ (by omega) (by omega) (by simp) (by rw [p256_8]; intro x hx; simp at hx; subst hx; exact u64_lt _)) ?_
   rintro _ _ _ ⟨A90, cp90, l90, k90, rfl, rfl, rfl⟩
   refine GL.rn 4 ?_
   refine GL.nil (?_ : GC _ _ _ _)
   refine GC.seq' ?_;refine GC.freezeB (i := 0) rfl ?_;refine GC.regionC (m := 11) (is := [1, 1]) (js := (up 0 12)) wide_ rfl rfl rfl ?_;refine GA.tk 0 [1, 1] (up 0 12) ?_;refine GA.tk 1 [1, 1] (up 0 12) ?_;refine GA.tk 3 [1, 1] (up 0 12) ?_
   refine GA.tk 4 [1, 1] (up 0 12) ?_;refine GA.tp 5 rfl [1, 1] (up 0 12) (i_mem (m_load (i := 1) rfl rfl ag_31 rfl)) ?_;refine GA.tk 6 [1, 1] (up 0 12) ?_;refine GA.tp 7 rfl [1, 1] (up 0 12) (i_pure (p_convR (t := 3) (r := (((byI (m.grp.members.length : Int)).toNat : Nat) : Int)) (by rw [Tryz.underlying3]; simp) Tryz.underlying5 rfl (cv8 (by omega) (by omega)))) ?_
   refine GA.al [2, 8] ?_
   refine GAs.cons (i := 2) rfl rfl (t_appendS (i := 0) (k := 0) rfl el_25 rfl rfl rfl rfl (by (try simp only [List.length_append, List.length_cons, List.length_nil, List.length_map, List.length_take, flZ_length, flI_length, leN_length]); first | omega | (have := opB_len (hr.op (by assumption)); omega) | (have := resB_len (hr.res (by assumption)); omega) | (have := grp_rng (hr.grp (by assumption)); omega) | (have := sttB_len (hr.stt (by assumption)); omega) | (have := log_len hr k; have := entB_len (hr.log _ (gt_elem (l := m.log) (k := k) (by omega))); have : k * 400000 ≤ 100000 * 400000 := Nat.mul_le_mul_right _ (by omega); omega)) (fun _ => rfl)) (by rintro a w ⟨_, h⟩; exact h.me [1, 1] (up 0 12)) (GA.ex fun v95 => ?_) ?_
   ·refine GA.al [8] ?_
    refine GAs.cons (i := 8) rfl rfl (t_buildSlice rfl Tryz.underlying25 sz_5 ze_5 rfl rfl rfl rfl rfl rfl) (by rintro a w ⟨_, h⟩; exact h.me [2, 2] (up 0 12)) (GA.ex fun b_t101 => ?_) GAs.nil
    refine GA.al [9] ?_
    refine GAs.cons (i := 9) rfl rfl (t_append (i := 1) (k := 0) rfl el_25 rfl rfl rfl rfl rfl (allOne_mem rfl) (by (try simp only [List.length_append, List.length_cons, List.length_nil, List.length_map, List.length_take, flZ_length, flI_length, leN_length]); first | omega | (have := opB_len (hr.op (by assumption)); omega) | (have := resB_len (hr.res (by assumption)); omega) | (have := grp_rng (hr.grp (by assumption)); omega) | (have := sttB_len (hr.stt (by assumption)); omega) | (have := log_len hr k; have := entB_len (hr.log _ (gt_elem (l := m.log) (k := k) (by omega))); have : k * 400000 ≤ 100000 * 400000 := Nat.mul_le_mul_right _ (by omega); omega)) (fun _ => rfl)) (by rintro a w ⟨_, h⟩; exact h.me [2, 2] (up 0 12)) (GA.ex fun v102 => ?_) GAs.nil
    refine GA.tk 10 [2, 2] (up 0 12) ?_;refine GA.rowIs (i := 1) (m' := ((hdB m ++ pO m ++ pR m ++ flI 8 [u64 m.grp.epoch] ++ [byI (m.grp.members.length : Int)])).length) (cs' := ((hdB m ++ pO m ++ pR m ++ flI 8 [u64 m.grp.epoch] ++ [byI (m.grp.members.length : Int)])).map u8v) rfl (by first | (simp only [List.length_append, List.length_cons, List.length_nil, List.append_assoc]; done) | (simp only [List.length_append, List.length_cons, List.length_nil, List.append_assoc]; omega) | (simp [leN_length, flI_length, hdB]; done) | (simp [leN_length, flI_length, hdB]; omega) | rfl) (by first | (simp only [List.map_append, List.map_cons, List.map_nil, List.append_assoc]; done) | (simp [leN_length, flI_length, hdB]; done) | rfl) rfl ?_
    refine GA.shape (i := 1) rfl (fun A_b c_b e_b l_b k_b => ?_)
    subst e_b
    refine GA.done (by kernel_rfl) (?_ : GC _ _ _ _)
    refine GC.rr 2 ?_;refine GL.ld_ 3 ?_;refine GL.rz 2 ?_;refine GC.block ?_;refine GC.loopK3 (ks := [1, 4, 105, 106]) (is := [0, 2, 3]) (js := (up 0 12)) (fun (k : Nat) (A1 : Option Addr) (c1 : Nat) => k ≤ m.grp.members.length) (fun (k : Nat) (A1 : Option Addr) (c1 : Nat) => [(5, .slice A1 (hdB m ++ pO m ++ pR m ++ flI 8 [u64 m.grp.epoch] ++ [byI (m.grp.members.length : Int)] ++ (m.grp.members.take k).map byI).length c1), (107, .int .i64 (k : Int))]) (fun (k : Nat) (A1 : Option Addr) (c1 : Nat) => [rowOf A1 c1 (hdB m ++ pO m ++ pR m ++ flI 8 [u64 m.grp.epoch] ++ [byI (m.grp.members.length : Int)] ++ (m.grp.members.take k).map byI)]) (fun (k : Nat) (A1 : Option Addr) (c1 : Nat) => []) (fun (k : Nat) (A1 : Option Addr) (c1 : Nat) => m.grp.members.length - k) (0) (_) (_) rfl rfl rfl (fun a w h => ⟨by omega, by simp only [List.take_zero, List.map_nil, List.append_nil]; exact h.cutK (is := [1, 0, 0, 0]) (js := (up 0 12)) (ks := [1, 4, 105, 106]) ⟨rfl, rfl, trivial⟩ rfl rfl rfl⟩) ?_
    intro k A1 c1 hk
    try dsimp only [List.cons_append, List.nil_append] at hk ⊢
    refine GC.rg 1 ?_;refine GC.seq' ?_;refine GC.co ?_ ?_
    ·intro h4; try simp only [tst_, bi1, bi2, bi4, bi8] at h4
     refine GC.skip (?_ : GC _ _ _ _)
     refine GC.seq' ?_;refine GC.block ?_;refine GC.sr_ ?_;refine GL.step rfl (t_index (i := 7) rfl rfl rfl rfl Tryz.underlying31 sz_3 (by omega) (gt_ok (by omega) (by omega))) (GL.ex fun p_x109 => GL.ex fun r_x109 => GL.and fun ok_x109 => ?_)
     rcases r_x109 with _
     refine GL.step rfl (t_mem rfl (m_loadP (i := 0) rfl rfl ag_3 rfl)) ?_;refine GL.rz 1 ?_;refine GC.region ?_;refine GL.rn 2 ?_;refine GL.pure rfl (p_convR (t := 3) (r := (((byI (gt m.grp.members (k : Int))).toNat : Nat) : Int)) (by rw [Tryz.underlying3]; simp) Tryz.underlying5 rfl (cv8 (by have := (grp_rng (hr.grp (by assumption))).1 _ (gt_elem (l := m.grp.members) (k := k) (by omega)); omega) (by have := (grp_rng (hr.grp (by assumption))).1 _ (gt_elem (l := m.grp.members) (k := k) (by omega)); omega))) ?_
     refine GL.step rfl (t_buildSlice rfl Tryz.underlying25 sz_5 ze_5 rfl rfl rfl rfl rfl rfl) (GL.ex fun b_t114 => ?_);refine GL.step rfl (t_append (i := 1) (k := 0) rfl el_25 rfl rfl rfl rfl rfl (allOne_mem rfl) (by (try simp only [List.length_append, List.length_cons, List.length_nil, List.length_map, List.length_take, flZ_length, flI_length, leN_length]); first | omega | (have := opB_len (hr.op (by assumption)); omega) | (have := resB_len (hr.res (by assumption)); omega) | (have := grp_rng (hr.grp (by assumption)); omega) | (have := sttB_len (hr.stt (by assumption)); omega) | (have := log_len hr k; have := entB_len (hr.log _ (gt_elem (l := m.log) (k := k) (by omega))); have : k * 400000 ≤ 100000 * 400000 := Nat.mul_le_mul_right _ (by omega); omega)) (fun _ => rfl)) (GL.ex fun v115 => ?_)
     refine GL.rowIs (i := 1) (m' := ((hdB m ++ pO m ++ pR m ++ flI 8 [u64 m.grp.epoch] ++ [byI (m.grp.members.length : Int)] ++ (m.grp.members.take k).map byI ++ [byI (gt m.grp.members (k : Int))])).length) (cs' := ((hdB m ++ pO m ++ pR m ++ flI 8 [u64 m.grp.epoch] ++ [byI (m.grp.members.length : Int)] ++ (m.grp.members.take k).map byI ++ [byI (gt m.grp.members (k : Int))])).map u8v) rfl (by first | (simp only [List.length_append, List.length_cons, List.length_nil, List.append_assoc]; done) | (simp only [List.length_append, List.length_cons, List.length_nil, List.append_assoc]; omega) | (simp [leN_length, flI_length, hdB]; done) | (simp [leN_length, flI_length, hdB]; omega) | rfl) (by first | (simp only [List.map_append, List.map_cons, List.map_nil, List.append_assoc]; done) | (simp [leN_length, flI_length, hdB]; done) | rfl) rfl ?_
     refine GL.shape (i := 1) rfl (fun A_b c_b e_b l_b k_b => ?_)
     subst e_b
     refine GL.rn 1 ?_
     refine GL.nil (?_ : GC _ _ _ _)
     refine GC.region ?_;refine GL.pure rfl (p_add rfl rfl (w64 (by omega) (by omega))) ?_;refine GL.rn 1 ?_;refine GL.nil ?_
     exact zq56_
    intro h4; try simp only [tst_, bi1, bi2, bi4, bi8] at h4
    refine GC.exit ?_
    obtain rfl : k = m.grp.members.length := by omega
    exact zq57_
   refine GAs.cons (i := 8) rfl rfl (t_buildSlice rfl Tryz.underlying25 sz_5 ze_5 rfl rfl rfl rfl rfl rfl) (by rintro a w ⟨_, h⟩; exact h.me [2, 2] (up 0 12)) (GA.ex fun b_t101 => ?_) GAs.nil
   refine GA.al [2] ?_
   refine GAs.cons (i := 2) rfl rfl (t_appendS (i := 1) (k := 0) rfl el_25 rfl rfl rfl rfl (by (try simp only [List.length_append, List.length_cons, List.length_nil, List.length_map, List.length_take, flZ_length, flI_length, leN_length]); first | omega | (have := opB_len (hr.op (by assumption)); omega) | (have := resB_len (hr.res (by assumption)); omega) | (have := grp_rng (hr.grp (by assumption)); omega) | (have := sttB_len (hr.stt (by assumption)); omega) | (have := log_len hr k; have := entB_len (hr.log _ (gt_elem (l := m.log) (k := k) (by omega))); have : k * 400000 ≤ 100000 * 400000 := Nat.mul_le_mul_right _ (by omega); omega)) (fun _ => rfl)) (by rintro a w ⟨_, h⟩; exact h.me [2, 2] (up 0 12)) (GA.ex fun v95 => ?_) GAs.nil
   refine GA.al [9] ?_
   refine GAs.cons (i := 9) rfl rfl (t_append (i := 1) (k := 0) rfl el_25 rfl rfl rfl rfl rfl (allOne_mem rfl) (by (try simp only [List.length_append, List.length_cons, List.length_nil, List.length_map, List.length_take, flZ_length, flI_length, leN_length]); first | omega | (have := opB_len (hr.op (by assumption)); omega) | (have := resB_len (hr.res (by assumption)); omega) | (have := grp_rng (hr.grp (by assumption)); omega) | (have := sttB_len (hr.stt (by assumption)); omega) | (have := log_len hr k; have := entB_len (hr.log _ (gt_elem (l := m.log) (k := k) (by omega))); have : k * 400000 ≤ 100000 * 400000 := Nat.mul_le_mul_right _ (by omega); omega)) (fun _ => rfl)) (by rintro a w ⟨_, h⟩; exact h.me [2, 2] (up 0 12)) (GA.ex fun v102 => ?_) GAs.nil
   refine GA.tk 10 [2, 2] (up 0 12) ?_;refine GA.rowIs (i := 1) (m' := ((hdB m ++ pO m ++ pR m ++ flI 8 [u64 m.grp.epoch] ++ [byI (m.grp.members.length : Int)])).length) (cs' := ((hdB m ++ pO m ++ pR m ++ flI 8 [u64 m.grp.epoch] ++ [byI (m.grp.members.length : Int)])).map u8v) rfl (by first | (simp only [List.length_append, List.length_cons, List.length_nil, List.append_assoc]; done) | (simp only [List.length_append, List.length_cons, List.length_nil, List.append_assoc]; omega) | (simp [leN_length, flI_length, hdB]; done) | (simp [leN_length, flI_length, hdB]; omega) | rfl) (by first | (simp only [List.map_append, List.map_cons, List.map_nil, List.append_assoc]; done) | (simp [leN_length, flI_length, hdB]; done) | rfl) rfl ?_
   refine GA.shape (i := 1) rfl (fun A_b c_b e_b l_b k_b => ?_)
   subst e_b
   refine GA.done (by kernel_rfl) (?_ : GC _ _ _ _)
   refine GC.rr 2 ?_;refine GL.ld_ 3 ?_;refine GL.rz 2 ?_;refine GC.block ?_;refine GC.loopK3 (ks := [1, 4, 105, 106]) (is := [0, 2, 3]) (js := (up 0 12)) (fun (k : Nat) (A1 : Option Addr) (c1 : Nat) => k ≤ m.grp.members.length) (fun (k : Nat) (A1 : Option Addr) (c1 : Nat) => [(5, .slice A1 (hdB m ++ pO m ++ pR m ++ flI 8 [u64 m.grp.epoch] ++ [byI (m.grp.members.length : Int)] ++ (m.grp.members.take k).map byI).length c1), (107, .int .i64 (k : Int))]) (fun (k : Nat) (A1 : Option Addr) (c1 : Nat) => [rowOf A1 c1 (hdB m ++ pO m ++ pR m ++ flI 8 [u64 m.grp.epoch] ++ [byI (m.grp.members.length : Int)] ++ (m.grp.members.take k).map byI)]) (fun (k : Nat) (A1 : Option Addr) (c1 : Nat) => []) (fun (k : Nat) (A1 : Option Addr) (c1 : Nat) => m.grp.members.length - k) (0) (_) (_) rfl rfl rfl (fun a w h => ⟨by omega, by simp only [List.take_zero, List.map_nil, List.append_nil]; exact h.cutK (is := [1, 0, 0, 0]) (js := (up 0 12)) (ks := [1, 4, 105, 106]) ⟨rfl, rfl, trivial⟩ rfl rfl rfl⟩) ?_
   intro k A1 c1 hk
   try dsimp only [List.cons_append, List.nil_append] at hk ⊢
   refine GC.rg 1 ?_;refine GC.seq' ?_;refine GC.co ?_ ?_
   ·intro h4; try simp only [tst_, bi1, bi2, bi4, bi8] at h4
    refine GC.skip (?_ : GC _ _ _ _)
    refine GC.seq' ?_;refine GC.block ?_;refine GC.sr_ ?_;refine GL.step rfl (t_index (i := 7) rfl rfl rfl rfl Tryz.underlying31 sz_3 (by omega) (gt_ok (by omega) (by omega))) (GL.ex fun p_x109 => GL.ex fun r_x109 => GL.and fun ok_x109 => ?_)
    rcases r_x109 with _
    refine GL.step rfl (t_mem rfl (m_loadP (i := 0) rfl rfl ag_3 rfl)) ?_;refine GL.rz 1 ?_;refine GC.region ?_;refine GL.rn 2 ?_;refine GL.pure rfl (p_convR (t := 3) (r := (((byI (gt m.grp.members (k : Int))).toNat : Nat) : Int)) (by rw [Tryz.underlying3]; simp) Tryz.underlying5 rfl (cv8 (by have := (grp_rng (hr.grp (by assumption))).1 _ (gt_elem (l := m.grp.members) (k := k) (by omega)); omega) (by have := (grp_rng (hr.grp (by assumption))).1 _ (gt_elem (l := m.grp.members) (k := k) (by omega)); omega))) ?_
    refine GL.step rfl (t_buildSlice rfl Tryz.underlying25 sz_5 ze_5 rfl rfl rfl rfl rfl rfl) (GL.ex fun b_t114 => ?_);refine GL.step rfl (t_append (i := 1) (k := 0) rfl el_25 rfl rfl rfl rfl rfl (allOne_mem rfl) (by (try simp only [List.length_append, List.length_cons, List.length_nil, List.length_map, List.length_take, flZ_length, flI_length, leN_length]); first | omega | (have := opB_len (hr.op (by assumption)); omega) | (have := resB_len (hr.res (by assumption)); omega) | (have := grp_rng (hr.grp (by assumption)); omega) | (have := sttB_len (hr.stt (by assumption)); omega) | (have := log_len hr k; have := entB_len (hr.log _ (gt_elem (l := m.log) (k := k) (by omega))); have : k * 400000 ≤ 100000 * 400000 := Nat.mul_le_mul_right _ (by omega); omega)) (fun _ => rfl)) (GL.ex fun v115 => ?_)
    refine GL.rowIs (i := 1) (m' := ((hdB m ++ pO m ++ pR m ++ flI 8 [u64 m.grp.epoch] ++ [byI (m.grp.members.length : Int)] ++ (m.grp.members.take k).map byI ++ [byI (gt m.grp.members (k : Int))])).length) (cs' := ((hdB m ++ pO m ++ pR m ++ flI 8 [u64 m.grp.epoch] ++ [byI (m.grp.members.length : Int)] ++ (m.grp.members.take k).map byI ++ [byI (gt m.grp.members (k : Int))])).map u8v) rfl (by first | (simp only [List.length_append, List.length_cons, List.length_nil, List.append_assoc]; done) | (simp only [List.length_append, List.length_cons, List.length_nil, List.append_assoc]; omega) | (simp [leN_length, flI_length, hdB]; done) | (simp [leN_length, flI_length, hdB]; omega) | rfl) (by first | (simp only [List.map_append, List.map_cons, List.map_nil, List.append_assoc]; done) | (simp [leN_length, flI_length, hdB]; done) | rfl) rfl ?_
    refine GL.shape (i := 1) rfl (fun A_b c_b e_b l_b k_b => ?_)
    subst e_b
    refine GL.rn 1 ?_
    refine GL.nil (?_ : GC _ _ _ _)
    refine GC.region ?_;refine GL.pure rfl (p_add rfl rfl (w64 (by omega) (by omega))) ?_;refine GL.rn 1 ?_;refine GL.nil ?_
    exact zq56_
   intro h4; try simp only [tst_, bi1, bi2, bi4, bi8] at h4
   refine GC.exit ?_
   obtain rfl : k = m.grp.members.length := by omega
   exact zq57_
  intro h3; try simp only [tst_, bi1, bi2, bi4, bi8] at h3
  refine GC.skip ?_
  exact fun a w h => ⟨(_), (_), trivial, by rw [show pG m = [] from if_pos (by assumption), List.append_nil]; exact h.cut (is := [0, 0, 0]) (js := (up 0 10)) ⟨rfl, rfl, rfl, trivial⟩ rfl rfl⟩
 intro A1 c1 hj11
 try dsimp only [List.cons_append, List.nil_append] at hj11 ⊢
 refine GC.joinK2 (ks := [1]) (is := [1, 2]) (js := (up 0 10)) (fun (A1 : Option Addr) (c1 : Nat) => True) (fun (A1 : Option Addr) (c1 : Nat) => [(5, .slice A1 (hdB m ++ pO m ++ pR m ++ pG m ++ pS m).length c1)]) (fun (A1 : Option Addr) (c1 : Nat) => [rowOf A1 c1 (hdB m ++ pO m ++ pR m ++ pG m ++ pS m)]) (fun (A1 : Option Addr) (c1 : Nat) => []) rfl rfl rfl ?_ ?_
 ·refine GC.rr 1 ?_;refine GL.pure rfl (p_andR rfl rfl (and_b8 _ _ _ _)) ?_;refine GL.rz 1 ?_;refine GC.co ?_ ?_
  ·intro h5; try simp only [tst_, bi1, bi2, bi4, bi8] at h5
   refine GC.seq' ?_
   by_cases hsl : (sttB m.stt).length ≤ 33554432
   ·skip
    refine GC.region ?_;refine GL.rn 1 ?_;refine GL.ln_ 2 7 ?_;refine GL.cl Tryz.call79 [] [6, 7, 8] rfl rfl rfl (by exact encstt_ok m.stt _ _ _ _ _ _ hm.s (hr.stt (by assumption)) hsl) ?_
    rintro _ _ _ ⟨A123, cp123, l123, k123, rfl, rfl, rfl⟩
    refine GL.rn 5 ?_
    refine GL.nil (?_ : GC _ _ _ _)
    refine GC.seq' ?_;refine GC.rg 2 ?_;refine GC.cond_false rfl ?_
    refine GC.skip (?_ : GC _ _ _ _)
    refine GC.region ?_;refine GL.rn 2 ?_;refine GL.freezeB (i := 0) rfl ?_;refine GL.step rfl (t_appendS (i := 0) (k := 0) rfl el_25 rfl rfl rfl rfl (by (try simp only [List.length_append, List.length_cons, List.length_nil, List.length_map, List.length_take, flZ_length, flI_length, leN_length]); first | omega | (have := opB_len (hr.op (by assumption)); omega) | (have := resB_len (hr.res (by assumption)); omega) | (have := grp_rng (hr.grp (by assumption)); omega) | (have := sttB_len (hr.stt (by assumption)); omega) | (have := log_len hr k; have := entB_len (hr.log _ (gt_elem (l := m.log) (k := k) (by omega))); have : k * 400000 ≤ 100000 * 400000 := Nat.mul_le_mul_right _ (by omega); omega)) (fun _ => rfl)) (GL.ex fun v130 => ?_)
    refine GL.rowIs (i := 0) (m' := ((hdB m ++ pO m ++ pR m ++ pG m ++ sttB m.stt)).length) (cs' := ((hdB m ++ pO m ++ pR m ++ pG m ++ sttB m.stt)).map u8v) rfl (by first | (simp only [List.length_append, List.length_cons, List.length_nil, List.append_assoc]; done) | (simp only [List.length_append, List.length_cons, List.length_nil, List.append_assoc]; omega) | (simp [leN_length, flI_length, hdB]; done) | (simp [leN_length, flI_length, hdB]; omega) | rfl) (by first | (simp only [List.map_append, List.map_cons, List.map_nil, List.append_assoc]; done) | (simp [leN_length, flI_length, hdB]; done) | rfl) rfl ?_
    refine GL.shape (i := 0) rfl (fun A_b c_b e_b l_b k_b => ?_)
    subst e_b
    refine GL.rn 1 ?_;refine GL.nil ?_
    exact zq58_
   skip
   refine GC.region ?_;refine GL.rn 1 ?_;refine GL.ln_ 2 7 ?_;refine GL.cl Tryz.call79 [] [6, 7, 8] rfl rfl rfl (by exact encstt_long m.stt _ _ _ _ _ _ hm.s (hr.stt (by assumption)) (by omega)) ?_
   rintro _ _ _ ⟨rfl, rfl, rfl⟩
   refine GL.rn 5 ?_
   refine GL.nil (?_ : GC _ _ _ _)
   refine GC.seq' ?_;refine GC.rg 2 ?_;refine GC.cond_true rfl ?_;refine GC.rg 2 ?_;refine GC.ret (Fin.b2 2 3 [] [] ?_)
   have e : pS m = sttB m.stt := if_neg (by assumption)
   rw [e] at lS
   exact .inr ⟨by omega, ⟨_, _, _, rfl⟩, rfl, rfl⟩
  intro h5; try simp only [tst_, bi1, bi2, bi4, bi8] at h5
  refine GC.skip ?_
  exact fun a w h => ⟨(_), (_), trivial, by rw [show pS m = [] from if_pos (by assumption), List.append_nil]; exact h.cut (is := [0, 0, 0]) (js := (up 0 10)) ⟨rfl, rfl, trivial⟩ rfl rfl⟩
 intro A1 c1 hj19
 try dsimp only [List.cons_append, List.nil_append] at hj19 ⊢
 refine GC.rr 2 ?_;refine GL.ld_ 2 ?_;refine GL.rn 1 ?_;refine GL.pure rfl (p_convR (t := 3) (r := ((m.log.length : Nat) : Int)) (by rw [Tryz.underlying3]; simp) Tryz.underlying23 rfl (cvU (by omega) (by omega))) ?_
 refine GL.freezeB (i := 0) rfl ?_;refine GL.cl Tryz.call80 [] [0] rfl rfl rfl (by exact oput_ct _ (hdB m ++ pO m ++ pR m ++ pG m ++ pS m) _ m.log.length 4 (by omega) (by omega) (by simp; omega) (by rw [p256_4]; omega)) ?_
 rintro _ _ _ ⟨A137, cp137, l137, k137, rfl, rfl, rfl⟩
 refine GL.rz 4 ?_;refine GC.seq' ?_;refine GC.rr 1 ?_;refine GL.ld_ 2 ?_;refine GL.rz 2 ?_;refine GC.block ?_;refine GC.loopK3 (ks := [141, 142]) (is := [1, 2]) (js := (up 0 11)) (fun (k : Nat) (A1 : Option Addr) (c1 : Nat) => k ≤ m.log.length ∧ (preB m ++ (m.log.take k).flatMap entB).length ≤ c1 ∧ c1 ≤ 9223372036854775807) (fun (k : Nat) (A1 : Option Addr) (c1 : Nat) => [(5, .slice A1 (preB m ++ (m.log.take k).flatMap entB).length c1), (143, .int .i64 (k : Int))]) (fun (k : Nat) (A1 : Option Addr) (c1 : Nat) => [rowOf A1 c1 (preB m ++ (m.log.take k).flatMap entB)]) (fun (k : Nat) (A1 : Option Addr) (c1 : Nat) => []) (fun (k : Nat) (A1 : Option Addr) (c1 : Nat) => m.log.length - k) (0) (_) (_) rfl rfl rfl (fun a w h => ⟨⟨by omega, by simp only [List.take_zero, List.flatMap_nil, List.append_nil]; exact l137, k137⟩, by simp only [List.take_zero, List.flatMap_nil, List.append_nil]; exact h.cutK (is := [0, 0, 0]) (js := (up 0 11)) (ks := [141, 142]) ⟨rfl, rfl, trivial⟩ rfl rfl rfl⟩) ?_
 intro k A1 c1 hk
 try dsimp only [List.cons_append, List.nil_append] at hk ⊢
 obtain ⟨hk, hc1, hc2⟩ := hk
 refine GC.rg 1 ?_;refine GC.seq' ?_;refine GC.co ?_ ?_
 ·intro h6; try simp only [tst_, bi1, bi2, bi4, bi8] at h6
  refine GC.skip (?_ : GC _ _ _ _)
  refine GC.seq' ?_;refine GC.block ?_;refine GC.sr_ ?_;refine GL.step rfl (t_index (i := 10) rfl rfl rfl rfl Tryz.underlying40 sz_64 (by omega) (gt_ok (by omega) (by omega))) (GL.ex fun p_x145 => GL.ex fun r_x145 => GL.and fun ok_x145 => ?_)
  rcases r_x145 with ⟨_, ⟨_, ⟨_, ⟨_, ⟨_, ⟨⟨_, ⟨_, ⟨_, ⟨⟨Ax145_0, cpx145_0⟩, ⟨Ax145_1, cpx145_1⟩⟩⟩⟩⟩, ⟨_, ⟨Ax145_2, cpx145_2⟩⟩⟩⟩⟩⟩⟩⟩
  refine GL.step rfl (t_mem rfl (m_loadPN (i := 0) rfl rfl ag_64 (vs := [_, _, _, _, _, _, _, _, _, _, _, _]) sz_64 ⟨rfl, rfl, rfl, rfl, rfl, rfl, rfl, rfl, rfl, rfl, rfl, rfl, trivial⟩)) ?_;refine GL.step rfl (t_alloc rfl ze_64) (GL.ex fun b_t13 => ?_)
  refine GL.sn_ 0 ?_;refine GL.nl_ ?_;refine GC.seq' ?_;refine GC.sr_ ?_;refine GL.ln_ 0 12 ?_
  have hel := (hm.e _ (gt_elem (l := m.log) (k := k) (by omega))).m
  refine GL.cl Tryz.call81 [] [1, 2, 3] rfl rfl rfl (by exact encent_ct (gt m.log (k : Int)) _ _ _ _ _ _ (hr.log _ (gt_elem (by omega))) (by omega)) ?_
  rintro _ _ _ ⟨A149, cp149, l149, k149, rfl, rfl, rfl⟩
  refine GL.rz 4 ?_;refine GC.seq' ?_
  have hlk := log_len hr k
  have hek := entB_len (hr.log _ (gt_elem (l := m.log) (k := k) (by omega)))
  have hk4 : k * 400000 ≤ 100000 * 400000 := Nat.mul_le_mul_right _ (by omega)
  have hpl : (preB m ++ (m.log.take k).flatMap entB).length = (preB m).length + ((m.log.take k).flatMap entB).length := List.length_append
  refine GC.region ?_;refine GL.rn 4 ?_;refine GL.pure rfl (p_add rfl rfl (w64 (by omega) (by omega))) ?_;refine GL.rn 1 ?_
  refine GL.nil (?_ : GC _ _ _ _)
  refine GC.co ?_ ?_
  ·intro h7; try simp only [tst_, bi1, bi2, bi4, bi8] at h7
   refine GC.rg 2 ?_;refine GC.ret (Fin.b2 2 3 [] [] ?_)
   have := body_ge' (m := m) (k := k) (by omega)
   rw [List.length_append] at *
   exact .inr ⟨by omega, ⟨_, _, _, rfl⟩, rfl, rfl⟩
  intro h7; try simp only [tst_, bi1, bi2, bi4, bi8] at h7
  refine GC.skip (?_ : GC _ _ _ _)
  refine GC.region ?_;refine GL.rn 2 ?_;refine GL.freezeB (i := 0) rfl ?_;refine GL.step rfl (t_appendS (i := 1) (k := 0) rfl el_25 rfl rfl rfl rfl (by (try simp only [List.length_append, List.length_cons, List.length_nil, List.length_map, List.length_take, flZ_length, flI_length, leN_length]); first | omega | (have := opB_len (hr.op (by assumption)); omega) | (have := resB_len (hr.res (by assumption)); omega) | (have := grp_rng (hr.grp (by assumption)); omega) | (have := sttB_len (hr.stt (by assumption)); omega) | (have := log_len hr k; have := entB_len (hr.log _ (gt_elem (l := m.log) (k := k) (by omega))); have : k * 400000 ≤ 100000 * 400000 := Nat.mul_le_mul_right _ (by omega); omega)) (fun _ => rfl)) (GL.ex fun v160 => ?_)
  refine GL.rowIs (i := 1) (m' := ((preB m ++ (m.log.take k).flatMap entB ++ entB (gt m.log (k : Int)))).length) (cs' := ((preB m ++ (m.log.take k).flatMap entB ++ entB (gt m.log (k : Int)))).map u8v) rfl (by first | (simp only [List.length_append, List.length_cons, List.length_nil, List.append_assoc]; done) | (simp only [List.length_append, List.length_cons, List.length_nil, List.append_assoc]; omega) | (simp [leN_length, flI_length, hdB]; done) | (simp [leN_length, flI_length, hdB]; omega) | rfl) (by first | (simp only [List.map_append, List.map_cons, List.map_nil, List.append_assoc]; done) | (simp [leN_length, flI_length, hdB]; done) | rfl) rfl ?_
  refine GL.shape (i := 1) rfl (fun A_b c_b e_b l_b k_b => ?_)
  subst e_b
  refine GL.rn 1 ?_
  refine GL.nil (?_ : GC _ _ _ _)
  refine GC.region ?_;refine GL.pure rfl (p_add rfl rfl (w64 (by omega) (by omega))) ?_;refine GL.rn 1 ?_;refine GL.nil ?_
  exact fun a w h => ⟨(k + 1), (A_b), (c_b), (by omega), ⟨by omega, by rw [fm_take (by omega), ← List.append_assoc]; exact l_b, k_b⟩, by rw [fm_take (by omega), ← List.append_assoc]; exact h.ct [1, 1, 1] (up 5 11)⟩
 intro h6; try simp only [tst_, bi1, bi2, bi4, bi8] at h6
 refine GC.exit (?_ : GC _ _ _ _)
 refine GC.seq' ?_
 obtain rfl : k = m.log.length := by omega
 rw [List.take_length] at hc1 ⊢
 have hbe : preB m ++ m.log.flatMap entB = bodyB m := rfl
 rw [hbe] at hc1 ⊢
 by_cases hfit : (bodyB m).length ≤ 16777216
 ·skip
  refine GC.region ?_;refine GL.rn 6 ?_
  refine GL.nil (?_ : GC _ _ _ _)
  refine GC.ret (Fin.b2 2 3 [0] [] ?_)
  refine .inl ⟨hfit, _, _, hc1, hc2, ?_, rfl, rfl⟩
  exact congrArg (fun b => Value.tuple #[.slice _ _ _, .bool b]) (decide_eq_true (by omega))
 skip
 refine GC.region ?_;refine GL.rn 6 ?_
 refine GL.nil (?_ : GC _ _ _ _)
 refine GC.ret (Fin.b2 2 3 [] [] ?_)
 refine .inr ⟨by omega, ⟨A1, (bodyB m).length, c1, ?_⟩, rfl, rfl⟩
 exact congrArg (fun b => Value.tuple #[.slice _ _ _, .bool b]) (decide_eq_false (by omega))
end Go.Proofs.YtdhdmbmknpjhbaaGreat
namespace Go.Sx
open Go
section
variable {P : Program} {c : Cx} {n : Nat} {env : List (Nat × Value)} {G G' : List Own} {Q : List Pers} {R : Exit → Asr} {cd : Code} {ops : Array Oper} {rest : List Oper} {a : Act} {w : World}
theorem St.freezeI {i e m cp : Nat} {A : Option Addr} {xs : List Int} (h : St c n env G Q a w) (ht : takeO G i = some (.row (.slice A m cp) e 1 m (xs.map (Value.int .i64)), G')) : St c n env G' (Pers.row (Kd.int .i64) A xs :: Q) a w :=
  h.freeze (QN := [Pers.row (Kd.int .i64) A xs]) ht fun w S ho hS hq q hq' => by
    rw [List.mem_singleton.1 hq']
    exact row_pers (kd := Kd.int .i64) ho hS (scalar_reps xs) (by decide)
theorem GL.freezeI {i e m cp : Nat} {A : Option Addr} {xs : List Int} (ht : takeO G i = some (.row (.slice A m cp) e 1 m (xs.map (Value.int .i64)), G')) (k : GL P ops R rest (St c n env G' (Pers.row (Kd.int .i64) A xs :: Q))) : GL P ops R rest (St c n env G Q) := GL.imp (fun a w h => h.freezeI ht) k
theorem GC.freezeI {i e m cp : Nat} {A : Option Addr} {xs : List Int} (ht : takeO G i = some (.row (.slice A m cp) e 1 m (xs.map (Value.int .i64)), G')) (k : GC P R cd (St c n env G' (Pers.row (Kd.int .i64) A xs :: Q))) : GC P R cd (St c n env G Q) := GC.imp (fun a w h => h.freezeI ht) k
end
end Go.Sx
namespace Go.Proofs.YtdhdmbmknpjhbaaGreat
open Go Go.Sx Go.Proofs
abbrev getE (b : List UInt8) (at_ n : Nat) : Int := if at_ + n ≤ b.length then 0 else 10
abbrev getV (b : List UInt8) (at_ n : Nat) : Nat := if at_ + n ≤ b.length then valN (seg b at_ (at_ + n)) else 0
abbrev getX (b : List UInt8) (at_ n : Nat) : Nat := if at_ + n ≤ b.length then at_ + n else 0
theorem get_all (A : Option Addr) (b : List UInt8) (cp at_ n : Nat) (hn : 1 ≤ n) (hn' : n ≤ 8) (hb : b.length ≤ cp) (hb' : b.length ≤ 140737488355328) (hat : at_ ≤ b.length) : Ct Tryz.prog 91 [.slice A b.length cp, .int .i64 (at_ : Int), .int .i64 (n : Int)] [] [Pers.row Kd.u8 A b]
    (fun u G Q => u = .tuple #[.int .u64 ((getV b at_ n : Nat) : Int), .int .i64 ((getX b at_ n : Nat) : Int), .int .i64 (getE b at_ n)] ∧ G = [] ∧ Q = []) := by
  by_cases h : at_ + n ≤ b.length
  · rw [getV, getX, getE, if_pos h, if_pos h, if_pos h]; exact get_ok A b cp at_ n hn hn' hb (by omega) h
  · rw [getV, getX, getE, if_neg h, if_neg h, if_neg h]; exact get_short A b cp at_ n hn hn' hb' hat (by omega)
theorem valN_rng {b : List UInt8} {l h n : Nat} (hh : h ≤ b.length) (hn : h - l = n) : valN (seg b l h) < 256 ^ n := by
  have := valN_lt (seg b l h)
  rwa [seg_length hh, hn] at this
def txF (b : List UInt8) (at_ : Nat) : List UInt8 × Nat × Int :=
  if at_ + 4 ≤ b.length then
    (if valN (seg b at_ (at_ + 4)) ≤ 16777216 then
      (if at_ + 4 + valN (seg b at_ (at_ + 4)) ≤ b.length then (seg b (at_ + 4) (at_ + 4 + valN (seg b at_ (at_ + 4))), at_ + 4 + valN (seg b at_ (at_ + 4)), 0) else ([], 0, 10))
    else ([], 0, 2))
  else ([], 0, 10)
theorem zq59_ {X : Prop} (h : X := by (exact ⟨[], 0, 2, none, 0, by rw [txF, if_pos hq4, if_neg (by omega)], by simp, by simp, rfl, rfl, rfl⟩)) : X := h
theorem zq60_ {X : Prop} (h : X := by (exact ⟨[], 0, 10, none, 0, by rw [txF, if_pos hq4, if_pos (by omega), if_neg (by omega)], by simp, by simp, rfl, rfl, rfl⟩)) : X := h
theorem zq61_ {X : Prop} (h : X := by (exact ⟨[], 0, 10, none, 0, by rw [txF, if_neg hq4], by simp, by simp, rfl, rfl, rfl⟩)) : X := h
theorem gettext_ct (A : Option Addr) (b : List UInt8) (cp at_ : Nat) (hb : b.length ≤ cp) (hcp' : cp ≤ 9223372036854775807) (hb' : b.length ≤ 10000000000000) (hat : at_ ≤ b.length) : Ct Tryz.prog 169 [.slice A b.length cp, .int .i64 (at_ : Int)] [] [Pers.row Kd.u8 A b]
    (fun u G Q => ∃ x n e A' c', txF b at_ = (x, n, e) ∧ x.length ≤ c' ∧ c' ≤ 9223372036854775807 ∧ u = .tuple #[.slice A' x.length c', .int .i64 ((n : Nat) : Int), .int .i64 e] ∧ G = [] ∧ Q = [Pers.row Kd.u8 A' x]) := by
 by_cases hq4 : at_ + 4 ≤ b.length
 ·have hv := valN_rng (b := b) (l := at_) (h := at_ + 4) (n := 4) hq4 (by omega)
  rw [p256_4] at hv
  have ee : ((at_ + 4 : Nat) : Int) + ((valN (seg b at_ (at_ + 4)) : Nat) : Int) = ((at_ + 4 + valN (seg b at_ (at_ + 4)) : Nat) : Int) := by omega
  have hsl : at_ + 4 + valN (seg b at_ (at_ + 4)) ≤ b.length → (seg b (at_ + 4) (at_ + 4 + valN (seg b at_ (at_ + 4)))).length = valN (seg b at_ (at_ + 4)) := fun h => by rw [seg_length h]; omega
  refine Ct.intro Tryz.func169 rfl rfl rfl (fun c hc => ?_)
  refine GC.rg 3 ?_;refine GC.rr 2 ?_;refine GL.cl Tryz.call91 [] [0] rfl rfl rfl (by exact get_ok _ b _ at_ 4 (by omega) (by omega) hb (by omega) hq4) ?_
  rintro _ _ _ ⟨rfl, rfl, rfl⟩
  refine GL.rz 7 ?_;refine GC.seq' ?_;refine GC.block ?_;refine GC.rg 3 ?_;refine GC.cond_false rfl ?_;refine GC.rg 3 ?_;refine GC.co ?_ ?_
  ·intro h1; try simp only [tst_] at h1
   refine GC.rg 3 ?_;refine GC.know (q := Pers.row Kd.u8 none []) (fun _ _ _ => .inl rfl) ?_;refine GC.ret (Fin.b3 4 5 6 [] [0] ?_)
   exact zq59_
  intro h1; try simp only [tst_] at h1
  refine GC.rr 1 ?_;refine GL.pure rfl (p_convR (t := 23) (r := ((valN (seg b at_ (at_ + 4)) : Nat) : Int)) (by rw [Tryz.underlying23]; simp) Tryz.underlying3 rfl (cvI (by omega) (by omega))) ?_
  refine GL.rn 3 ?_;refine GL.pure rfl (p_sub rfl rfl (w64 (by omega) (by omega))) ?_;refine GL.rz 2 ?_;refine GC.co ?_ ?_
  ·intro h2; try simp only [tst_] at h2
   refine GC.rg 3 ?_;refine GC.know (q := Pers.row Kd.u8 none []) (fun _ _ _ => .inl rfl) ?_;refine GC.ret (Fin.b3 4 5 6 [] [0] ?_)
   exact zq60_
  intro h2; try simp only [tst_] at h2
  refine GC.skip (?_ : GC _ _ _ _)
  refine GC.rr 2 ?_;refine GL.pure rfl (p_convR (t := 23) (r := ((valN (seg b at_ (at_ + 4)) : Nat) : Int)) (by rw [Tryz.underlying23]; simp) Tryz.underlying3 rfl (cvI (by omega) (by omega))) ?_
  refine GL.pure rfl (p_add rfl rfl (w64 (by omega) (by omega))) ?_;refine GL.rz 1 ?_;refine GC.rr 3 ?_;refine GL.step rfl (t_cut_lh (j := 0) rfl rfl rfl rfl rfl Tryz.underlying25 sz_5 (by omega) (by omega) (by omega) (by omega)) ?_
  rw [ee, show (((at_ + 4 : Nat) : Int)).toNat = at_ + 4 from rfl, show (((at_ + 4 + valN (seg b at_ (at_ + 4)) : Nat) : Int)).toNat = at_ + 4 + valN (seg b at_ (at_ + 4)) from rfl]
  refine GL.cl Tryz.call118 [] [0] rfl rfl rfl (by exact bclone_ct _ (seg b (at_ + 4) (at_ + 4 + valN (seg b at_ (at_ + 4)))) _ (by rw [hsl (by omega)]; omega)) ?_
  rintro _ _ _ ⟨A41, cp41, l41, k41, rfl, rfl, rfl⟩
  refine GL.rz 4 ?_;refine GC.freezeB (i := 0) rfl ?_;refine GC.ret (Fin.b3 4 5 6 [] [0] ?_)
  exact ⟨_, _, 0, _, _, by rw [txF, if_pos hq4, if_pos (by omega), if_pos (by omega)], l41, k41, rfl, rfl, rfl⟩
 skip
 refine Ct.intro Tryz.func169 rfl rfl rfl (fun c hc => ?_)
 refine GC.rg 3 ?_;refine GC.rr 2 ?_;refine GL.cl Tryz.call91 [] [0] rfl rfl rfl (by exact get_short _ b _ at_ 4 (by omega) (by omega) (by omega) hat (by omega)) ?_
 rintro _ _ _ ⟨rfl, rfl, rfl⟩
 refine GL.rz 7 ?_;refine GC.seq' ?_;refine GC.block ?_;refine GC.rg 3 ?_;refine GC.cond_true rfl ?_;refine GC.rg 4 ?_;refine GC.know (q := Pers.row Kd.u8 none []) (fun _ _ _ => .inl rfl) ?_;refine GC.ret (Fin.b3 4 5 6 [] [0] ?_)
 exact zq61_
theorem inj3 {α β γ : Type} {a x : α} {b t : β} {c k : γ} (h : (a, b, c) = (x, t, k)) : a = x ∧ b = t ∧ c = k := ⟨(Prod.mk.inj h).1, (Prod.mk.inj (Prod.mk.inj h).2).1, (Prod.mk.inj (Prod.mk.inj h).2).2⟩
def numS (b : List UInt8) (at_ : Nat) (code : Int) (n : Nat) : Nat × Nat × Int :=
  if code = 0 then (if at_ + n ≤ b.length then (valN (seg b at_ (at_ + n)), at_ + n, 0) else (0, at_, 10)) else (0, at_, code)
def txS (b : List UInt8) (at_ : Nat) (code : Int) : List UInt8 × Nat × Int :=
  if code = 0 then (if (txF b at_).2.2 = 0 then txF b at_ else ([], at_, if (txF b at_).2.2 = 10 then 10 else 42)) else ([], at_, code)
theorem numS_rng {b : List UInt8} {at_ : Nat} {code : Int} {n v t : Nat} {k : Int} (h : numS b at_ code n = (v, t, k)) (hat : at_ ≤ b.length) : t ≤ b.length ∧ v < 256 ^ n := by
  unfold numS at h
  have hp : 0 < 256 ^ n := Nat.pow_pos (by decide)
  split at h
  · split at h
    · rename_i h2
      obtain ⟨rfl, rfl, rfl⟩ := inj3 h
      exact ⟨h2, valN_rng h2 (by omega)⟩
    · obtain ⟨rfl, rfl, rfl⟩ := inj3 h
      exact ⟨hat, hp⟩
  · obtain ⟨rfl, rfl, rfl⟩ := inj3 h
    exact ⟨hat, hp⟩
theorem txF_rng {b : List UInt8} {at_ : Nat} {x : List UInt8} {t : Nat} {e : Int} (h : txF b at_ = (x, t, e)) (h0 : e = 0) : t ≤ b.length ∧ x.length ≤ 16777216 := by
  unfold txF at h
  split at h
  · split at h
    · split at h
      · rename_i h1 h2 h3
        obtain ⟨rfl, rfl, _⟩ := inj3 h
        exact ⟨h3, by rw [seg_length h3]; omega⟩
      · have := (Prod.mk.inj (Prod.mk.inj h).2).2; omega
    · have := (Prod.mk.inj (Prod.mk.inj h).2).2; omega
  · have := (Prod.mk.inj (Prod.mk.inj h).2).2; omega
theorem txS_rng {b : List UInt8} {at_ : Nat} {code : Int} {x : List UInt8} {t : Nat} {k : Int} (h : txS b at_ code = (x, t, k)) (hat : at_ ≤ b.length) : t ≤ b.length ∧ x.length ≤ 16777216 := by
  unfold txS at h
  split at h
  · split at h
    · rename_i h1 h2
      exact txF_rng h (by rw [h] at h2; exact h2)
    · obtain ⟨rfl, rfl, _⟩ := inj3 h
      exact ⟨hat, by simp⟩
  · obtain ⟨rfl, rfl, _⟩ := inj3 h
    exact ⟨hat, by simp⟩
abbrev bleftG (p e : Nat) (A : Option Addr) (b : List UInt8) (cp at_ : Nat) (code : Int) : List Own := [.cells p [.slice A b.length cp, .int .i64 (at_ : Int), .int .i64 code] e]
theorem bnum_ct (p e_ : Nat) (A : Option Addr) (b : List UInt8) (cp at_ : Nat) (code : Int) (n : Nat) (hn : 1 ≤ n) (hn' : n ≤ 4) (hb : b.length ≤ cp) (hb' : b.length ≤ 10000000000000) (hat : at_ ≤ b.length) : Ct Tryz.prog 151 [.pointer (some ⟨p, 0, none⟩), .int .i64 (n : Int)] (bleftG p e_ A b cp at_ code) [Pers.row Kd.u8 A b]
    (fun u G Q => ∃ v t k, numS b at_ code n = (v, t, k) ∧ u = .int .i64 (v : Int) ∧ G = bleftG p e_ A b cp t k ∧ Q = []) := by
 have hp4 : (256 : Nat) ^ n ≤ 4294967296 := by rw [← p256_4]; exact Nat.pow_le_pow_right (by decide) hn'
 have hvr : at_ + n ≤ b.length → valN (seg b at_ (at_ + n)) < 4294967296 := fun h => Nat.lt_of_lt_of_le (valN_rng h (by omega)) hp4
 by_cases hc0 : code = 0
 ·subst hc0
  by_cases hq4 : at_ + n ≤ b.length
  ·have hv := hvr hq4
   refine Ct.intro Tryz.func151 rfl rfl rfl (fun c hc => ?_)
   refine GC.rg 1 ?_;refine GC.seq' ?_;refine GC.rr 3 ?_;refine GL.ld_ 0 ?_;refine GL.rz 1 ?_;refine GC.cond_false rfl ?_
   refine GC.skip (?_ : GC _ _ _ _)
   refine GC.seq' ?_;refine GC.regionQ wide_ (by kernel_rfl) ?_;refine GQ.rn 3 ?_;refine GQ.step rfl (q_mem (m_load (i := 0) rfl rfl ag_25 rfl)) ?_;refine GQ.rn 3 ?_;refine GQ.step rfl (q_mem (m_load (i := 0) rfl rfl ag_3 rfl)) ?_
   refine GQ.rn 1 ?_;refine GQ.step rfl (q_call Tryz.call91 rfl (js := [0]) rfl (by exact get_ok _ b _ at_ n hn (by omega) hb (by omega) hq4)) ?_;refine GQ.rn 7 ?_
   refine GQ.nil (?_ : GC _ _ _ _)
   refine GC.seq' ?_;refine GC.rg 2 ?_;refine GC.cond_false rfl ?_
   refine GC.skip (?_ : GC _ _ _ _)
   refine GC.rr 4 ?_;refine GL.so_ 0 ?_;refine GL.nr 1 ?_;refine GL.pure rfl (p_convR (t := 23) (r := ((valN (seg b at_ (at_ + n)) : Nat) : Int)) (by rw [Tryz.underlying23]; simp) Tryz.underlying3 rfl (cvI (by omega) (by omega))) ?_
   refine GL.rz 1 ?_;refine GC.ret (Fin.b1 4 [0] [] ?_)
   exact ⟨_, _, 0, by rw [numS, if_pos rfl, if_pos hq4], rfl, rfl, rfl⟩
  skip
  refine Ct.intro Tryz.func151 rfl rfl rfl (fun c hc => ?_)
  refine GC.rg 1 ?_;refine GC.seq' ?_;refine GC.rr 3 ?_;refine GL.ld_ 0 ?_;refine GL.rz 1 ?_;refine GC.cond_false rfl ?_
  refine GC.skip (?_ : GC _ _ _ _)
  refine GC.seq' ?_;refine GC.regionQ wide_ (by kernel_rfl) ?_;refine GQ.rn 3 ?_;refine GQ.step rfl (q_mem (m_load (i := 0) rfl rfl ag_25 rfl)) ?_;refine GQ.rn 3 ?_;refine GQ.step rfl (q_mem (m_load (i := 0) rfl rfl ag_3 rfl)) ?_
  refine GQ.rn 1 ?_;refine GQ.step rfl (q_call Tryz.call91 rfl (js := [0]) rfl (by exact get_short _ b _ at_ n hn (by omega) (by omega) hat (by omega))) ?_;refine GQ.rn 7 ?_
  refine GQ.nil (?_ : GC _ _ _ _)
  refine GC.seq' ?_;refine GC.rg 2 ?_;refine GC.cond_true rfl ?_;refine GC.rr 4 ?_;refine GL.so_ 0 ?_;refine GL.nr 1 ?_;refine GL.nl_ ?_;refine GC.ret (Fin.b1 4 [0] [] ?_)
  exact ⟨0, _, 10, by rw [numS, if_pos rfl, if_neg hq4], rfl, rfl, rfl⟩
 skip
 refine Ct.intro Tryz.func151 rfl rfl rfl (fun c hc => ?_)
 refine GC.rg 1 ?_;refine GC.seq' ?_;refine GC.rr 3 ?_;refine GL.ld_ 0 ?_;refine GL.rz 1 ?_;refine GC.co ?_ ?_
 ·intro h1; try simp only [tst_] at h1
  first
  | (exfalso; first | exact hc0 h1 | exact hc0 (by omega))
  |(skip
    refine GC.rg 1 ?_;refine GC.ret (Fin.b1 4 [0] [] ?_)
    exact ⟨0, _, _, by rw [numS, if_neg hc0], rfl, rfl, rfl⟩)
 intro h1; try simp only [tst_] at h1
 first
 | (exfalso; first | exact hc0 h1 | exact hc0 (by omega))
 |(skip
   refine GC.skip (?_ : GC _ _ _ _)
   refine GC.seq' ?_;refine GC.regionQ wide_ (by kernel_rfl) ?_;refine GQ.rn 3 ?_;refine GQ.step rfl (q_mem (m_load (i := 0) rfl rfl ag_25 rfl)) ?_;refine GQ.rn 3 ?_;refine GQ.step rfl (q_mem (m_load (i := 0) rfl rfl ag_3 rfl)) ?_
   refine GQ.rn 1 ?_;refine GQ.step rfl (q_call Tryz.call91 rfl (js := [0]) rfl (by exact get_short _ b _ at_ n hn (by omega) (by omega) hat (by omega))) ?_;refine GQ.rn 7 ?_
   refine GQ.nil (?_ : GC _ _ _ _)
   refine GC.seq' ?_;refine GC.rg 2 ?_;refine GC.cond_true rfl ?_;refine GC.rr 4 ?_;refine GL.so_ 0 ?_;refine GL.nr 1 ?_;refine GL.nl_ ?_;refine GC.ret (Fin.b1 4 [0] [] ?_)
   skip)
theorem zq62_ {X : Prop} (h : X := by (exact ⟨[], _, _, none, 0, by rw [txS, if_pos rfl, hs20, if_neg (by assumption)]; first | rw [if_pos (by omega), show e20 = 10 by omega] | rw [if_neg (by omega)], by simp, by simp, rfl, rfl, rfl⟩)) : X := h
theorem btext_ct (p e_ : Nat) (A : Option Addr) (b : List UInt8) (cp at_ : Nat) (code : Int) (hb : b.length ≤ cp) (hcp' : cp ≤ 9223372036854775807) (hb' : b.length ≤ 10000000000000) (hat : at_ ≤ b.length) : Ct Tryz.prog 152 [.pointer (some ⟨p, 0, none⟩)] (bleftG p e_ A b cp at_ code) [Pers.row Kd.u8 A b]
    (fun u G Q => ∃ x t k A' c', txS b at_ code = (x, t, k) ∧ x.length ≤ c' ∧ c' ≤ 9223372036854775807 ∧ u = .slice A' x.length c' ∧ G = bleftG p e_ A b cp t k ∧ Q = [Pers.row Kd.u8 A' x]) := by
 by_cases hc0 : code = 0
 ·subst hc0
  refine Ct.intro Tryz.func152 rfl rfl rfl (fun c hc => ?_)
  refine GC.rg 1 ?_;refine GC.seq' ?_;refine GC.rr 3 ?_;refine GL.ld_ 0 ?_;refine GL.rz 1 ?_;refine GC.cond_false rfl ?_
  refine GC.skip (?_ : GC _ _ _ _)
  refine GC.seq' ?_;refine GC.regionC (m := 16) (is := [0]) (js := [0]) wide_ rfl rfl rfl ?_;refine GA.tk 0 [0] [0] ?_;refine GA.tk 1 [0] [0] ?_;refine GA.tk 2 [0] [0] ?_;refine GA.tp 3 rfl [0] [0] (i_mem (m_load (i := 0) rfl rfl ag_25 rfl)) ?_
  refine GA.tk 4 [0] [0] ?_;refine GA.tk 5 [0] [0] ?_;refine GA.tk 6 [0] [0] ?_;refine GA.tp 7 rfl [0] [0] (i_mem (m_load (i := 0) rfl rfl ag_3 rfl)) ?_;refine GA.al [8] ?_
  refine GAs.cons (i := 8) rfl rfl (t_call rfl Tryz.call169 rfl (is := []) (js := [0]) rfl rfl (by exact gettext_ct _ _ _ _ (by omega) (by omega) (by omega) (by omega))) (by rintro a w ⟨_, _, _, ⟨x20, n20, e20, A20, c20, hs20, l20, k20, rfl, rfl, rfl⟩, h⟩; exact h.me [0] [1]) (GA.ret ?_) GAs.nil
  rintro _ _ _ ⟨x20, n20, e20, A20, c20, hs20, l20, k20, rfl, rfl, rfl⟩
  refine GA.tk 9 [0] [1] ?_;refine GA.tk 10 [0] [1] ?_;refine GA.tk 11 [0] [1] ?_;refine GA.tk 12 [0] [1] ?_;refine GA.tk 13 [0] [1] ?_;refine GA.tk 14 [0] [1] ?_;refine GA.tk 15 [0] [1] ?_
  refine GA.done (by kernel_rfl) (?_ : GC _ _ _ _)
  refine GC.seq' ?_;refine GC.rg 2 ?_;refine GC.co ?_ ?_
  ·intro h1; try simp only [tst_] at h1
   refine GC.rr 4 ?_;refine GL.so_ 0 ?_;refine GL.nl_ ?_;refine GC.seq' ?_;refine GC.rg 2 ?_;refine GC.co ?_ ?_
   ·intro h2; try simp only [tst_] at h2
    refine GC.region ?_;refine GL.rn 3 ?_;refine GL.so_ 0 ?_
    refine GL.nil (?_ : GC _ _ _ _)
    refine GC.rg 1 ?_;refine GC.know (q := Pers.row Kd.u8 none []) (fun _ _ _ => .inl rfl) ?_;refine GC.ret (Fin.b1 2 [0] [0] ?_)
    exact zq62_
   intro h2; try simp only [tst_] at h2
   refine GC.skip (?_ : GC _ _ _ _)
   refine GC.rg 1 ?_;refine GC.know (q := Pers.row Kd.u8 none []) (fun _ _ _ => .inl rfl) ?_;refine GC.ret (Fin.b1 2 [0] [0] ?_)
   exact zq62_
  intro h1; try simp only [tst_] at h1
  refine GC.skip (?_ : GC _ _ _ _)
  refine GC.rr 4 ?_;refine GL.so_ 0 ?_;refine GL.nr 2 ?_;refine GL.nl_ ?_;refine GC.ret (Fin.b1 2 [0] [0] ?_)
  exact ⟨_, _, 0, _, _, by rw [txS, if_pos rfl, hs20, if_pos (by assumption)]; rw [show e20 = 0 by assumption], l20, k20, rfl, rfl, rfl⟩
 skip
 refine Ct.intro Tryz.func152 rfl rfl rfl (fun c hc => ?_)
 refine GC.rg 1 ?_;refine GC.seq' ?_;refine GC.rr 3 ?_;refine GL.ld_ 0 ?_;refine GL.rz 1 ?_;refine GC.co ?_ ?_
 ·intro h1; try simp only [tst_] at h1
  first
  | (exfalso; first | exact hc0 h1 | exact hc0 (by omega))
  |(skip
    refine GC.rg 1 ?_;refine GC.know (q := Pers.row Kd.u8 none []) (fun _ _ _ => .inl rfl) ?_;refine GC.ret (Fin.b1 2 [0] [0] ?_)
    exact ⟨[], _, _, none, 0, by rw [txS, if_neg hc0], by simp, by simp, rfl, rfl, rfl⟩)
 intro h1; try simp only [tst_] at h1
 first
 | (exfalso; first | exact hc0 h1 | exact hc0 (by omega))
 |(skip
   refine GC.skip (?_ : GC _ _ _ _)
   refine GC.seq' ?_;refine GC.regionC (m := 16) (is := [0]) (js := [0]) wide_ rfl rfl rfl ?_;refine GA.tk 0 [0] [0] ?_;refine GA.tk 1 [0] [0] ?_;refine GA.tk 2 [0] [0] ?_;refine GA.tp 3 rfl [0] [0] (i_mem (m_load (i := 0) rfl rfl ag_25 rfl)) ?_
   refine GA.tk 4 [0] [0] ?_;refine GA.tk 5 [0] [0] ?_;refine GA.tk 6 [0] [0] ?_;refine GA.tp 7 rfl [0] [0] (i_mem (m_load (i := 0) rfl rfl ag_3 rfl)) ?_;refine GA.al [8] ?_
   refine GAs.cons (i := 8) rfl rfl (t_call rfl Tryz.call169 rfl (is := []) (js := [0]) rfl rfl (by exact gettext_ct _ _ _ _ (by omega) (by omega) (by omega) (by omega))) (by rintro a w ⟨_, _, _, ⟨x20, n20, e20, A20, c20, hs20, l20, k20, rfl, rfl, rfl⟩, h⟩; exact h.me [0] [1]) (GA.ret ?_) ?_
   ·rintro _ _ _ ⟨x20, n20, e20, A20, c20, hs20, l20, k20, rfl, rfl, rfl⟩
    refine GA.tk 9 [0] [1] ?_;refine GA.tk 10 [0] [1] ?_;refine GA.tk 11 [0] [1] ?_;refine GA.tk 12 [0] [1] ?_;refine GA.tk 13 [0] [1] ?_;refine GA.tk 14 [0] [1] ?_;refine GA.tk 15 [0] [1] ?_
    refine GA.done (by kernel_rfl) (?_ : GC _ _ _ _)
    refine GC.seq' ?_;refine GC.rg 2 ?_;refine GC.co ?_ ?_
    ·intro h2; try simp only [tst_] at h2
     first
     | (exfalso; first | exact hc0 h2 | exact hc0 (by omega))
     |(skip
       refine GC.rr 4 ?_;refine GL.so_ 0 ?_;refine GL.nl_ ?_;refine GC.seq' ?_;refine GC.rg 2 ?_;refine GC.co ?_ ?_
       ·intro h3; try simp only [tst_] at h3
        first
        | (exfalso; first | exact hc0 h3 | exact hc0 (by omega))
        |(skip
          refine GC.region ?_;refine GL.rn 3 ?_;refine GL.so_ 0 ?_
          refine GL.nil (?_ : GC _ _ _ _)
          refine GC.rg 1 ?_;refine GC.ret (Fin.b1 2 [] [] ?_)
          skip)
       intro h3; try simp only [tst_] at h3
       first
       | (exfalso; first | exact hc0 h3 | exact hc0 (by omega))
       |(skip
         refine GC.skip (?_ : GC _ _ _ _)
         refine GC.rg 1 ?_;refine GC.ret (Fin.b1 2 [] [] ?_)
         skip))
    intro h2; try simp only [tst_] at h2
    first
    | (exfalso; first | exact hc0 h2 | exact hc0 (by omega))
    |(skip
      refine GC.skip (?_ : GC _ _ _ _)
      refine GC.rr 4 ?_;refine GL.so_ 0 ?_;refine GL.nr 2 ?_;refine GL.nl_ ?_;refine GC.ret (Fin.b1 2 [] [] ?_)
      skip)
   exact GAs.nil)
theorem bend_ct (p e_ : Nat) (A : Option Addr) (b : List UInt8) (cp at_ : Nat) (code may : Int) : Ct Tryz.prog 153 [.pointer (some ⟨p, 0, none⟩), .int .i64 may] (bleftG p e_ A b cp at_ code) []
    (fun u G Q => ∃ n e, ((e = 0 ↔ code = 0 ∧ may = 0) ∧ (e = 0 → n = (at_ : Int))) ∧ u = .tuple #[.int .i64 n, .int .i64 e] ∧ G = bleftG p e_ A b cp at_ code ∧ Q = []) := by
 refine Ct.intro Tryz.func153 rfl rfl rfl (fun c hc => ?_)
 refine GC.rg 2 ?_;refine GC.seq' ?_;refine GC.rr 4 ?_;refine GL.ld_ 0 ?_;refine GL.rz 1 ?_;refine GC.co ?_ ?_
 ·intro h1; try simp only [tst_] at h1
  refine GC.seq' ?_;refine GC.regionQ wide_ (by kernel_rfl) ?_;refine GQ.rn 4 ?_;refine GQ.step rfl (q_mem (m_load (i := 0) rfl rfl ag_45 rfl)) ?_;refine GQ.rn 2 ?_
  refine GQ.nil (?_ : GC _ _ _ _)
  refine GC.ret (Fin.b2 4 5 [0] [] ?_)
  exact ⟨_, _, ⟨by omega, by omega⟩, rfl, rfl, rfl⟩
 intro h1; try simp only [tst_] at h1
 refine GC.skip (?_ : GC _ _ _ _)
 refine GC.seq' ?_;refine GC.rg 2 ?_;refine GC.co ?_ ?_
 ·intro h2; try simp only [tst_] at h2
  refine GC.rg 2 ?_;refine GC.ret (Fin.b2 4 5 [0] [] ?_)
  exact ⟨_, _, ⟨by omega, by omega⟩, rfl, rfl, rfl⟩
 intro h2; try simp only [tst_] at h2
 refine GC.skip (?_ : GC _ _ _ _)
 refine GC.rr 4 ?_;refine GL.ld_ 0 ?_;refine GL.rz 2 ?_;refine GC.ret (Fin.b2 4 5 [0] [] ?_)
 exact ⟨_, _, ⟨by omega, by omega⟩, rfl, rfl, rfl⟩
def decOpS (b : List UInt8) : OpD × Nat × Int :=
  let x1 := numS b 0 0 1
  let x2 := numS b x1.2.1 x1.2.2 4
  let x3 := numS b x2.2.1 x2.2.2 4
  let x4 := txS b x3.2.1 x3.2.2
  let x5 := txS b x4.2.1 x4.2.2
  (⟨(x1.1 : Int), (x2.1 : Int), (x3.1 : Int), x4.1, x5.1⟩, x5.2)
theorem decOpS_eq {b : List UInt8} {v1 t1 v2 t2 v3 t3 t4 t5 : Nat} {k1 k2 k3 k4 k5 : Int} {x4 x5 : List UInt8} (e1 : numS b 0 0 1 = (v1, t1, k1)) (e2 : numS b t1 k1 4 = (v2, t2, k2)) (e3 : numS b t2 k2 4 = (v3, t3, k3)) (e4 : txS b t3 k3 = (x4, t4, k4)) (e5 : txS b t4 k4 = (x5, t5, k5)) :
    decOpS b = (⟨(v1 : Int), (v2 : Int), (v3 : Int), x4, x5⟩, t5, k5) := by
  simp only [decOpS, e1, e2, e3, e4, e5]
def decOp (b : List UInt8) : Option (OpD × Nat) := if (decOpS b).2.2 = 0 ∧ formE (decOpS b).1.kind (decOpS b).1.at_ (decOpS b).1.n (decOpS b).1.data.length (decOpS b).1.old.length = 0 then some ((decOpS b).1, (decOpS b).2.1) else none
theorem zq63_ {X : Prop} (h : X := by (exact ⟨zop, 0, _, none, 0, none, 0, fun h => by omega, ⟨by omega, fun _ => by rw [decOp, hd, if_neg]; intro hh; exact absurd (hn41.1.2 hh) (by assumption)⟩, by simp [zop], by simp, by simp [zop], by simp, rfl, rfl, rfl⟩)) : X := h
theorem zq64_ {X : Prop} (h : X := by (exact ⟨⟨(v16 : Int), (v21 : Int), (v25 : Int), x30, x35⟩, t35, 0, _, _, _, _, fun _ => by rw [decOp, hd, if_pos (hn41.1.1 rfl)], ⟨ht35, fun h => absurd rfl h⟩, l30, m30, l35, m35, rfl, rfl, rfl⟩)) : X := h
theorem decop_ct (A : Option Addr) (b : List UInt8) (cp : Nat) (hb : b.length ≤ cp) (hcp' : cp ≤ 9223372036854775807) (hb' : b.length ≤ 10000000000000) : Ct Tryz.prog 129 [.slice A b.length cp] [] [Pers.row Kd.u8 A b]
    (fun u G Q => ∃ (o : OpD) (n : Nat) (e : Int) (A1 : Option Addr) (c1 : Nat) (A2 : Option Addr) (c2 : Nat), (e = 0 → decOp b = some (o, n)) ∧ (n ≤ b.length ∧ (e ≠ 0 → decOp b = none)) ∧ o.data.length ≤ c1 ∧ c1 ≤ 9223372036854775807 ∧ o.old.length ≤ c2 ∧ c2 ≤ 9223372036854775807 ∧ u = .tuple #[opD o A1 c1 A2 c2, .int .i64 (n : Int), .int .i64 e] ∧ G = [] ∧ Q = [Pers.row Kd.u8 A1 o.data, Pers.row Kd.u8 A2 o.old]) := by
 have hp1 : (256 : Nat) ^ 1 = 256 := p256_1
 have hp4 : (256 : Nat) ^ 4 = 4294967296 := p256_4
 refine Ct.intro Tryz.func129 rfl rfl rfl (fun c hc => ?_)
 refine GC.sr_ ?_;refine GL.step rfl (t_alloc rfl ze_27) (GL.ex fun b_t2 => ?_);refine GL.rz 2 ?_;refine GC.rr 1 ?_;refine GL.pure rfl (p_build ze_191 of_191 rfl rfl) ?_;refine GL.pure rfl (p_build ze_193 of_193 rfl rfl) ?_
 refine GL.step rfl (t_box rfl rfl rfl) (GL.ex fun b_t12 => ?_);refine GL.rz 1 ?_;refine GC.seq' ?_;refine GC.regionC (m := 16) (is := [1]) (js := [0]) wide_ rfl rfl rfl ?_;refine GA.tk 0 [1] [0] ?_;refine GA.tk 1 [1] [0] ?_
 refine GA.tk 2 [1] [0] ?_;refine GA.tk 5 [1] [0] ?_;refine GA.tk 6 [1] [0] ?_;refine GA.tk 7 [1] [0] ?_;refine GA.tk 9 [1] [0] ?_;refine GA.tk 10 [1] [0] ?_;refine GA.tk 11 [1] [0] ?_;refine GA.al [3, 14] ?_
 refine GAs.cons (i := 3) rfl rfl (t_call rfl Tryz.call151 rfl (is := [0]) (js := [0]) rfl rfl (by exact bnum_ct _ _ _ b _ 0 0 1 (by omega) (by omega) (by omega) (by omega) (by omega))) (by rintro a w ⟨_, _, _, ⟨v16, t16, k16, hs16, rfl, rfl, rfl⟩, h⟩; exact h.me [1] [0]) (GA.ret ?_) ?_
 ·rintro _ _ _ ⟨v16, t16, k16, hs16, rfl, rfl, rfl⟩
  obtain ⟨ht16, hv16⟩ := numS_rng hs16 (by omega)
  refine GA.tp 4 rfl [1] [0] (i_pure (p_convR (t := 3) (r := ((v16 : Nat) : Int)) (by rw [Tryz.underlying3]; simp) Tryz.underlying24 rfl (by simp [IntKind.wrap, IntKind.bits, IntKind.signed]; omega))) ?_;refine GA.al [8, 14] ?_
  refine GAs.cons (i := 8) rfl rfl (t_call rfl Tryz.call151 rfl (is := [0]) (js := [0]) rfl rfl (by exact bnum_ct _ _ _ b _ t16 k16 4 (by omega) (by omega) (by omega) (by omega) (by omega))) (by rintro a w ⟨_, _, _, ⟨v21, t21, k21, hs21, rfl, rfl, rfl⟩, h⟩; exact h.me [1] [0]) (GA.ret ?_) ?_
  ·rintro _ _ _ ⟨v21, t21, k21, hs21, rfl, rfl, rfl⟩
   obtain ⟨ht21, hv21⟩ := numS_rng hs21 (by omega)
   refine GA.al [12, 14] ?_
   refine GAs.cons (i := 12) rfl rfl (t_call rfl Tryz.call151 rfl (is := [0]) (js := [0]) rfl rfl (by exact bnum_ct _ _ _ b _ t21 k21 4 (by omega) (by omega) (by omega) (by omega) (by omega))) (by rintro a w ⟨_, _, _, ⟨v25, t25, k25, hs25, rfl, rfl, rfl⟩, h⟩; exact h.me [1] [0]) (GA.ret ?_) ?_
   ·rintro _ _ _ ⟨v25, t25, k25, hs25, rfl, rfl, rfl⟩
    obtain ⟨ht25, hv25⟩ := numS_rng hs25 (by omega)
    refine GA.tp 13 rfl [1] [0] (i_pure (p_build ze_27 of_27 rfl rfl)) ?_;refine GA.al [14] ?_
    refine GAs.cons (i := 14) rfl rfl (t_alloc rfl ze_27) (by rintro a w ⟨_, h⟩; exact h.me [2] [0]) (GA.ex fun b_t6 => ?_) GAs.nil
    refine GA.al [15] ?_
    refine GAs.cons (i := 15) rfl rfl (t_storeN (i := 0) rfl rfl rfl sz_27 rfl rfl rfl) (by rintro a w h; exact h.me [2] [0]) ?_ GAs.nil
    refine GA.done (by kernel_rfl) (?_ : GC _ _ _ _)
    refine GC.rr 3 ?_;refine GL.cl Tryz.call152 [1] [0] rfl rfl rfl (by exact btext_ct _ _ _ _ _ _ _ (by omega) (by omega) (by omega) (by omega)) ?_
    rintro _ _ _ ⟨x30, t30, k30, A30, c30, hs30, l30, m30, rfl, rfl, rfl⟩
    obtain ⟨ht30, hx30⟩ := txS_rng hs30 (by omega)
    refine GL.rn 1 ?_;refine GL.so_ 1 ?_;refine GL.nr 3 ?_;refine GL.cl Tryz.call152 [0] [1] rfl rfl rfl (by exact btext_ct _ _ _ _ _ _ _ (by omega) (by omega) (by omega) (by omega)) ?_
    rintro _ _ _ ⟨x35, t35, k35, A35, c35, hs35, l35, m35, rfl, rfl, rfl⟩
    obtain ⟨ht35, hx35⟩ := txS_rng hs35 (by omega)
    refine GL.rn 1 ?_;refine GL.so_ 1 ?_;refine GL.nr 1 ?_;refine GL.ln_ 1 5 ?_;refine GL.cl Tryz.call60 [] [] rfl rfl rfl (by exact form_ct (v16 : Int) (v21 : Int) (v25 : Int) _ x30.length _ _ x35.length _) ?_
    rintro _ _ _ ⟨rfl, rfl, rfl⟩
    refine GL.cl Tryz.call153 [0] [] rfl rfl rfl (by exact bend_ct _ _ _ _ _ _ _ _) ?_
    rintro _ _ _ ⟨n41, e41, hn41, rfl, rfl, rfl⟩
    refine GL.rz 5 ?_;refine GC.seq' ?_;refine GC.sr_ ?_
    have hd := decOpS_eq hs16 hs21 hs25 hs30 hs35
    refine GL.rz 2 ?_;refine GC.co ?_ ?_
    ·intro h1; try simp only [tst_] at h1
     refine GC.sr_ ?_;refine GL.pure rfl (p_build ze_27 of_27 rfl rfl) ?_;refine GL.rn 1 ?_;refine GL.sn_ 2 ?_;refine GL.rz 2 ?_;refine GC.know (q := Pers.row Kd.u8 none []) (fun _ _ _ => .inl rfl) ?_;refine GC.ret (Fin.c2 2 27 3 4 2 5 [] [0, 0] ?_)
     exact zq63_
    intro h1; try simp only [tst_] at h1
    refine GC.skip (?_ : GC _ _ _ _)
    refine GC.sr_ ?_;refine GL.ln_ 1 5 ?_;refine GL.rn 1 ?_;refine GL.sn_ 2 ?_;refine GL.rz 2 ?_;refine GC.ret (Fin.c2 2 27 3 4 2 5 [] [1, 0] ?_)
    have e0 : e41 = 0 := by assumption
    have en := hn41.2 e0
    subst en e0
    exact zq64_
   refine GAs.cons (i := 14) rfl rfl (t_alloc rfl ze_27) (by rintro a w ⟨_, h⟩; exact h.me [2] [0]) (GA.ex fun b_t6 => ?_) GAs.nil
   refine GA.al [12] ?_
   refine GAs.cons (i := 12) rfl rfl (t_call rfl Tryz.call151 rfl (is := [1]) (js := [0]) rfl rfl (by exact bnum_ct _ _ _ b _ t21 k21 4 (by omega) (by omega) (by omega) (by omega) (by omega))) (by rintro a w ⟨_, _, _, ⟨v25, t25, k25, hs25, rfl, rfl, rfl⟩, h⟩; exact h.me [2] [0]) (GA.ret ?_) GAs.nil
   rintro _ _ _ ⟨v25, t25, k25, hs25, rfl, rfl, rfl⟩
   obtain ⟨ht25, hv25⟩ := numS_rng hs25 (by omega)
   refine GA.tp 13 rfl [2] [0] (i_pure (p_build ze_27 of_27 rfl rfl)) ?_;refine GA.al [15] ?_
   refine GAs.cons (i := 15) rfl rfl (t_storeN (i := 1) rfl rfl rfl sz_27 rfl rfl rfl) (by rintro a w h; exact h.me [2] [0]) ?_ GAs.nil
   refine GA.done (by kernel_rfl) (?_ : GC _ _ _ _)
   refine GC.rr 3 ?_;refine GL.cl Tryz.call152 [0] [0] rfl rfl rfl (by exact btext_ct _ _ _ _ _ _ _ (by omega) (by omega) (by omega) (by omega)) ?_
   rintro _ _ _ ⟨x30, t30, k30, A30, c30, hs30, l30, m30, rfl, rfl, rfl⟩
   obtain ⟨ht30, hx30⟩ := txS_rng hs30 (by omega)
   refine GL.rn 1 ?_;refine GL.so_ 1 ?_;refine GL.nr 3 ?_;refine GL.cl Tryz.call152 [0] [1] rfl rfl rfl (by exact btext_ct _ _ _ _ _ _ _ (by omega) (by omega) (by omega) (by omega)) ?_
   rintro _ _ _ ⟨x35, t35, k35, A35, c35, hs35, l35, m35, rfl, rfl, rfl⟩
   obtain ⟨ht35, hx35⟩ := txS_rng hs35 (by omega)
   refine GL.rn 1 ?_;refine GL.so_ 1 ?_;refine GL.nr 1 ?_;refine GL.ln_ 1 5 ?_;refine GL.cl Tryz.call60 [] [] rfl rfl rfl (by exact form_ct (v16 : Int) (v21 : Int) (v25 : Int) _ x30.length _ _ x35.length _) ?_
   rintro _ _ _ ⟨rfl, rfl, rfl⟩
   refine GL.cl Tryz.call153 [0] [] rfl rfl rfl (by exact bend_ct _ _ _ _ _ _ _ _) ?_
   rintro _ _ _ ⟨n41, e41, hn41, rfl, rfl, rfl⟩
   refine GL.rz 5 ?_;refine GC.seq' ?_;refine GC.sr_ ?_
   have hd := decOpS_eq hs16 hs21 hs25 hs30 hs35
   refine GL.rz 2 ?_;refine GC.co ?_ ?_
   ·intro h1; try simp only [tst_] at h1
    refine GC.sr_ ?_;refine GL.pure rfl (p_build ze_27 of_27 rfl rfl) ?_;refine GL.rn 1 ?_;refine GL.sn_ 2 ?_;refine GL.rz 2 ?_;refine GC.know (q := Pers.row Kd.u8 none []) (fun _ _ _ => .inl rfl) ?_;refine GC.ret (Fin.c2 2 27 3 4 2 5 [] [0, 0] ?_)
    exact zq63_
   intro h1; try simp only [tst_] at h1
   refine GC.skip (?_ : GC _ _ _ _)
   refine GC.sr_ ?_;refine GL.ln_ 1 5 ?_;refine GL.rn 1 ?_;refine GL.sn_ 2 ?_;refine GL.rz 2 ?_;refine GC.ret (Fin.c2 2 27 3 4 2 5 [] [1, 0] ?_)
   have e0 : e41 = 0 := by assumption
   have en := hn41.2 e0
   subst en e0
   exact zq64_
  refine GAs.cons (i := 14) rfl rfl (t_alloc rfl ze_27) (by rintro a w ⟨_, h⟩; exact h.me [2] [0]) (GA.ex fun b_t6 => ?_) GAs.nil
  refine GA.al [8] ?_
  refine GAs.cons (i := 8) rfl rfl (t_call rfl Tryz.call151 rfl (is := [1]) (js := [0]) rfl rfl (by exact bnum_ct _ _ _ b _ t16 k16 4 (by omega) (by omega) (by omega) (by omega) (by omega))) (by rintro a w ⟨_, _, _, ⟨v21, t21, k21, hs21, rfl, rfl, rfl⟩, h⟩; exact h.me [2] [0]) (GA.ret ?_) GAs.nil
  rintro _ _ _ ⟨v21, t21, k21, hs21, rfl, rfl, rfl⟩
  obtain ⟨ht21, hv21⟩ := numS_rng hs21 (by omega)
  refine GA.al [12] ?_
  refine GAs.cons (i := 12) rfl rfl (t_call rfl Tryz.call151 rfl (is := [0]) (js := [0]) rfl rfl (by exact bnum_ct _ _ _ b _ t21 k21 4 (by omega) (by omega) (by omega) (by omega) (by omega))) (by rintro a w ⟨_, _, _, ⟨v25, t25, k25, hs25, rfl, rfl, rfl⟩, h⟩; exact h.me [2] [0]) (GA.ret ?_) GAs.nil
  rintro _ _ _ ⟨v25, t25, k25, hs25, rfl, rfl, rfl⟩
  obtain ⟨ht25, hv25⟩ := numS_rng hs25 (by omega)
  refine GA.tp 13 rfl [2] [0] (i_pure (p_build ze_27 of_27 rfl rfl)) ?_;refine GA.al [15] ?_
  refine GAs.cons (i := 15) rfl rfl (t_storeN (i := 1) rfl rfl rfl sz_27 rfl rfl rfl) (by rintro a w h; exact h.me [2] [0]) ?_ GAs.nil
  refine GA.done (by kernel_rfl) (?_ : GC _ _ _ _)
  refine GC.rr 3 ?_;refine GL.cl Tryz.call152 [0] [0] rfl rfl rfl (by exact btext_ct _ _ _ _ _ _ _ (by omega) (by omega) (by omega) (by omega)) ?_
  rintro _ _ _ ⟨x30, t30, k30, A30, c30, hs30, l30, m30, rfl, rfl, rfl⟩
  obtain ⟨ht30, hx30⟩ := txS_rng hs30 (by omega)
  refine GL.rn 1 ?_;refine GL.so_ 1 ?_;refine GL.nr 3 ?_;refine GL.cl Tryz.call152 [0] [1] rfl rfl rfl (by exact btext_ct _ _ _ _ _ _ _ (by omega) (by omega) (by omega) (by omega)) ?_
  rintro _ _ _ ⟨x35, t35, k35, A35, c35, hs35, l35, m35, rfl, rfl, rfl⟩
  obtain ⟨ht35, hx35⟩ := txS_rng hs35 (by omega)
  refine GL.rn 1 ?_;refine GL.so_ 1 ?_;refine GL.nr 1 ?_;refine GL.ln_ 1 5 ?_;refine GL.cl Tryz.call60 [] [] rfl rfl rfl (by exact form_ct (v16 : Int) (v21 : Int) (v25 : Int) _ x30.length _ _ x35.length _) ?_
  rintro _ _ _ ⟨rfl, rfl, rfl⟩
  refine GL.cl Tryz.call153 [0] [] rfl rfl rfl (by exact bend_ct _ _ _ _ _ _ _ _) ?_
  rintro _ _ _ ⟨n41, e41, hn41, rfl, rfl, rfl⟩
  refine GL.rz 5 ?_;refine GC.seq' ?_;refine GC.sr_ ?_
  have hd := decOpS_eq hs16 hs21 hs25 hs30 hs35
  refine GL.rz 2 ?_;refine GC.co ?_ ?_
  ·intro h1; try simp only [tst_] at h1
   refine GC.sr_ ?_;refine GL.pure rfl (p_build ze_27 of_27 rfl rfl) ?_;refine GL.rn 1 ?_;refine GL.sn_ 2 ?_;refine GL.rz 2 ?_;refine GC.know (q := Pers.row Kd.u8 none []) (fun _ _ _ => .inl rfl) ?_;refine GC.ret (Fin.c2 2 27 3 4 2 5 [] [0, 0] ?_)
   exact zq63_
  intro h1; try simp only [tst_] at h1
  refine GC.skip (?_ : GC _ _ _ _)
  refine GC.sr_ ?_;refine GL.ln_ 1 5 ?_;refine GL.rn 1 ?_;refine GL.sn_ 2 ?_;refine GL.rz 2 ?_;refine GC.ret (Fin.c2 2 27 3 4 2 5 [] [1, 0] ?_)
  have e0 : e41 = 0 := by assumption
  have en := hn41.2 e0
  subst en e0
  exact zq64_
 refine GAs.cons (i := 14) rfl rfl (t_alloc rfl ze_27) (by rintro a w ⟨_, h⟩; exact h.me [2] [0]) (GA.ex fun b_t6 => ?_) GAs.nil
 refine GA.al [3] ?_
 refine GAs.cons (i := 3) rfl rfl (t_call rfl Tryz.call151 rfl (is := [1]) (js := [0]) rfl rfl (by exact bnum_ct _ _ _ b _ 0 0 1 (by omega) (by omega) (by omega) (by omega) (by omega))) (by rintro a w ⟨_, _, _, ⟨v16, t16, k16, hs16, rfl, rfl, rfl⟩, h⟩; exact h.me [2] [0]) (GA.ret ?_) GAs.nil
 rintro _ _ _ ⟨v16, t16, k16, hs16, rfl, rfl, rfl⟩
 obtain ⟨ht16, hv16⟩ := numS_rng hs16 (by omega)
 refine GA.tp 4 rfl [2] [0] (i_pure (p_convR (t := 3) (r := ((v16 : Nat) : Int)) (by rw [Tryz.underlying3]; simp) Tryz.underlying24 rfl (by simp [IntKind.wrap, IntKind.bits, IntKind.signed]; omega))) ?_;refine GA.al [8] ?_
 refine GAs.cons (i := 8) rfl rfl (t_call rfl Tryz.call151 rfl (is := [0]) (js := [0]) rfl rfl (by exact bnum_ct _ _ _ b _ t16 k16 4 (by omega) (by omega) (by omega) (by omega) (by omega))) (by rintro a w ⟨_, _, _, ⟨v21, t21, k21, hs21, rfl, rfl, rfl⟩, h⟩; exact h.me [2] [0]) (GA.ret ?_) GAs.nil
 rintro _ _ _ ⟨v21, t21, k21, hs21, rfl, rfl, rfl⟩
 obtain ⟨ht21, hv21⟩ := numS_rng hs21 (by omega)
 refine GA.al [12] ?_
 refine GAs.cons (i := 12) rfl rfl (t_call rfl Tryz.call151 rfl (is := [0]) (js := [0]) rfl rfl (by exact bnum_ct _ _ _ b _ t21 k21 4 (by omega) (by omega) (by omega) (by omega) (by omega))) (by rintro a w ⟨_, _, _, ⟨v25, t25, k25, hs25, rfl, rfl, rfl⟩, h⟩; exact h.me [2] [0]) (GA.ret ?_) GAs.nil
 rintro _ _ _ ⟨v25, t25, k25, hs25, rfl, rfl, rfl⟩
 obtain ⟨ht25, hv25⟩ := numS_rng hs25 (by omega)
 refine GA.tp 13 rfl [2] [0] (i_pure (p_build ze_27 of_27 rfl rfl)) ?_;refine GA.al [15] ?_
 refine GAs.cons (i := 15) rfl rfl (t_storeN (i := 1) rfl rfl rfl sz_27 rfl rfl rfl) (by rintro a w h; exact h.me [2] [0]) ?_ GAs.nil
 refine GA.done (by kernel_rfl) (?_ : GC _ _ _ _)
 refine GC.rr 3 ?_;refine GL.cl Tryz.call152 [0] [0] rfl rfl rfl (by exact btext_ct _ _ _ _ _ _ _ (by omega) (by omega) (by omega) (by omega)) ?_
 rintro _ _ _ ⟨x30, t30, k30, A30, c30, hs30, l30, m30, rfl, rfl, rfl⟩
 obtain ⟨ht30, hx30⟩ := txS_rng hs30 (by omega)
 refine GL.rn 1 ?_;refine GL.so_ 1 ?_;refine GL.nr 3 ?_;refine GL.cl Tryz.call152 [0] [1] rfl rfl rfl (by exact btext_ct _ _ _ _ _ _ _ (by omega) (by omega) (by omega) (by omega)) ?_
 rintro _ _ _ ⟨x35, t35, k35, A35, c35, hs35, l35, m35, rfl, rfl, rfl⟩
 obtain ⟨ht35, hx35⟩ := txS_rng hs35 (by omega)
 refine GL.rn 1 ?_;refine GL.so_ 1 ?_;refine GL.nr 1 ?_;refine GL.ln_ 1 5 ?_;refine GL.cl Tryz.call60 [] [] rfl rfl rfl (by exact form_ct (v16 : Int) (v21 : Int) (v25 : Int) _ x30.length _ _ x35.length _) ?_
 rintro _ _ _ ⟨rfl, rfl, rfl⟩
 refine GL.cl Tryz.call153 [0] [] rfl rfl rfl (by exact bend_ct _ _ _ _ _ _ _ _) ?_
 rintro _ _ _ ⟨n41, e41, hn41, rfl, rfl, rfl⟩
 refine GL.rz 5 ?_;refine GC.seq' ?_;refine GC.sr_ ?_
 have hd := decOpS_eq hs16 hs21 hs25 hs30 hs35
 refine GL.rz 2 ?_;refine GC.co ?_ ?_
 ·intro h1; try simp only [tst_] at h1
  refine GC.sr_ ?_;refine GL.pure rfl (p_build ze_27 of_27 rfl rfl) ?_;refine GL.rn 1 ?_;refine GL.sn_ 2 ?_;refine GL.rz 2 ?_;refine GC.know (q := Pers.row Kd.u8 none []) (fun _ _ _ => .inl rfl) ?_;refine GC.ret (Fin.c2 2 27 3 4 2 5 [] [0, 0] ?_)
  exact zq63_
 intro h1; try simp only [tst_] at h1
 refine GC.skip (?_ : GC _ _ _ _)
 refine GC.sr_ ?_;refine GL.ln_ 1 5 ?_;refine GL.rn 1 ?_;refine GL.sn_ 2 ?_;refine GL.rz 2 ?_;refine GC.ret (Fin.c2 2 27 3 4 2 5 [] [1, 0] ?_)
 have e0 : e41 = 0 := by assumption
 have en := hn41.2 e0
 subst en e0
 exact zq64_
def decResS (b : List UInt8) : Res × Nat × Int :=
  let x1 := numS b 0 0 1
  let x2 := txS b x1.2.1 x1.2.2
  (⟨(x1.1 : Int), x2.1⟩, x2.2)
theorem decResS_eq {b : List UInt8} {v1 t1 t2 : Nat} {k1 k2 : Int} {x2 : List UInt8} (e1 : numS b 0 0 1 = (v1, t1, k1)) (e2 : txS b t1 k1 = (x2, t2, k2)) : decResS b = (⟨(v1 : Int), x2⟩, t2, k2) := by
  simp only [decResS, e1, e2]
def decRes (b : List UInt8) : Option (Res × Nat) := if (decResS b).2.2 = 0 ∧ resOk (decResS b).1.code (decResS b).1.data.length = true then some ((decResS b).1, (decResS b).2.1) else none
theorem decres_ct (A : Option Addr) (b : List UInt8) (cp : Nat) (hb : b.length ≤ cp) (hcp' : cp ≤ 9223372036854775807) (hb' : b.length ≤ 10000000000000) : Ct Tryz.prog 130 [.slice A b.length cp] [] [Pers.row Kd.u8 A b]
    (fun u G Q => ∃ (o : Res) (n : Nat) (e : Int) (A1 : Option Addr) (c1 : Nat), (e = 0 → decRes b = some (o, n)) ∧ (n ≤ b.length ∧ (e ≠ 0 → decRes b = none)) ∧ o.data.length ≤ c1 ∧ c1 ≤ 9223372036854775807 ∧ u = .tuple #[.agg #[.int .u8 o.code, .slice A1 o.data.length c1], .int .i64 (n : Int), .int .i64 e] ∧ G = [] ∧ Q = [Pers.row Kd.u8 A1 o.data]) := by
 have hp1 : (256 : Nat) ^ 1 = 256 := p256_1
 refine Ct.intro Tryz.func130 rfl rfl rfl (fun c hc => ?_)
 refine GC.sr_ ?_;refine GL.step rfl (t_alloc rfl ze_30) (GL.ex fun b_t2 => ?_);refine GL.rz 2 ?_;refine GC.rr 1 ?_;refine GL.pure rfl (p_build ze_191 of_191 rfl rfl) ?_;refine GL.pure rfl (p_build ze_193 of_193 rfl rfl) ?_
 refine GL.step rfl (t_box rfl rfl rfl) (GL.ex fun b_t12 => ?_);refine GL.rz 1 ?_;refine GC.rr 3 ?_;refine GL.cl Tryz.call151 [0] [0] rfl rfl rfl (by exact bnum_ct _ _ _ b _ 0 0 1 (by omega) (by omega) (by omega) (by omega) (by omega)) ?_
 rintro _ _ _ ⟨v16, t16, k16, hs16, rfl, rfl, rfl⟩
 obtain ⟨ht16, hv16⟩ := numS_rng hs16 (by omega)
 refine GL.pure rfl (p_convR (t := 3) (r := ((v16 : Nat) : Int)) (by rw [Tryz.underlying3]; simp) Tryz.underlying28 rfl (by simp [IntKind.wrap, IntKind.bits, IntKind.signed]; omega)) ?_;refine GL.pure rfl (p_build ze_30 of_30 rfl rfl) ?_
 refine GL.step rfl (t_alloc rfl ze_30) (GL.ex fun b_t6 => ?_);refine GL.sn_ 0 ?_;refine GL.nr 3 ?_;refine GL.cl Tryz.call152 [1] [0] rfl rfl rfl (by exact btext_ct _ _ _ _ _ _ _ (by omega) (by omega) (by omega) (by omega)) ?_
 rintro _ _ _ ⟨x22, t22, k22, A22, c22, hs22, l22, m22, rfl, rfl, rfl⟩
 obtain ⟨ht22, hx22⟩ := txS_rng hs22 (by omega)
 refine GL.rn 1 ?_;refine GL.so_ 1 ?_;refine GL.nr 1 ?_;refine GL.ln_ 1 2 ?_;refine GL.cl Tryz.call61 [] [] rfl rfl rfl (by exact bres_ct (v16 : Int) _ x22.length _) ?_
 rintro _ _ _ ⟨rfl, rfl, rfl⟩
 refine GL.cl Tryz.call153 [0] [] rfl rfl rfl (by exact bend_ct _ _ _ _ _ _ _ _) ?_
 rintro _ _ _ ⟨n28, e28, hn28, rfl, rfl, rfl⟩
 refine GL.rz 5 ?_;refine GC.seq' ?_;refine GC.sr_ ?_
 have hd := decResS_eq hs16 hs22
 refine GL.rz 2 ?_;refine GC.co ?_ ?_
 ·intro h1; try simp only [tst_] at h1
  refine GC.sr_ ?_;refine GL.pure rfl (p_build ze_30 of_30 rfl rfl) ?_;refine GL.rn 1 ?_;refine GL.sn_ 2 ?_;refine GL.rz 2 ?_;refine GC.know (q := Pers.row Kd.u8 none []) (fun _ _ _ => .inl rfl) ?_;refine GC.ret (Fin.c2 2 30 3 4 2 2 [] [0] ?_)
  exact ⟨⟨0, []⟩, 0, _, none, 0, fun h => by omega, ⟨by omega, fun _ => by rw [decRes, hd, if_neg]; intro hh; exact absurd (hn28.1.2 ⟨hh.1, by rw [if_pos hh.2]⟩) (by assumption)⟩, by simp, by simp, rfl, rfl, rfl⟩
 intro h1; try simp only [tst_] at h1
 refine GC.skip (?_ : GC _ _ _ _)
 refine GC.sr_ ?_;refine GL.ln_ 1 2 ?_;refine GL.rn 1 ?_;refine GL.sn_ 2 ?_;refine GL.rz 2 ?_;refine GC.ret (Fin.c2 2 30 3 4 2 2 [] [0] ?_)
 have e0 : e28 = 0 := by assumption
 have en := hn28.2 e0
 subst en e0
 exact ⟨⟨(v16 : Int), x22⟩, t22, 0, _, _, fun _ => by rw [decRes, hd, if_pos ⟨(hn28.1.1 rfl).1, Eq.mp (resE_iff _) (hn28.1.1 rfl).2⟩], ⟨ht22, fun h => absurd rfl h⟩, l22, m22, rfl, rfl, rfl⟩
end Go.Proofs.YtdhdmbmknpjhbaaGreat
namespace Go.Sx
open Go
section
variable {P : Program} {c : Cx} {n : Nat} {env env' : List (Nat × Value)} {G G' Gr : List Own} {Q Q' : List Pers} {d : Nat} {ty : TypeId} {pos : String} {aft : Array Edge} {g : Option (Nat × Bool)} {x y : Operand} {t : TypeId} {a a' : Act} {w w' : World}
def onlyP (c : Cx) (E : Value → Prop) (M : Asr) : Exit → Asr
  | .normal => M
  | .panic ch => fun a w => a.defers = c.D ∧ PanOf E c.L0 c.w0 w (.panicked ch)
  | _ => fun _ _ => False
def GX (P : Program) (ops : Array Oper) (c : Cx) (E : Value → Prop) (M : Asr) (I : World → Prop) (fuel : Nat) (listed : Array Bool) (A : Asr) : Prop := ∀ a w, A a w → wpAnyH P .any ops (onlyP c E M) I fuel listed a w
theorem GC.regionX {R : Exit → Asr} {E : Value → Prop} {id m : Nat} {l : List Oper} {is js : List Nat} {GI : List Own} {QI : List Pers} (hm : P.follows .mixedOrders = true) (hsz : l.length = m) (hsel : sel G is = some (GI, Gr)) (hq : pickQ Q js = some QI)
    (hR : ∀ ch a w, a.defers = c.D → PanOf E c.L0 c.w0 w (.panicked ch) → R (.panic ch) a w) (h : GX P l.toArray c E (R .normal) (Mem c GI QI) m (Array.replicate m false) (St c n env G Q)) : GC P R (.region id l.toArray true) (St c n env G Q) := fun a w ha => by
  refine Code.wp_mono (fun e a w he => ?_) (wp_region_held (Q := onlyP c E (R .normal)) (S := Mem c GI QI) hm ?_)
  · cases e <;> first | exact hR _ _ _ he.1 he.2 | exact he | exact he.elim
  · subst hsz
    have := h a _ (St.drew ha)
    simpa using this
theorem GC.regionXM {R : Exit → Asr} {E : Value → Prop} {M : Asr} {id m : Nat} {l : List Oper} {is js : List Nat} {GI : List Own} {QI : List Pers} (hm : P.follows .mixedOrders = true) (hsz : l.length = m) (hsel : sel G is = some (GI, Gr)) (hq : pickQ Q js = some QI)
    (hR : ∀ ch a w, a.defers = c.D → PanOf E c.L0 c.w0 w (.panicked ch) → R (.panic ch) a w) (h : GX P l.toArray c E M (Mem c GI QI) m (Array.replicate m false) (St c n env G Q)) (k : ∀ a w, M a w → R .normal a w) : GC P R (.region id l.toArray true) (St c n env G Q) := fun a w ha => by
  refine Code.wp_mono (fun e a w he => ?_) (wp_region_held (Q := onlyP c E M) (S := Mem c GI QI) hm ?_)
  · cases e <;> first | exact hR _ _ _ he.1 he.2 | exact k _ _ he | exact he.elim
  · subst hsz
    have := h a _ (St.drew ha)
    simpa using this
end
end Go.Sx
namespace Go.Sx
open Go
section
variable {P : Program} {c : Cx} {n : Nat} {env env' : List (Nat × Value)} {G G' Gr : List Own} {Q Q' : List Pers} {d : Nat} {ty : TypeId} {pos : String} {aft : Array Edge} {g : Option (Nat × Bool)} {x y : Operand} {t : TypeId} {a a' : Act} {w w' : World}
variable {ops : Array Oper} {E : Value → Prop} {M A B : Asr} {I : World → Prop} {fuel : Nat} {listed : Array Bool}
theorem GX.done (hr : Region.ready .any ops listed = []) (h : ∀ a w, A a w → M a w) : GX P ops c E M I fuel listed A := fun a w ha => wpAnyH_done hr (h a w ha) fuel
theorem GX.ex {α : Type} {F : α → Asr} (k : ∀ x, GX P ops c E M I fuel listed (F x)) : GX P ops c E M I fuel listed (fun a w => ∃ x, F x a w) := fun a w ⟨x, hx⟩ => k x a w hx
theorem GX.imp (h : ∀ a w, A a w → B a w) (k : GX P ops c E M I fuel listed B) : GX P ops c E M I fuel listed A := fun a w ha => k a w (h a w ha)
theorem GX.ret {F : Value → List Own → List Pers → Prop} {Z : Value → List Own → List Pers → Asr} (k : ∀ v G2 Q2, F v G2 Q2 → GX P ops c E M I fuel listed (Z v G2 Q2)) : GX P ops c E M I fuel listed (fun a w => ∃ v G2 Q2, F v G2 Q2 ∧ Z v G2 Q2 a w) := fun a w ⟨v, G2, Q2, hF, hZ⟩ => k v G2 Q2 hF a w hZ
theorem GX.split {i : Nat} {b : Bool} (hi : look env i = some (.bool b)) (ht : b = true → GX P ops c E M I fuel listed (St c n ((i, .bool true) :: env) G Q)) (hf : b = false → GX P ops c E M I fuel listed (St c n ((i, .bool false) :: env) G Q)) : GX P ops c E M I fuel listed (St c n env G Q) := by
  rintro a w ⟨S, he, hh, hrel⟩
  cases b
  · exact hf rfl a w ⟨S, he.over hi, hh, hrel⟩
  · exact ht rfl a w ⟨S, he.over hi, hh, hrel⟩
theorem GX.take {op : Op} {v : Value} (i : Nat) (hi : ops[i]? = some ⟨some d, op, ty, pos, aft, none⟩) (hs : Region.noSelect ops = true) (hf : Region.free .any ops listed i = true) (hr : (Region.ready .any ops listed).contains i = true) (hd : Nat.blt d n = true) (hI : ∀ a w, St c n env G Q a w → I w)
    (h : Pi P n I env ⟨some d, op, ty, pos, aft, none⟩ v) (k : GX P ops c E M I fuel (listed.setIfInBounds i true) (St c n ((d, v) :: env) G Q)) : GX P ops c E M I (fuel + 1) listed (St c n env G Q) := fun a w ha =>
  wpAnyH_take hi hs hf hr (fun _ _ _ h => h) (.inl ⟨by simp [Region.wanted], fun w' hw' => h a w' ha.en.toEnv hw'⟩) (hI a w ha) (k _ w (ha.keep (Fr.refl _ _) (ha.en.put hd v)))
def GXs (P : Program) (ops : Array Oper) (c : Cx) (E : Value → Prop) (M : Asr) (I : World → Prop) (fuel : Nat) (listed : Array Bool) (A : Asr) (rs : List Nat) : Prop :=
  ∀ i ∈ rs, ∀ a w, A a w → wpOp P ops (onlyP c E M) i (fun a' w' => I w' ∧ wpAnyH P .any ops (onlyP c E M) I fuel (listed.setIfInBounds i true) a' w') a w
theorem GX.all {rs : List Nat} (hr : Region.ready .any ops listed = rs) (hne : rs ≠ []) (h : GXs P ops c E M I fuel listed A rs) : GX P ops c E M I (fuel + 1) listed A := fun a w ha => wpAnyH_all hr hne fun i hi => h i hi a w ha
theorem GXs.nil : GXs P ops c E M I fuel listed A [] := fun i hi => by cases hi
theorem GXs.cons {o : Oper} {i : Nat} {rs : List Nat} (hi : ops[i]? = some o) (hg : o.guard = none) (h : Tr P o A B) (hI : ∀ a w, B a w → I w) (k : GX P ops c E M I fuel (listed.setIfInBounds i true) B) (r : GXs P ops c E M I fuel listed A rs) : GXs P ops c E M I fuel listed A (i :: rs) := by
  intro j hj a w ha
  rcases List.mem_cons.1 hj with rfl | hj
  · unfold wpOp
    rw [hi]
    simp only [Region.wanted, hg, if_true]
    exact .inl (h a w ha _ _ fun a' w' hb => ⟨hI _ _ hb, k a' w' hb⟩)
  · exact r j hj a w ha
theorem GXs.consP {i : Nat} {rs : List Nat} {f : FuncId} {xs : List Operand} {vs : List Value} {ts : Array TypeId} {is js : List Nat} {G1 : List Own} {Q1 : List Pers} {R : Value → List Own → List Pers → Prop} (hi : ops[i]? = some ⟨some d, .call { callee := .value (.func f), args := xs.toArray, argTypes := ts }, ty, pos, aft, none⟩) (hd : Nat.blt d n = true) (hf : Ent P f) (hx : evs env xs = some vs)
    (hsel : sel G is = some (G1, Gr)) (hq : pickQ Q js = some Q1) (h : CtP P f vs G1 Q1 R E) (hI : ∀ a w, (∃ v G2 Q2, R v G2 Q2 ∧ St c n ((d, v) :: env) (G2 ++ Gr) (Q2 ++ Q) a w) → I w)
    (k : GX P ops c E M I fuel (listed.setIfInBounds i true) (fun a w => ∃ v G2 Q2, R v G2 Q2 ∧ St c n ((d, v) :: env) (G2 ++ Gr) (Q2 ++ Q) a w)) (r : GXs P ops c E M I fuel listed (St c n env G Q) rs) : GXs P ops c E M I fuel listed (St c n env G Q) (i :: rs) := by
  intro j hj a w ha
  rcases List.mem_cons.1 hj with rfl | hj
  · unfold wpOp
    rw [hi]
    simp only [Region.wanted, if_true]
    left
    obtain ⟨S, he, hh, hrel⟩ := ha
    have hp' := sel_perm hsel
    have hh1 := hh.perm hp'
    have hrel1 := hrel.perm hp'
    have hin : Heap S G1 Q1 w := hh1.sub (List.sublist_append_left _ _) (pickQ_mem hq)
    unfold Oper.wp
    rw [run_call hf hx a w he.toEnv, Oper.upon_enter]
    refine (h w S hin).mono ?_
    rintro e w' (⟨v, G2, Q2, S', rfl, hR, h', hfr, hS, hkk⟩ | ⟨v, rfl, hE, hfr⟩)
    · have hs := St.called hh1 hrel1 h' hfr hS hkk (he.put hd v)
      exact ⟨hI _ _ ⟨v, G2, Q2, hR, hs⟩, k _ _ ⟨v, G2, Q2, hR, hs⟩⟩
    · obtain ⟨S2, he2, hh2, hrel2⟩ := St.lost he hh1 hrel1 hfr
      exact ⟨he2.defers, v, rfl, hE, hrel2.fr⟩
  · exact r j hj a w ha
theorem GL.panicN {X : Exit → Asr} {rest : List Oper} {k : TypeId} {u : Value} (hx : ev env x = some (.iface k u)) (hp : ∀ a w, St c n env G Q a w → X (.panic [{ v := .iface k u, recovered := false }]) a w) :
    GL P ops X (⟨none, .panic x, ty, pos, aft, none⟩ :: rest) (St c n env G Q) := by
  intro a w h
  refine wpList_plain rfl fun K hK => ?_
  unfold Oper.wp
  have : (execOp a.eval ⟨none, .panic x, ty, pos, aft, none⟩).run P w = .halt (.panic (.iface k u)) w := by
    simp only [execOp, h.en.eval hx]; rfl
  rw [this]
  exact hp a w h
theorem GX.st (h : ∀ a w, St c n env G Q a w → St c n env' G' Q' a w) (k : GX P ops c E M I fuel listed (St c n env' G' Q')) : GX P ops c E M I fuel listed (St c n env G Q) := GX.imp h k
theorem GX.shape {i e sz m : Nat} {v : Value} {cs : List Value} (hi : nthO G i = some (.row v e sz m cs)) (k : ∀ A cp, v = .slice A m cp → m ≤ cp → cp ≤ 9223372036854775807 → GX P ops c E M I fuel listed (St c n env G Q)) : GX P ops c E M I fuel listed (St c n env G Q) := fun a w h => by
  obtain ⟨A, cp, h1, h2, h3⟩ := h.shape hi
  exact k A cp h1 h2 h3 a w h
theorem GX.know {q : Pers} (hq : ∀ w S, (∀ p ∈ Q, p.h w S) → q.h w S) (k : GX P ops c E M I fuel listed (St c n env G (q :: Q))) : GX P ops c E M I fuel listed (St c n env G Q) := GX.imp (fun a w h => h.know hq) k
theorem GX.torow {i b e m sz : Nat} {l : List Value} (hi : nthO G i = some (.cells b l e)) (hl : l.length = m * sz) (hm : m ≤ 9223372036854775807) (hr : repl G i (.row (.slice (some ⟨b, 0, none⟩) m m) e sz m l) = some G') (k : GX P ops c E M I fuel listed (St c n env G' Q)) : GX P ops c E M I fuel listed (St c n env G Q) :=
  GX.imp (fun a w h => h.recast hi hr rfl (cells_row hl hm)) k
theorem GX.nilrow (e : TypeId) (sz : Nat) (k : GX P ops c E M I fuel listed (St c n env (.row (.slice none 0 0) e sz 0 [] :: G) Q)) : GX P ops c E M I fuel listed (St c n env G Q) := GX.imp (fun a w h => h.nilrow e sz) k
theorem GX.freezeB {i e m cp : Nat} {A : Option Addr} {xs : List UInt8} (ht : takeO G i = some (.row (.slice A m cp) e 1 m (xs.map fun b => Value.int .u8 (b.toNat : Int)), G')) (k : GX P ops c E M I fuel listed (St c n env G' (Pers.row Kd.u8 A xs :: Q))) : GX P ops c E M I fuel listed (St c n env G Q) := GX.imp (fun a w h => h.freezeB ht) k
theorem GX.and {p : Prop} (k : p → GX P ops c E M I fuel listed A) : GX P ops c E M I fuel listed (fun a w => p ∧ A a w) := fun a w ⟨hp, ha⟩ => k hp a w ha
theorem GX.rowIs {i m m' e sz : Nat} {v : Value} {cs cs' : List Value} (hi : nthO G i = some (.row v e sz m cs)) (hm : m = m') (hc : cs = cs') (hr : repl G i (.row v e sz m' cs') = some G') (k : GX P ops c E M I fuel listed (St c n env G' Q)) : GX P ops c E M I fuel listed (St c n env G Q) := GX.st (fun a w h => h.rowIs hi hm hc hr) k
theorem GX.snoc {α : Type} {kd : Kd α} {xs : List α} {cs : List Value} {j : Nat} {js : List Nat} (z : α) (r : kd.Y) (hj : nthO Q j = some (Pers.reps kd xs cs)) (hq : pickQ Q js = some (kd.pers z r)) (hok : kd.ok z r)
    (k : GX P ops c E M I fuel listed (St c n env G (Pers.reps kd (xs ++ [z]) (cs ++ kd.cells z r) :: Q))) : GX P ops c E M I fuel listed (St c n env G Q) := GX.imp (fun a w h => h.snoc hj hq hok) k
theorem GX.freezeR {α : Type} {kd : Kd α} {i j e m cp : Nat} {A : Option Addr} {xs : List α} {cs : List Value} (ht : takeO G i = some (.row (.slice A m cp) e kd.sz m cs, G')) (hj : nthO Q j = some (Pers.reps kd xs cs)) (hp : 0 < kd.sz)
    (k : GX P ops c E M I fuel listed (St c n env G' (Pers.row kd A xs :: Q))) : GX P ops c E M I fuel listed (St c n env G Q) := GX.imp (fun a w h => h.freezeR ht hj hp) k
def CtR (P : Program) (f : FuncId) (us : List Value) (G : List Own) (Q : List Pers) (v : Value) (R : Value → List Own → List Pers → Prop) : Prop :=
  ∀ w S, Heap S G Q w → CallsD P f us.toArray (.panicking [{ v := v, recovered := false }]) w fun e u' w' => retOf ⟨w, S, keysOf G, []⟩ R e w' ∧ u' = .panicking [{ v := v, recovered := true }]
theorem CtR.intro {f : FuncId} {fn : Func} {us : List Value} {v : Value} {rest : Code} {id d1 d2 : Nat} {ty1 ty2 : TypeId} {pos1 pos2 : String} {aft1 aft2 : Array Edge} {ts : Array TypeId} {R : Value → List Own → List Pers → Prop} (hf : P.funcs[f]? = some fn)
    (hb : fn.body = some (.seq (.region id #[⟨some d1, .call { callee := .builtin .recover, args := #[], argTypes := ts }, ty1, pos1, aft1, none⟩, ⟨some d2, .assign (.tmp d1), ty2, pos2, aft2, none⟩] false) rest)) (hn : fn.ntmps = n) (hl : Nat.ble us.length n = true) (h1 : Nat.blt d1 n = true) (h2 : Nat.blt d2 n = true)
    (h : ∀ c : Cx, c.L0 = keysOf G → GC P (Fin P fn c R) rest (St c n ((d2, v) :: (d1, v) :: enum 0 us) G Q)) : CtR P f us G Q v R := by
  intro w S hh
  have hl := Nat.le_of_ble_eq_true hl
  let c : Cx := ⟨w, S, keysOf G, []⟩
  have h0 : EnvD c.D n (enum 0 us) { tmps := us.toArray ++ Array.replicate (fn.ntmps - us.toArray.size) undef, defers := [] } := by
    refine ⟨⟨by simp [hn]; omega, fun i v hi => ?_⟩, rfl⟩
    obtain ⟨k, rfl, hk⟩ := look_enum us 0 i v hi
    rw [Nat.zero_add]
    have hlt : k < us.length := (List.getElem?_eq_some_iff.1 hk).1
    simp only [List.size_toArray]
    rw [Array.getElem?_append_left (by simpa using hlt)]
    simpa using hk
  have he1 := h0.put h1 v
  have he2 := he1.put h2 v
  refine callsD_of_wpS hf hb fun c₀ cs hu => ?_
  apply wpS_seq
  apply wpS_region
  have hev : (Act.put { tmps := us.toArray ++ Array.replicate (fn.ntmps - us.toArray.size) undef, defers := [] } (some d1) v).eval (.tmp d1) = v := he1.toEnv.eval (x := .tmp d1) (v := v) (by simp [ev, look])
  have key : rest.wpS P (bodyPostS P fn c₀ cs fun e u' w' => retOf ⟨w, S, keysOf G, []⟩ R e w' ∧ u' = .panicking [{ v := v, recovered := true }]) (Act.put (Act.put { tmps := us.toArray ++ Array.replicate (fn.ntmps - us.toArray.size) undef, defers := [] } (some d1) v) (some d2) v) ({ c₀ with mode := .panicking [{ v := v, recovered := true }] } :: cs) w := by
    refine wpS_of_wp (Code.wp_mono (fun e a w' he => ?_) (h c rfl _ w ⟨S, he2, hh, ⟨Fr.refl _ _, fun _ _ _ => Iff.rfl, fun k hk => .inl hk⟩⟩))
    have hb' := he rfl
    cases e with
    | normal => obtain ⟨hd, u, hr, hR⟩ := hb'; exact ⟨hd, _, rfl, u, hr, hR, rfl⟩
    | ret => obtain ⟨hd, u, hr, hR⟩ := hb'; exact ⟨hd, _, rfl, u, hr, hR, rfl⟩
    | panic ch => obtain ⟨hd, hR⟩ := hb'; exact ⟨hd, _, rfl, hR, rfl⟩
    | exit id => exact hb'.elim
    | goto l => exact hb'.elim
    | outgrown => exact ⟨_, hb', rfl⟩
  have hlt : d1 < us.length + (fn.ntmps - us.length) := by
    have h1' : d1 < n := by simpa using h1
    omega
  simp [wpOpsS, go_sem, recoverD, hu, Exit.thenS, hlt]
  simpa [Act.put] using key
theorem FinD.catch {f : FuncId} {us : List Value} (hf : Ent P f) {fn : Func} {v : Value} {isC jsC : List Nat} {G1 Gr1 : List Own} {Q1 : List Pers} {RC R : Value → List Own → List Pers → Prop} (hC : CtR P f us G1 Q1 v RC) (hselC : sel G isC = some (G1, Gr1)) (hqC : pickQ Q jsC = some Q1)
    (hback : ∀ u G2 Q2 a w, RC u G2 Q2 → St ⟨c.w0, c.S0, c.L0, []⟩ n env (G2 ++ Gr1) (Q2 ++ Q) a w → Fin P fn ⟨c.w0, c.S0, c.L0, []⟩ R .ret a w) (h : St (c.def_ f us) n env G Q a w) : FinD P fn c R (.panic [{ v := v, recovered := false }]) a w := by
  obtain ⟨S, he, hh, hrel⟩ := h
  show Leaves P fn a.tmps (retOf c R) a.defers (.panicking [{ v := v, recovered := false }]) w
  have hd : a.defers = [⟨.fn (.func f) us.toArray, #[]⟩] := he.defers
  rw [hd]
  refine ⟨by simp, .func f, us.toArray, f, us.toArray, rfl, ?_, ?_⟩
  · have := hf us.toArray w
    simp only [invoke, Array.empty_append, this]
  · have hp' := sel_perm hselC
    have hh1 := hh.perm hp'
    have hrel1 := hrel.perm hp'
    have hin : Heap S G1 Q1 w := hh1.sub (List.sublist_append_left _ _) (pickQ_mem hqC)
    refine (hC w S hin).mono ?_
    rintro e u' w' ⟨⟨u, G2, Q2, S', rfl, hR, h', hfr, hS, hkk⟩, rfl⟩
    have he0 : EnvD [] n env { a with defers := [] } := ⟨⟨he.size, he.has⟩, rfl⟩
    have hst : St ⟨c.w0, c.S0, c.L0, []⟩ n env (G2 ++ Gr1) (Q2 ++ Q) { a with defers := [] } w' := St.called (c := ⟨c.w0, c.S0, c.L0, []⟩) hh1 ⟨hrel1.fr, hrel1.old, hrel1.key⟩ h' hfr hS hkk he0
    obtain ⟨_, v', hrun, hret⟩ := hback u G2 Q2 _ w' hR hst rfl
    exact ⟨v', hrun, hret⟩
end
end Go.Sx
namespace Go.Proofs.YtdhdmbmknpjhbaaGreat
open Go Go.Sx Go.Proofs
section
variable {P : Program} {c : Cx} {n : Nat} {env env' : List (Nat × Value)} {G G' Gr : List Own} {Q Q' : List Pers} {d : Nat} {ty : TypeId} {pos : String} {aft : Array Edge} {g : Option (Nat × Bool)} {x : Operand} {t : TypeId} {a : Act} {w : World} {ops : Array Oper} {rest : List Oper} {R : Exit → Asr} {v : Value} {E : Value → Prop} {M : Asr} {fuel : Nat} {listed : Array Bool}
theorem FinP.b1 {fn : Func} {F : Value → List Own → List Pers → Prop} {G1 : List Own} {Q1 : List Pers} (i : Nat) (is js : List Nat) (hR : F (tupV [v]) G1 Q1) (hr : fn.results = [ResultVar.tmp i].toArray := by rfl) (hv : Sx.resV P env G [.tmp i] [v] := by exact ⟨rfl, trivial⟩) (hsel : sel G is = some (G1, Gr) := by rfl) (hq : pickQ Q js = some Q1 := by rfl) : ∀ (a : Act) (w : World), St c n env G Q a w → FinP P fn c F E .ret a w := fun a w h => FinP.back hr hv hsel hq hR h
theorem FinP.c0 {b o e : Nat} {l vs : List Value} {fn : Func} {F : Value → List Own → List Pers → Prop} {G1 : List Own} {Q1 : List Pers} (a_ t_ gi k : Nat) (is js : List Nat) (hR : F (tupV [.agg vs.toArray]) G1 Q1) (hr : fn.results = [ResultVar.cell a_ t_].toArray := by rfl) (hi : nthO G gi = some (.cells b l e) := by rfl) (hl : Sx.look env a_ = some (.pointer (some ⟨b, o, none⟩)) := by rfl) (hv : takeAt l o k = some vs := by rfl) (hg : aggB P t_ = some true := by kernel_rfl) (hs : sizeB P t_ = some k := by kernel_rfl) (hsel : sel G is = some (G1, Gr) := by rfl) (hq : pickQ Q js = some Q1 := by rfl) : ∀ (a : Act) (w : World), St c n env G Q a w → FinP P fn c F E .ret a w := fun a w h => FinP.back (rs := [.cell a_ t_]) (vs := [.agg vs.toArray]) hr ⟨ldV_k gi k hi hl hv hg hs, trivial⟩ hsel hq hR h
theorem GX.al (rs : List Nat) {I : World → Prop} {A : Asr} (h : GXs P ops c E M I fuel listed A rs) (hr : Region.ready .any ops listed = rs := by kernel_rfl) (hne : rs ≠ [] := by simp) : GX P ops c E M I (fuel + 1) listed A := GX.all hr hne h
theorem GX.tp {op : Op} {G1 : List Own} {Q1 : List Pers} (i : Nat) (hi : ops[i]? = some ⟨some d, op, ty, pos, aft, none⟩) (is js : List Nat) (h : Pi P n (Mem c G1 Q1) env ⟨some d, op, ty, pos, aft, none⟩ v) (k : GX P ops c E M (Mem c G1 Q1) fuel (listed.setIfInBounds i true) (St c n ((d, v) :: env) G Q))
    (hs : Region.noSelect ops = true := by kernel_rfl) (hf : Region.free .any ops listed i = true := by kernel_rfl) (hr : (Region.ready .any ops listed).contains i = true := by kernel_rfl) (hd : Nat.blt d n = true := by rfl) (hsel : sel G is = some (G1, Gr) := by rfl) (hq : pickQ Q js = some Q1 := by rfl) : GX P ops c E M (Mem c G1 Q1) (fuel + 1) listed (St c n env G Q) :=
  GX.take i hi hs hf hr hd (fun _ _ h => h.mem hsel hq) h k
theorem GX.tk {op : Op} {G1 : List Own} {Q1 : List Pers} (i : Nat) (is js : List Nat) (k : GX P ops c E M (Mem c G1 Q1) fuel (listed.setIfInBounds i true) (St c n ((d, v) :: env) G Q)) (hi : ops[i]? = some ⟨some d, op, ty, pos, aft, none⟩ := by rfl) (h : Pi P n (Mem c G1 Q1) env ⟨some d, op, ty, pos, aft, none⟩ v := by exact i_pure (pvE_ok fo_ok sl_ok rfl))
    (hs : Region.noSelect ops = true := by kernel_rfl) (hf : Region.free .any ops listed i = true := by kernel_rfl) (hr : (Region.ready .any ops listed).contains i = true := by kernel_rfl) (hd : Nat.blt d n = true := by rfl) (hsel : sel G is = some (G1, Gr) := by rfl) (hq : pickQ Q js = some Q1 := by rfl) : GX P ops c E M (Mem c G1 Q1) (fuel + 1) listed (St c n env G Q) :=
  GX.take i hi hs hf hr hd (fun _ _ h => h.mem hsel hq) h k
end
end Go.Proofs.YtdhdmbmknpjhbaaGreat
namespace Go.Proofs.YtdhdmbmknpjhbaaGreat
open Go Go.Sx Go.Proofs
abbrev mF (e : Int) : Value := .iface 200 (.agg #[.int .i64 e])
def mFault (v : Value) : Prop := ∃ e : Int, e ≠ 0 ∧ v = mF e
theorem must_ct (e : Int) : CtP Tryz.prog 159 [.int .i64 e] [] [] (fun u G Q => e = 0 ∧ u = .tuple #[] ∧ G = [] ∧ Q = []) (fun v => e ≠ 0 ∧ v = mF e) := by
 refine CtP.intro Tryz.func159 rfl rfl rfl (fun c hc => ?_)
 refine GC.rg 2 ?_;refine GC.co ?_ ?_
 ·intro h1; try simp only [tst_] at h1
  refine GC.region ?_;refine GL.rn 1 ?_;refine GL.pure rfl (p_build ze_200 of_200 rfl rfl) ?_;refine GL.pure rfl (p_mkIface Tryz.underlying200 (fun m h => by cases h) rfl) ?_;refine GL.panicN rfl (fun a w h => ?_)
  exact FinP.panic ⟨by assumption, rfl⟩ h
 intro h1; try simp only [tst_] at h1
 refine GC.skip ?_
 refine fun a w h => FinP.back0 rfl (is := []) (js := []) rfl rfl ?_ h
 clear h
 exact ⟨by omega, rfl, rfl, rfl⟩
theorem getE_zero {b : List UInt8} {at_ n : Nat} (h : getE b at_ n = 0) : at_ + n ≤ b.length := by
  by_cases hq : at_ + n ≤ b.length
  · exact hq
  · rw [getE, if_neg hq] at h; omega
def mnumF (b : List UInt8) (at_ n : Nat) : Option (Int × Nat) := if at_ + n ≤ b.length then some (if (getV b at_ n : Int) > 4611686018427387904 then -1 else (getV b at_ n : Int), getX b at_ n) else none
theorem mnumF_rng {b : List UInt8} {at_ n : Nat} {v : Int} {t : Nat} (h : mnumF b at_ n = some (v, t)) : t ≤ b.length ∧ t = at_ + n ∧ -1 ≤ v ∧ v ≤ 4611686018427387904 ∧ v < (256 ^ n : Nat) := by
  unfold mnumF at h
  split at h
  · rename_i hq
    obtain ⟨h1, h2⟩ := Prod.mk.inj (Option.some.inj h)
    have hv : valN (seg b at_ (at_ + n)) < 256 ^ n := valN_rng hq (by omega)
    have hp : 0 < 256 ^ n := Nat.pow_pos (by decide)
    split at h1 <;> omega
  · cases h
abbrev mleftG (p e : Nat) (A : Option Addr) (b : List UInt8) (cp at_ : Nat) : List Own := [.cells p [.slice A b.length cp, .int .i64 (at_ : Int)] e]
theorem mlnum_ct (p e_ : Nat) (A : Option Addr) (b : List UInt8) (cp at_ : Nat) (n : Nat) (hn : 1 ≤ n) (hn' : n ≤ 8) (hb : b.length ≤ cp) (hb' : b.length ≤ 10000000000000) (hat : at_ ≤ b.length) : CtP Tryz.prog 158 [.pointer (some ⟨p, 0, none⟩), .int .i64 (n : Int)] (mleftG p e_ A b cp at_) [Pers.row Kd.u8 A b]
    (fun u G Q => ∃ v t, mnumF b at_ n = some (v, t) ∧ u = .int .i64 v ∧ G = mleftG p e_ A b cp t ∧ Q = []) (fun v => mFault v ∧ mnumF b at_ n = none) := by
 refine CtP.intro Tryz.func158 rfl rfl rfl (fun c hc => ?_)
 refine GC.rg 1 ?_;refine GC.seq' ?_;refine GC.regionQ wide_ (by kernel_rfl) ?_;refine GQ.rn 3 ?_;refine GQ.step rfl (q_mem (m_load (i := 0) rfl rfl ag_25 rfl)) ?_;refine GQ.rn 3 ?_;refine GQ.step rfl (q_mem (m_load (i := 0) rfl rfl ag_3 rfl)) ?_
 refine GQ.rn 1 ?_;refine GQ.step rfl (q_call Tryz.call91 rfl (js := [0]) rfl (by exact get_all _ b _ at_ n hn hn' hb (by omega) hat)) ?_;refine GQ.rn 7 ?_
 refine GQ.nil (?_ : GC _ _ _ _)
 refine GC.rr 1 ?_;refine GL.callP rfl Tryz.call159 rfl (is := []) (js := []) rfl rfl (by exact must_ct _) (fun v a w he h => FinP.panic ⟨⟨_, he⟩, by rw [mnumF, if_neg (fun hq => he.1 (if_pos hq))]⟩ h) (GL.ret ?_)
 rintro _ _ _ ⟨he23, rfl, rfl, rfl⟩
 have hq4 := getE_zero he23
 refine GL.nr 4 ?_;refine GL.so_ 0 ?_;refine GL.nl_ ?_;refine GC.seq' ?_;refine GC.rg 2 ?_;refine GC.co ?_ ?_
 ·intro h1; try simp only [tst_] at h1
  refine GC.rg 1 ?_;refine GC.ret (FinP.b1 4 [0] [] ?_)
  exact ⟨-1, _, by rw [mnumF, if_pos hq4, if_pos (by assumption)], rfl, rfl, rfl⟩
 intro h1; try simp only [tst_] at h1
 refine GC.skip (?_ : GC _ _ _ _)
 refine GC.rr 1 ?_;refine GL.pure rfl (p_convR (t := 23) (r := ((getV b at_ n : Nat) : Int)) (by rw [Tryz.underlying23]; simp) Tryz.underlying3 rfl (cvI (by omega) (by omega))) ?_
 refine GL.rz 1 ?_;refine GC.ret (FinP.b1 4 [0] [] ?_)
 exact ⟨_, _, by rw [mnumF, if_pos hq4, if_neg (by omega)], rfl, rfl, rfl⟩
def mtxF (b : List UInt8) (at_ : Nat) : Option (List UInt8 × Nat) := if (txF b at_).2.2 = 0 then some ((txF b at_).1, (txF b at_).2.1) else none
theorem mtxF_rng {b : List UInt8} {at_ : Nat} {x : List UInt8} {t : Nat} (h : mtxF b at_ = some (x, t)) : t ≤ b.length ∧ x.length ≤ 16777216 := by
  unfold mtxF at h
  split at h
  · rename_i h0
    obtain ⟨h1, h2⟩ := Prod.mk.inj (Option.some.inj h)
    exact txF_rng (b := b) (at_ := at_) (e := (txF b at_).2.2) (by rw [← h1, ← h2]) h0
  · cases h
theorem mltext_ct (p e_ : Nat) (A : Option Addr) (b : List UInt8) (cp at_ : Nat) (hb : b.length ≤ cp) (hcp' : cp ≤ 9223372036854775807) (hb' : b.length ≤ 10000000000000) (hat : at_ ≤ b.length) : CtP Tryz.prog 171 [.pointer (some ⟨p, 0, none⟩)] (mleftG p e_ A b cp at_) [Pers.row Kd.u8 A b]
    (fun u G Q => ∃ x t A' c', mtxF b at_ = some (x, t) ∧ x.length ≤ c' ∧ c' ≤ 9223372036854775807 ∧ u = .slice A' x.length c' ∧ G = mleftG p e_ A b cp t ∧ Q = [Pers.row Kd.u8 A' x]) (fun v => mFault v ∧ mtxF b at_ = none) := by
 refine CtP.intro Tryz.func171 rfl rfl rfl (fun c hc => ?_)
 refine GC.rg 1 ?_;refine GC.seq' ?_;refine GC.regionC (m := 16) (is := [0]) (js := [0]) wide_ rfl rfl rfl ?_;refine GA.tk 0 [0] [0] ?_;refine GA.tk 1 [0] [0] ?_;refine GA.tk 2 [0] [0] ?_;refine GA.tp 3 rfl [0] [0] (i_mem (m_load (i := 0) rfl rfl ag_25 rfl)) ?_
 refine GA.tk 4 [0] [0] ?_;refine GA.tk 5 [0] [0] ?_;refine GA.tk 6 [0] [0] ?_;refine GA.tp 7 rfl [0] [0] (i_mem (m_load (i := 0) rfl rfl ag_3 rfl)) ?_;refine GA.al [8] ?_
 refine GAs.cons (i := 8) rfl rfl (t_call rfl Tryz.call169 rfl (is := []) (js := [0]) rfl rfl (by exact gettext_ct _ _ _ _ (by omega) (by omega) (by omega) (by omega))) (by rintro a w ⟨_, _, _, ⟨x15, n15, e15, A15, c15, hs15, l15, k15, rfl, rfl, rfl⟩, h⟩; exact h.me [0] [1]) (GA.ret ?_) GAs.nil
 rintro _ _ _ ⟨x15, n15, e15, A15, c15, hs15, l15, k15, rfl, rfl, rfl⟩
 refine GA.tk 9 [0] [1] ?_;refine GA.tk 10 [0] [1] ?_;refine GA.tk 11 [0] [1] ?_;refine GA.tk 12 [0] [1] ?_;refine GA.tk 13 [0] [1] ?_;refine GA.tk 14 [0] [1] ?_;refine GA.tk 15 [0] [1] ?_
 refine GA.done (by kernel_rfl) (?_ : GC _ _ _ _)
 refine GC.seq' ?_;refine GC.rr 3 ?_;refine GL.sp 21 ?_ ?_
 ·intro h1; try simp only [tst_] at h1
  first
  | (exfalso; first | omega | (simp at h1; done))
  |(skip
    refine GL.rz 3 ?_;refine GC.co ?_ ?_
    ·intro h2; try simp only [tst_] at h2
     first
     | (exfalso; first | omega | (simp at h2; done))
     |(skip
       refine GC.region ?_;refine GL.rn 1 ?_
       refine GL.nil (?_ : GC _ _ _ _)
       refine GC.rr 1 ?_;refine GL.callP rfl Tryz.call159 rfl (is := []) (js := []) rfl rfl (by exact must_ct _) (fun v a w he h => FinP.panic ⟨⟨_, he⟩, by rw [mtxF, hs15]; exact if_neg (by omega)⟩ h) (GL.ret ?_)
       rintro _ _ _ ⟨he26, rfl, rfl, rfl⟩
       refine GL.nr 4 ?_;refine GL.so_ 0 ?_;refine GL.nr 2 ?_;refine GL.nl_ ?_;refine GC.ret (FinP.b1 2 [0] [0] ?_)
       have e0 : e15 = 0 := by omega
       exact ⟨_, _, _, _, by rw [mtxF, hs15]; exact if_pos e0, l15, k15, rfl, rfl, rfl⟩)
    intro h2; try simp only [tst_] at h2
    first
    | (exfalso; first | omega | (simp at h2; done))
    |(skip
      refine GC.skip (?_ : GC _ _ _ _)
      refine GC.rr 1 ?_;refine GL.callP rfl Tryz.call159 rfl (is := []) (js := []) rfl rfl (by exact must_ct _) (fun v a w he h => FinP.panic ⟨⟨_, he⟩, by rw [mtxF, hs15]; exact if_neg (by omega)⟩ h) (GL.ret ?_)
      rintro _ _ _ ⟨he26, rfl, rfl, rfl⟩
      refine GL.nr 4 ?_;refine GL.so_ 0 ?_;refine GL.nr 2 ?_;refine GL.nl_ ?_;refine GC.ret (FinP.b1 2 [0] [0] ?_)
      have e0 : e15 = 0 := by omega
      exact ⟨_, _, _, _, by rw [mtxF, hs15]; exact if_pos e0, l15, k15, rfl, rfl, rfl⟩))
 intro h1; try simp only [tst_] at h1
 first
 | (exfalso; first | omega | (simp at h1; done))
 |(skip
   refine GL.rz 3 ?_;refine GC.cond_false rfl ?_
   refine GC.skip (?_ : GC _ _ _ _)
   refine GC.rr 1 ?_;refine GL.callP rfl Tryz.call159 rfl (is := []) (js := []) rfl rfl (by exact must_ct _) (fun v a w he h => FinP.panic ⟨⟨_, he⟩, by rw [mtxF, hs15]; exact if_neg (by omega)⟩ h) (GL.ret ?_)
   rintro _ _ _ ⟨he26, rfl, rfl, rfl⟩
   refine GL.nr 4 ?_;refine GL.so_ 0 ?_;refine GL.nr 2 ?_;refine GL.nl_ ?_;refine GC.ret (FinP.b1 2 [0] [0] ?_)
   have e0 : e15 = 0 := by omega
   exact ⟨_, _, _, _, by rw [mtxF, hs15]; exact if_pos e0, l15, k15, rfl, rfl, rfl⟩)
def manyF {α σ : Type} (f : σ → Option (α × σ)) (t : σ) : Nat → Option (List α × σ)
  | 0 => some ([], t)
  | k + 1 => (manyF f t k).bind fun r => (f r.2).map fun x => (r.1 ++ [x.1], x.2)
theorem manyF_none {α σ : Type} {f : σ → Option (α × σ)} {t : σ} {k : Nat} (h : manyF f t k = none) : ∀ {m : Nat}, k ≤ m → manyF f t m = none := by
  intro m hm
  induction m with
  | zero => obtain rfl : k = 0 := by omega
            exact h
  | succ m ih =>
    by_cases he : k = m + 1
    · subst he; exact h
    · rw [manyF, ih (by omega)]; rfl
theorem manyF_next {α σ : Type} {f : σ → Option (α × σ)} {t u v : σ} {k : Nat} {xs : List α} {x : α} (h : manyF f t k = some (xs, u)) (hx : f u = some (x, v)) : manyF f t (k + 1) = some (xs ++ [x], v) := by
  rw [manyF, h]; simp [hx]
theorem manyF_fail {α σ : Type} {f : σ → Option (α × σ)} {t u : σ} {k m : Nat} {xs : List α} (h : manyF f t k = some (xs, u)) (hx : f u = none) (hm : k < m) : manyF f t m = none :=
  manyF_none (k := k + 1) (by rw [manyF, h]; simp [hx]) hm
theorem mnumF_pos {b : List UInt8} {at_ n : Nat} {v : Int} {t : Nat} (h : mnumF b at_ n = some (v, t)) (hn : n ≤ 7) : 0 ≤ v := by
  unfold mnumF at h
  split at h
  · rename_i hq
    obtain ⟨h1, h2⟩ := Prod.mk.inj (Option.some.inj h)
    have hv : valN (seg b at_ (at_ + n)) < 256 ^ n := valN_rng hq (by omega)
    have hp : 256 ^ n ≤ 256 ^ 7 := Nat.pow_le_pow_right (by decide) hn
    have h7 : (256 : Nat) ^ 7 = 72057594037927936 := by decide
    split at h1 <;> omega
  · cases h
def mgrpF (b : List UInt8) (at_ : Nat) : Option (Grp × Nat) :=
  (mnumF b at_ 8).bind fun e => (mnumF b e.2 1).bind fun c => (manyF (fun t => mnumF b t 1) c.2 c.1.toNat).map fun r => (⟨e.1, r.1⟩, r.2)
theorem zq65_ {X : Prop} (h : X := by (exact fun a w h => ⟨(k + 1), (xs ++ [v20]), (_), (_), (by omega), ⟨⟨by simp; omega, by omega⟩, by omega, manyF_next hk.2.2 hs20⟩, h.cut (is := [1, 1, 1, 1]) (js := [0]) ⟨rfl, rfl, rfl, rfl, rfl, trivial⟩ rfl rfl⟩)) : X := h
theorem mgrp_ct (p e_ : Nat) (A : Option Addr) (b : List UInt8) (cp at_ : Nat) (hb : b.length ≤ cp) (hb' : b.length ≤ 10000000000000) (hat : at_ ≤ b.length) : CtP Tryz.prog 160 [.pointer (some ⟨p, 0, none⟩)] (mleftG p e_ A b cp at_) [Pers.row Kd.u8 A b]
    (fun u G Q => ∃ (g : Grp) (t : Nat) (A' : Option Addr) (c' : Nat), mgrpF b at_ = some (g, t) ∧ (t ≤ b.length ∧ g.members.length ≤ 255) ∧ g.members.length ≤ c' ∧ c' ≤ 9223372036854775807 ∧ u = .agg #[.int .i64 g.epoch, .slice A' g.members.length c'] ∧ G = mleftG p e_ A b cp t ∧ Q = [Pers.row kI A' g.members]) (fun v => mFault v ∧ mgrpF b at_ = none) := by
 have hp1 : (256 : Nat) ^ 1 = 256 := p256_1
 refine CtP.intro Tryz.func160 rfl rfl rfl (fun c hc => ?_)
 refine GC.sr_ ?_;refine GL.step rfl (t_alloc rfl ze_33) (GL.ex fun b_t2 => ?_);refine GL.nr 3 ?_;refine GL.callP rfl Tryz.call158 rfl (is := [1]) (js := [0]) rfl rfl (by exact (mlnum_ct _ _ _ b _ at_ 8 (by omega) (by omega) (by omega) (by omega) (by omega)).mono (fun _ _ _ h => h) (fun _ h => ⟨h.1, by simp only [mgrpF, h.2, Option.bind_none]⟩)) (fun v a w he h => FinP.panic he h) (GL.ret ?_)
 rintro _ _ _ ⟨v7, t7, hs7, rfl, rfl, rfl⟩
 obtain ⟨ht7, hu7, hv7, hw7, hx7⟩ := mnumF_rng hs7
 refine GL.pure rfl (p_build ze_33 of_33 rfl rfl) ?_;refine GL.step rfl (t_alloc rfl ze_33) (GL.ex fun b_t3 => ?_);refine GL.sn_ 0 ?_;refine GL.nl_ ?_;refine GC.seq' ?_;refine GC.rr 3 ?_;refine GL.callP rfl Tryz.call158 rfl (is := [1]) (js := [0]) rfl rfl (by exact (mlnum_ct _ _ _ b _ t7 1 (by omega) (by omega) (by omega) (by omega) (by omega)).mono (fun _ _ _ h => h) (fun _ h => ⟨h.1, by simp only [mgrpF, hs7, Option.bind_some, h.2, Option.bind_none]⟩)) (fun v a w he h => FinP.panic he h) (GL.ret ?_)
 rintro _ _ _ ⟨v12, t12, hs12, rfl, rfl, rfl⟩
 obtain ⟨ht12, hu12, hv12, hw12, hx12⟩ := mnumF_rng hs12
 have hpos := mnumF_pos hs12 (by omega)
 refine GL.nilrow 3 1 ?_;refine GL.rz 1 ?_;refine GC.block ?_;refine GC.loopK4 (ks := [0, 2, 3, 12]) (is := [3]) (js := [0]) (fun (k : Nat) (xs : List Int) (U : Value) (t : Nat) => (xs.length = k ∧ t ≤ b.length) ∧ (k : Int) ≤ v12 ∧ manyF (fun t => mnumF b t 1) t12 k = some (xs, t)) (fun (k : Nat) (xs : List Int) (U : Value) (t : Nat) => [(13, .int .i64 (k : Int))]) (fun (k : Nat) (xs : List Int) (U : Value) (t : Nat) => [.cells p [.slice A b.length cp, .int .i64 (t : Int)] e_, .cells b_t3 [.int .i64 v7, U] 33, .row U 3 1 xs.length (xs.map (Value.int .i64))]) (fun (k : Nat) (xs : List Int) (U : Value) (t : Nat) => []) (fun (k : Nat) (xs : List Int) (U : Value) (t : Nat) => v12.toNat - k) (0) ([]) (_) (t12) rfl rfl rfl (fun a w h => ⟨⟨⟨rfl, by omega⟩, by omega, rfl⟩, h.cutK (is := [1, 1, 0, 0]) (js := [0]) (ks := [0, 2, 3, 12]) ⟨rfl, trivial⟩ rfl rfl rfl⟩) ?_
 intro k xs U t hk
 try dsimp only [List.cons_append, List.nil_append] at hk ⊢
 refine GC.rg 1 ?_;refine GC.seq' ?_;refine GC.co ?_ ?_
 ·intro h1; try simp only [tst_] at h1
  refine GC.skip (?_ : GC _ _ _ _)
  refine GC.seq' ?_;refine GC.block ?_;refine GC.regionX (m := 10) (is := [3]) (js := [0]) wide_ rfl rfl rfl (fun _ _ _ hd hp hD => ⟨hd.trans hD, .inr hp⟩) ?_
  refine GX.tk 0 [3] [0] ?_
  refine GX.tk 2 [3] [0] ?_
  refine GX.tk 3 [3] [0] ?_
  refine GX.tk 4 [3] [0] ?_
  refine GX.al [1, 5] ?_
  refine GXs.cons (i := 1) rfl rfl (t_mem rfl (m_load (i := 1) rfl rfl ag_31 rfl)) (by rintro a w h; exact h.me [3] [0]) ?_ ?_
  ·refine GX.al [5] ?_
   refine GXs.consP (i := 5) rfl rfl Tryz.call158 rfl (is := [0]) (js := [0]) rfl rfl (by exact (mlnum_ct _ _ _ b _ t 1 (by omega) (by omega) (by omega) (by omega) (by omega)).mono (fun _ _ _ h => h) (fun _ h => ⟨h.1, by simp only [mgrpF, hs7, hs12, Option.bind_some]; rw [manyF_fail hk.2.2 h.2 (by omega)]; rfl⟩)) (by rintro a w ⟨_, _, _, ⟨v20, t20, hs20, rfl, rfl, rfl⟩, h⟩; exact h.me [3] [0]) (GX.ret ?_) GXs.nil
   rintro _ _ _ ⟨v20, t20, hs20, rfl, rfl, rfl⟩
   obtain ⟨ht20, hu20, hv20, hw20, hx20⟩ := mnumF_rng hs20
   refine GX.al [6] ?_
   refine GXs.cons (i := 6) rfl rfl (t_buildSlice rfl Tryz.underlying31 sz_3 ze_3 rfl rfl rfl rfl rfl rfl) (by rintro a w ⟨_, h⟩; exact h.me [4] [0]) (GX.ex fun b_t21 => ?_) GXs.nil
   refine GX.al [7] ?_
   refine GXs.cons (i := 7) rfl rfl (t_append (i := 3) (k := 0) rfl el_31 rfl rfl rfl rfl rfl (allOne_mem rfl) (by have := hk.1.1; omega) (fun _ => rfl)) (by rintro a w ⟨_, h⟩; exact h.me [4] [0]) (GX.ex fun v22 => ?_) GXs.nil
   refine GX.shape (i := 3) rfl (fun A_v22 c_v22 e_v22 l_v22 k_v22 => ?_)
   subst e_v22
   refine GX.tk 8 [4] [0] ?_
   refine GX.al [9] ?_
   refine GXs.cons (i := 9) rfl rfl (t_store (i := 2) rfl rfl rfl rfl sz_31 rfl rfl rfl) (by rintro a w h; exact h.me [4] [0]) ?_ GXs.nil
   refine GX.done (by kernel_rfl) (?_ : GC _ _ _ _)
   refine GC.region ?_;refine GL.rowIs (i := 3) (m' := ((xs ++ [v20])).length) (cs' := ((xs ++ [v20])).map (Value.int .i64)) rfl (by first | rfl | (simp; done) | (simp; omega)) (by first | rfl | (simp; done)) rfl ?_
   refine GL.pure rfl (p_add rfl rfl (w64 (by omega) (by omega))) ?_;refine GL.rn 1 ?_;refine GL.nil ?_
   exact zq65_
  refine GXs.consP (i := 5) rfl rfl Tryz.call158 rfl (is := [0]) (js := [0]) rfl rfl (by exact (mlnum_ct _ _ _ b _ t 1 (by omega) (by omega) (by omega) (by omega) (by omega)).mono (fun _ _ _ h => h) (fun _ h => ⟨h.1, by simp only [mgrpF, hs7, hs12, Option.bind_some]; rw [manyF_fail hk.2.2 h.2 (by omega)]; rfl⟩)) (by rintro a w ⟨_, _, _, ⟨v20, t20, hs20, rfl, rfl, rfl⟩, h⟩; exact h.me [3] [0]) (GX.ret ?_) GXs.nil
  rintro _ _ _ ⟨v20, t20, hs20, rfl, rfl, rfl⟩
  obtain ⟨ht20, hu20, hv20, hw20, hx20⟩ := mnumF_rng hs20
  refine GX.al [1, 6] ?_
  refine GXs.cons (i := 1) rfl rfl (t_mem rfl (m_load (i := 1) rfl rfl ag_31 rfl)) (by rintro a w h; exact h.me [3] [0]) ?_ ?_
  ·refine GX.al [6] ?_
   refine GXs.cons (i := 6) rfl rfl (t_buildSlice rfl Tryz.underlying31 sz_3 ze_3 rfl rfl rfl rfl rfl rfl) (by rintro a w ⟨_, h⟩; exact h.me [4] [0]) (GX.ex fun b_t21 => ?_) GXs.nil
   refine GX.al [7] ?_
   refine GXs.cons (i := 7) rfl rfl (t_append (i := 3) (k := 0) rfl el_31 rfl rfl rfl rfl rfl (allOne_mem rfl) (by have := hk.1.1; omega) (fun _ => rfl)) (by rintro a w ⟨_, h⟩; exact h.me [4] [0]) (GX.ex fun v22 => ?_) GXs.nil
   refine GX.shape (i := 3) rfl (fun A_v22 c_v22 e_v22 l_v22 k_v22 => ?_)
   subst e_v22
   refine GX.tk 8 [4] [0] ?_
   refine GX.al [9] ?_
   refine GXs.cons (i := 9) rfl rfl (t_store (i := 2) rfl rfl rfl rfl sz_31 rfl rfl rfl) (by rintro a w h; exact h.me [4] [0]) ?_ GXs.nil
   refine GX.done (by kernel_rfl) (?_ : GC _ _ _ _)
   refine GC.region ?_;refine GL.rowIs (i := 3) (m' := ((xs ++ [v20])).length) (cs' := ((xs ++ [v20])).map (Value.int .i64)) rfl (by first | rfl | (simp; done) | (simp; omega)) (by first | rfl | (simp; done)) rfl ?_
   refine GL.pure rfl (p_add rfl rfl (w64 (by omega) (by omega))) ?_;refine GL.rn 1 ?_;refine GL.nil ?_
   exact zq65_
  refine GXs.cons (i := 6) rfl rfl (t_buildSlice rfl Tryz.underlying31 sz_3 ze_3 rfl rfl rfl rfl rfl rfl) (by rintro a w ⟨_, h⟩; exact h.me [4] [0]) (GX.ex fun b_t21 => ?_) GXs.nil
  refine GX.al [1] ?_
  refine GXs.cons (i := 1) rfl rfl (t_mem rfl (m_load (i := 2) rfl rfl ag_31 rfl)) (by rintro a w h; exact h.me [4] [0]) ?_ GXs.nil
  refine GX.al [7] ?_
  refine GXs.cons (i := 7) rfl rfl (t_append (i := 3) (k := 0) rfl el_31 rfl rfl rfl rfl rfl (allOne_mem rfl) (by have := hk.1.1; omega) (fun _ => rfl)) (by rintro a w ⟨_, h⟩; exact h.me [4] [0]) (GX.ex fun v22 => ?_) GXs.nil
  refine GX.shape (i := 3) rfl (fun A_v22 c_v22 e_v22 l_v22 k_v22 => ?_)
  subst e_v22
  refine GX.tk 8 [4] [0] ?_
  refine GX.al [9] ?_
  refine GXs.cons (i := 9) rfl rfl (t_store (i := 2) rfl rfl rfl rfl sz_31 rfl rfl rfl) (by rintro a w h; exact h.me [4] [0]) ?_ GXs.nil
  refine GX.done (by kernel_rfl) (?_ : GC _ _ _ _)
  refine GC.region ?_;refine GL.rowIs (i := 3) (m' := ((xs ++ [v20])).length) (cs' := ((xs ++ [v20])).map (Value.int .i64)) rfl (by first | rfl | (simp; done) | (simp; omega)) (by first | rfl | (simp; done)) rfl ?_
  refine GL.pure rfl (p_add rfl rfl (w64 (by omega) (by omega))) ?_;refine GL.rn 1 ?_;refine GL.nil ?_
  exact zq65_
 intro h1; try simp only [tst_] at h1
 refine GC.exit (?_ : GC _ _ _ _)
 refine GC.sr_ ?_;refine GL.shape (i := 2) rfl (fun A_M c_M e_M l_M k_M => ?_)
 subst e_M
 refine GL.freezeI (i := 2) rfl ?_;refine GL.ln_ 1 2 ?_;refine GL.sn_ 2 ?_;refine GL.nl_ ?_;refine GC.ret (FinP.c0 2 33 2 2 [0] [0] ?_)
 exact ⟨⟨v7, xs⟩, _, _, _, by simp only [mgrpF, hs7, hs12, Option.bind_some]; rw [show v12.toNat = k by omega, hk.2.2]; rfl, ⟨hk.1.2, by have := hk.1.1; show xs.length ≤ 255; omega⟩, l_M, k_M, rfl, rfl, rfl⟩
def mentB (b : List UInt8) (k n v c s : Int) (t : Nat) : Option (Entry × Nat) :=
  if k = 1 then (decOp (seg b t b.length)).map fun o => (⟨k, n, v, c, s, o.1, zgr⟩, t + o.2)
  else if k = 2 then (mgrpF b t).map fun g => (⟨k, n, v, c, s, zop, g.1⟩, g.2)
  else some (⟨k, n, v, c, s, zop, zgr⟩, t)
def mentC (r : Entry × Nat) : Option (Entry × Nat) := if entE r.1 = 0 then some r else none
def mentF (b : List UInt8) (at_ : Nat) : Option (Entry × Nat) :=
  (mnumF b at_ 1).bind fun k => (mnumF b k.2 8).bind fun n => (mnumF b n.2 8).bind fun v => (mnumF b v.2 8).bind fun c => (mnumF b c.2 8).bind fun s => (mentB b k.1 n.1 v.1 c.1 s.1 s.2).bind mentC
theorem seg_to {b : List UInt8} {t : Nat} (h : t ≤ b.length) : (seg b t b.length).length = b.length - t := seg_length (Nat.le_refl _)
abbrev EntR (e : Entry) (u : Value) (Q : List Pers) : Prop := ∃ A cp B cq C cr, e.op.data.length ≤ cp ∧ cp ≤ 9223372036854775807 ∧ e.op.old.length ≤ cq ∧ cq ≤ 9223372036854775807 ∧ e.grp.members.length ≤ cr ∧ cr ≤ 9223372036854775807 ∧ u = entV e A cp B cq C cr ∧ Q = entQ e A B C
theorem zq66_ {X : Prop} (h : X := by (exact GX.done (by kernel_rfl) (fun a w h => ⟨_, _, _, _, _, _, _, _, _, _, _, ⟨hs10, hs15, hs19, hs23, hs27⟩, h.cut (is := [0, 0, 0]) (js := [0]) ⟨rfl, rfl, rfl, trivial⟩ rfl rfl⟩))) : X := h
theorem zq67_ {X : Prop} (h : X := by (exact GA.done (by kernel_rfl) (fun a w h => ⟨_, _, _, _, _, _, _, _, ⟨hs45, hn45, l45, k45, m45, p45⟩, h.cut (is := [1, 1, 1, 0]) (js := [0, 1, 3]) ⟨rfl, rfl, rfl, rfl, rfl, rfl, trivial⟩ rfl rfl⟩))) : X := h
theorem zq68_ {X : Prop} (h : X := by (exact FinP.panic ⟨⟨42, by decide, rfl⟩, by rw [hMB, mentC]; exact if_neg (by assumption)⟩ h)) : X := h
theorem mentr_ct (p e_ : Nat) (A : Option Addr) (b : List UInt8) (cp at_ : Nat) (hb : b.length ≤ cp) (hcp' : cp ≤ 9223372036854775807) (hb' : b.length ≤ 10000000000000) (hat : at_ ≤ b.length) : CtP Tryz.prog 135 [.pointer (some ⟨p, 0, none⟩)] (mleftG p e_ A b cp at_) [Pers.row Kd.u8 A b]
    (fun u G Q => ∃ (e : Entry) (t : Nat), mentF b at_ = some (e, t) ∧ t ≤ b.length ∧ EntR e u Q ∧ G = mleftG p e_ A b cp t) (fun v => mFault v ∧ mentF b at_ = none) := by
 have hp1 : (256 : Nat) ^ 1 = 256 := p256_1
 refine CtP.intro Tryz.func135 rfl rfl rfl (fun c hc => ?_)
 refine GC.sr_ ?_;refine GL.step rfl (t_alloc rfl ze_64) (GL.ex fun b_t2 => ?_);refine GL.nl_ ?_;refine GC.seq' ?_;refine GC.regionXM (m := 24) (M := fun a w => ∃ v10 : Int, ∃ t10 : Nat, ∃ v15 : Int, ∃ t15 : Nat, ∃ v19 : Int, ∃ t19 : Nat, ∃ v23 : Int, ∃ t23 : Nat, ∃ v27 : Int, ∃ t27 : Nat, ∃ b_t3 : Nat, (mnumF b at_ 1 = some (v10, t10) ∧ mnumF b t10 8 = some (v15, t15) ∧ mnumF b t15 8 = some (v19, t19) ∧ mnumF b t19 8 = some (v23, t23) ∧ mnumF b t23 8 = some (v27, t27)) ∧ St c 74 [(0, .pointer (some ⟨p, 0, none⟩)), (2, .pointer (some ⟨b_t2, 0, none⟩)), (3, .pointer (some ⟨b_t3, 0, none⟩))] [.cells p [.slice A b.length cp, .int .i64 (t27 : Int)] e_, .cells b_t3 [.int .u8 v10, .int .i64 v15, .int .i64 v19, .int .i64 v23, .int .i64 v27, .int .u8 0, .int .i64 0, .int .i64 0, .slice none 0 0, .slice none 0 0, .int .i64 0, .slice none 0 0] 64, .cells b_t2 [.int .u8 0, .int .i64 0, .int .i64 0, .int .i64 0, .int .i64 0, .int .u8 0, .int .i64 0, .int .i64 0, .slice none 0 0, .slice none 0 0, .int .i64 0, .slice none 0 0] 64] [Pers.row Kd.u8 A b] a w) (is := [0]) (js := [0]) wide_ rfl rfl rfl (fun _ _ _ hd hp hD => ⟨hd.trans hD, .inr hp⟩) ?_ ?_
 ·refine GX.tk 0 [0] [0] ?_
  refine GX.tk 1 [0] [0] ?_
  refine GX.tk 2 [0] [0] ?_
  refine GX.tk 5 [0] [0] ?_
  refine GX.tk 6 [0] [0] ?_
  refine GX.tk 7 [0] [0] ?_
  refine GX.tk 9 [0] [0] ?_
  refine GX.tk 10 [0] [0] ?_
  refine GX.tk 11 [0] [0] ?_
  refine GX.tk 13 [0] [0] ?_
  refine GX.tk 14 [0] [0] ?_
  refine GX.tk 15 [0] [0] ?_
  refine GX.tk 17 [0] [0] ?_
  refine GX.tk 18 [0] [0] ?_
  refine GX.tk 19 [0] [0] ?_
  refine GX.al [3, 22] ?_
  refine GXs.consP (i := 3) rfl rfl Tryz.call158 rfl (is := [1]) (js := [0]) rfl rfl (by exact (mlnum_ct _ _ _ b _ at_ 1 (by omega) (by omega) (by omega) (by omega) (by omega)).mono (fun _ _ _ h => h) (fun _ h => ⟨h.1, by simp only [mentF, h.2, Option.bind_none]⟩)) (by rintro a w ⟨_, _, _, ⟨v10, t10, hs10, rfl, rfl, rfl⟩, h⟩; exact h.me [1] [0]) (GX.ret ?_) ?_
  ·rintro _ _ _ ⟨v10, t10, hs10, rfl, rfl, rfl⟩
   obtain ⟨ht10, hu10, hv10, hw10, hx10⟩ := mnumF_rng hs10
   refine GX.tp 4 rfl [1] [0] (i_pure (p_convR (t := 3) (r := v10) (by rw [Tryz.underlying3]; simp) Tryz.underlying62 rfl (by have := mnumF_pos hs10 (by omega); simp [IntKind.wrap, IntKind.bits, IntKind.signed]; omega))) ?_
   refine GX.al [8, 22] ?_
   refine GXs.consP (i := 8) rfl rfl Tryz.call158 rfl (is := [0]) (js := [0]) rfl rfl (by exact (mlnum_ct _ _ _ b _ t10 8 (by omega) (by omega) (by omega) (by omega) (by omega)).mono (fun _ _ _ h => h) (fun _ h => ⟨h.1, by simp only [mentF, hs10, Option.bind_some, h.2, Option.bind_none]⟩)) (by rintro a w ⟨_, _, _, ⟨v15, t15, hs15, rfl, rfl, rfl⟩, h⟩; exact h.me [1] [0]) (GX.ret ?_) ?_
   ·rintro _ _ _ ⟨v15, t15, hs15, rfl, rfl, rfl⟩
    obtain ⟨ht15, hu15, hv15, hw15, hx15⟩ := mnumF_rng hs15
    refine GX.al [12, 22] ?_
    refine GXs.consP (i := 12) rfl rfl Tryz.call158 rfl (is := [0]) (js := [0]) rfl rfl (by exact (mlnum_ct _ _ _ b _ t15 8 (by omega) (by omega) (by omega) (by omega) (by omega)).mono (fun _ _ _ h => h) (fun _ h => ⟨h.1, by simp only [mentF, hs10, hs15, Option.bind_some, h.2, Option.bind_none]⟩)) (by rintro a w ⟨_, _, _, ⟨v19, t19, hs19, rfl, rfl, rfl⟩, h⟩; exact h.me [1] [0]) (GX.ret ?_) ?_
    ·rintro _ _ _ ⟨v19, t19, hs19, rfl, rfl, rfl⟩
     obtain ⟨ht19, hu19, hv19, hw19, hx19⟩ := mnumF_rng hs19
     refine GX.al [16, 22] ?_
     refine GXs.consP (i := 16) rfl rfl Tryz.call158 rfl (is := [0]) (js := [0]) rfl rfl (by exact (mlnum_ct _ _ _ b _ t19 8 (by omega) (by omega) (by omega) (by omega) (by omega)).mono (fun _ _ _ h => h) (fun _ h => ⟨h.1, by simp only [mentF, hs10, hs15, hs19, Option.bind_some, h.2, Option.bind_none]⟩)) (by rintro a w ⟨_, _, _, ⟨v23, t23, hs23, rfl, rfl, rfl⟩, h⟩; exact h.me [1] [0]) (GX.ret ?_) ?_
     ·rintro _ _ _ ⟨v23, t23, hs23, rfl, rfl, rfl⟩
      obtain ⟨ht23, hu23, hv23, hw23, hx23⟩ := mnumF_rng hs23
      refine GX.al [20, 22] ?_
      refine GXs.consP (i := 20) rfl rfl Tryz.call158 rfl (is := [0]) (js := [0]) rfl rfl (by exact (mlnum_ct _ _ _ b _ t23 8 (by omega) (by omega) (by omega) (by omega) (by omega)).mono (fun _ _ _ h => h) (fun _ h => ⟨h.1, by simp only [mentF, hs10, hs15, hs19, hs23, Option.bind_some, h.2, Option.bind_none]⟩)) (by rintro a w ⟨_, _, _, ⟨v27, t27, hs27, rfl, rfl, rfl⟩, h⟩; exact h.me [1] [0]) (GX.ret ?_) ?_
      ·rintro _ _ _ ⟨v27, t27, hs27, rfl, rfl, rfl⟩
       obtain ⟨ht27, hu27, hv27, hw27, hx27⟩ := mnumF_rng hs27
       refine GX.tp 21 rfl [1] [0] (i_pure (p_build ze_64 of_64 rfl rfl)) ?_
       refine GX.al [22] ?_
       refine GXs.cons (i := 22) rfl rfl (t_alloc rfl ze_64) (by rintro a w ⟨_, h⟩; exact h.me [2] [0]) (GX.ex fun b_t3 => ?_) GXs.nil
       refine GX.al [23] ?_
       refine GXs.cons (i := 23) rfl rfl (t_storeN (i := 0) rfl rfl rfl sz_64 rfl rfl rfl) (by rintro a w h; exact h.me [2] [0]) ?_ GXs.nil
       exact GX.done (by kernel_rfl) (fun a w h => ⟨_, _, _, _, _, _, _, _, _, _, _, ⟨hs10, hs15, hs19, hs23, hs27⟩, h.cut (is := [1, 0, 0]) (js := [0]) ⟨rfl, rfl, rfl, trivial⟩ rfl rfl⟩)
      refine GXs.cons (i := 22) rfl rfl (t_alloc rfl ze_64) (by rintro a w ⟨_, h⟩; exact h.me [2] [0]) (GX.ex fun b_t3 => ?_) GXs.nil
      refine GX.al [20] ?_
      refine GXs.consP (i := 20) rfl rfl Tryz.call158 rfl (is := [1]) (js := [0]) rfl rfl (by exact (mlnum_ct _ _ _ b _ t23 8 (by omega) (by omega) (by omega) (by omega) (by omega)).mono (fun _ _ _ h => h) (fun _ h => ⟨h.1, by simp only [mentF, hs10, hs15, hs19, hs23, Option.bind_some, h.2, Option.bind_none]⟩)) (by rintro a w ⟨_, _, _, ⟨v27, t27, hs27, rfl, rfl, rfl⟩, h⟩; exact h.me [2] [0]) (GX.ret ?_) GXs.nil
      rintro _ _ _ ⟨v27, t27, hs27, rfl, rfl, rfl⟩
      obtain ⟨ht27, hu27, hv27, hw27, hx27⟩ := mnumF_rng hs27
      refine GX.tp 21 rfl [2] [0] (i_pure (p_build ze_64 of_64 rfl rfl)) ?_
      refine GX.al [23] ?_
      refine GXs.cons (i := 23) rfl rfl (t_storeN (i := 1) rfl rfl rfl sz_64 rfl rfl rfl) (by rintro a w h; exact h.me [2] [0]) ?_ GXs.nil
      exact zq66_
     refine GXs.cons (i := 22) rfl rfl (t_alloc rfl ze_64) (by rintro a w ⟨_, h⟩; exact h.me [2] [0]) (GX.ex fun b_t3 => ?_) GXs.nil
     refine GX.al [16] ?_
     refine GXs.consP (i := 16) rfl rfl Tryz.call158 rfl (is := [1]) (js := [0]) rfl rfl (by exact (mlnum_ct _ _ _ b _ t19 8 (by omega) (by omega) (by omega) (by omega) (by omega)).mono (fun _ _ _ h => h) (fun _ h => ⟨h.1, by simp only [mentF, hs10, hs15, hs19, Option.bind_some, h.2, Option.bind_none]⟩)) (by rintro a w ⟨_, _, _, ⟨v23, t23, hs23, rfl, rfl, rfl⟩, h⟩; exact h.me [2] [0]) (GX.ret ?_) GXs.nil
     rintro _ _ _ ⟨v23, t23, hs23, rfl, rfl, rfl⟩
     obtain ⟨ht23, hu23, hv23, hw23, hx23⟩ := mnumF_rng hs23
     refine GX.al [20] ?_
     refine GXs.consP (i := 20) rfl rfl Tryz.call158 rfl (is := [0]) (js := [0]) rfl rfl (by exact (mlnum_ct _ _ _ b _ t23 8 (by omega) (by omega) (by omega) (by omega) (by omega)).mono (fun _ _ _ h => h) (fun _ h => ⟨h.1, by simp only [mentF, hs10, hs15, hs19, hs23, Option.bind_some, h.2, Option.bind_none]⟩)) (by rintro a w ⟨_, _, _, ⟨v27, t27, hs27, rfl, rfl, rfl⟩, h⟩; exact h.me [2] [0]) (GX.ret ?_) GXs.nil
     rintro _ _ _ ⟨v27, t27, hs27, rfl, rfl, rfl⟩
     obtain ⟨ht27, hu27, hv27, hw27, hx27⟩ := mnumF_rng hs27
     refine GX.tp 21 rfl [2] [0] (i_pure (p_build ze_64 of_64 rfl rfl)) ?_
     refine GX.al [23] ?_
     refine GXs.cons (i := 23) rfl rfl (t_storeN (i := 1) rfl rfl rfl sz_64 rfl rfl rfl) (by rintro a w h; exact h.me [2] [0]) ?_ GXs.nil
     exact zq66_
    refine GXs.cons (i := 22) rfl rfl (t_alloc rfl ze_64) (by rintro a w ⟨_, h⟩; exact h.me [2] [0]) (GX.ex fun b_t3 => ?_) GXs.nil
    refine GX.al [12] ?_
    refine GXs.consP (i := 12) rfl rfl Tryz.call158 rfl (is := [1]) (js := [0]) rfl rfl (by exact (mlnum_ct _ _ _ b _ t15 8 (by omega) (by omega) (by omega) (by omega) (by omega)).mono (fun _ _ _ h => h) (fun _ h => ⟨h.1, by simp only [mentF, hs10, hs15, Option.bind_some, h.2, Option.bind_none]⟩)) (by rintro a w ⟨_, _, _, ⟨v19, t19, hs19, rfl, rfl, rfl⟩, h⟩; exact h.me [2] [0]) (GX.ret ?_) GXs.nil
    rintro _ _ _ ⟨v19, t19, hs19, rfl, rfl, rfl⟩
    obtain ⟨ht19, hu19, hv19, hw19, hx19⟩ := mnumF_rng hs19
    refine GX.al [16] ?_
    refine GXs.consP (i := 16) rfl rfl Tryz.call158 rfl (is := [0]) (js := [0]) rfl rfl (by exact (mlnum_ct _ _ _ b _ t19 8 (by omega) (by omega) (by omega) (by omega) (by omega)).mono (fun _ _ _ h => h) (fun _ h => ⟨h.1, by simp only [mentF, hs10, hs15, hs19, Option.bind_some, h.2, Option.bind_none]⟩)) (by rintro a w ⟨_, _, _, ⟨v23, t23, hs23, rfl, rfl, rfl⟩, h⟩; exact h.me [2] [0]) (GX.ret ?_) GXs.nil
    rintro _ _ _ ⟨v23, t23, hs23, rfl, rfl, rfl⟩
    obtain ⟨ht23, hu23, hv23, hw23, hx23⟩ := mnumF_rng hs23
    refine GX.al [20] ?_
    refine GXs.consP (i := 20) rfl rfl Tryz.call158 rfl (is := [0]) (js := [0]) rfl rfl (by exact (mlnum_ct _ _ _ b _ t23 8 (by omega) (by omega) (by omega) (by omega) (by omega)).mono (fun _ _ _ h => h) (fun _ h => ⟨h.1, by simp only [mentF, hs10, hs15, hs19, hs23, Option.bind_some, h.2, Option.bind_none]⟩)) (by rintro a w ⟨_, _, _, ⟨v27, t27, hs27, rfl, rfl, rfl⟩, h⟩; exact h.me [2] [0]) (GX.ret ?_) GXs.nil
    rintro _ _ _ ⟨v27, t27, hs27, rfl, rfl, rfl⟩
    obtain ⟨ht27, hu27, hv27, hw27, hx27⟩ := mnumF_rng hs27
    refine GX.tp 21 rfl [2] [0] (i_pure (p_build ze_64 of_64 rfl rfl)) ?_
    refine GX.al [23] ?_
    refine GXs.cons (i := 23) rfl rfl (t_storeN (i := 1) rfl rfl rfl sz_64 rfl rfl rfl) (by rintro a w h; exact h.me [2] [0]) ?_ GXs.nil
    exact zq66_
   refine GXs.cons (i := 22) rfl rfl (t_alloc rfl ze_64) (by rintro a w ⟨_, h⟩; exact h.me [2] [0]) (GX.ex fun b_t3 => ?_) GXs.nil
   refine GX.al [8] ?_
   refine GXs.consP (i := 8) rfl rfl Tryz.call158 rfl (is := [1]) (js := [0]) rfl rfl (by exact (mlnum_ct _ _ _ b _ t10 8 (by omega) (by omega) (by omega) (by omega) (by omega)).mono (fun _ _ _ h => h) (fun _ h => ⟨h.1, by simp only [mentF, hs10, Option.bind_some, h.2, Option.bind_none]⟩)) (by rintro a w ⟨_, _, _, ⟨v15, t15, hs15, rfl, rfl, rfl⟩, h⟩; exact h.me [2] [0]) (GX.ret ?_) GXs.nil
   rintro _ _ _ ⟨v15, t15, hs15, rfl, rfl, rfl⟩
   obtain ⟨ht15, hu15, hv15, hw15, hx15⟩ := mnumF_rng hs15
   refine GX.al [12] ?_
   refine GXs.consP (i := 12) rfl rfl Tryz.call158 rfl (is := [0]) (js := [0]) rfl rfl (by exact (mlnum_ct _ _ _ b _ t15 8 (by omega) (by omega) (by omega) (by omega) (by omega)).mono (fun _ _ _ h => h) (fun _ h => ⟨h.1, by simp only [mentF, hs10, hs15, Option.bind_some, h.2, Option.bind_none]⟩)) (by rintro a w ⟨_, _, _, ⟨v19, t19, hs19, rfl, rfl, rfl⟩, h⟩; exact h.me [2] [0]) (GX.ret ?_) GXs.nil
   rintro _ _ _ ⟨v19, t19, hs19, rfl, rfl, rfl⟩
   obtain ⟨ht19, hu19, hv19, hw19, hx19⟩ := mnumF_rng hs19
   refine GX.al [16] ?_
   refine GXs.consP (i := 16) rfl rfl Tryz.call158 rfl (is := [0]) (js := [0]) rfl rfl (by exact (mlnum_ct _ _ _ b _ t19 8 (by omega) (by omega) (by omega) (by omega) (by omega)).mono (fun _ _ _ h => h) (fun _ h => ⟨h.1, by simp only [mentF, hs10, hs15, hs19, Option.bind_some, h.2, Option.bind_none]⟩)) (by rintro a w ⟨_, _, _, ⟨v23, t23, hs23, rfl, rfl, rfl⟩, h⟩; exact h.me [2] [0]) (GX.ret ?_) GXs.nil
   rintro _ _ _ ⟨v23, t23, hs23, rfl, rfl, rfl⟩
   obtain ⟨ht23, hu23, hv23, hw23, hx23⟩ := mnumF_rng hs23
   refine GX.al [20] ?_
   refine GXs.consP (i := 20) rfl rfl Tryz.call158 rfl (is := [0]) (js := [0]) rfl rfl (by exact (mlnum_ct _ _ _ b _ t23 8 (by omega) (by omega) (by omega) (by omega) (by omega)).mono (fun _ _ _ h => h) (fun _ h => ⟨h.1, by simp only [mentF, hs10, hs15, hs19, hs23, Option.bind_some, h.2, Option.bind_none]⟩)) (by rintro a w ⟨_, _, _, ⟨v27, t27, hs27, rfl, rfl, rfl⟩, h⟩; exact h.me [2] [0]) (GX.ret ?_) GXs.nil
   rintro _ _ _ ⟨v27, t27, hs27, rfl, rfl, rfl⟩
   obtain ⟨ht27, hu27, hv27, hw27, hx27⟩ := mnumF_rng hs27
   refine GX.tp 21 rfl [2] [0] (i_pure (p_build ze_64 of_64 rfl rfl)) ?_
   refine GX.al [23] ?_
   refine GXs.cons (i := 23) rfl rfl (t_storeN (i := 1) rfl rfl rfl sz_64 rfl rfl rfl) (by rintro a w h; exact h.me [2] [0]) ?_ GXs.nil
   exact zq66_
  refine GXs.cons (i := 22) rfl rfl (t_alloc rfl ze_64) (by rintro a w ⟨_, h⟩; exact h.me [1] [0]) (GX.ex fun b_t3 => ?_) GXs.nil
  refine GX.al [3] ?_
  refine GXs.consP (i := 3) rfl rfl Tryz.call158 rfl (is := [2]) (js := [0]) rfl rfl (by exact (mlnum_ct _ _ _ b _ at_ 1 (by omega) (by omega) (by omega) (by omega) (by omega)).mono (fun _ _ _ h => h) (fun _ h => ⟨h.1, by simp only [mentF, h.2, Option.bind_none]⟩)) (by rintro a w ⟨_, _, _, ⟨v10, t10, hs10, rfl, rfl, rfl⟩, h⟩; exact h.me [2] [0]) (GX.ret ?_) GXs.nil
  rintro _ _ _ ⟨v10, t10, hs10, rfl, rfl, rfl⟩
  obtain ⟨ht10, hu10, hv10, hw10, hx10⟩ := mnumF_rng hs10
  refine GX.tp 4 rfl [2] [0] (i_pure (p_convR (t := 3) (r := v10) (by rw [Tryz.underlying3]; simp) Tryz.underlying62 rfl (by have := mnumF_pos hs10 (by omega); simp [IntKind.wrap, IntKind.bits, IntKind.signed]; omega))) ?_
  refine GX.al [8] ?_
  refine GXs.consP (i := 8) rfl rfl Tryz.call158 rfl (is := [0]) (js := [0]) rfl rfl (by exact (mlnum_ct _ _ _ b _ t10 8 (by omega) (by omega) (by omega) (by omega) (by omega)).mono (fun _ _ _ h => h) (fun _ h => ⟨h.1, by simp only [mentF, hs10, Option.bind_some, h.2, Option.bind_none]⟩)) (by rintro a w ⟨_, _, _, ⟨v15, t15, hs15, rfl, rfl, rfl⟩, h⟩; exact h.me [2] [0]) (GX.ret ?_) GXs.nil
  rintro _ _ _ ⟨v15, t15, hs15, rfl, rfl, rfl⟩
  obtain ⟨ht15, hu15, hv15, hw15, hx15⟩ := mnumF_rng hs15
  refine GX.al [12] ?_
  refine GXs.consP (i := 12) rfl rfl Tryz.call158 rfl (is := [0]) (js := [0]) rfl rfl (by exact (mlnum_ct _ _ _ b _ t15 8 (by omega) (by omega) (by omega) (by omega) (by omega)).mono (fun _ _ _ h => h) (fun _ h => ⟨h.1, by simp only [mentF, hs10, hs15, Option.bind_some, h.2, Option.bind_none]⟩)) (by rintro a w ⟨_, _, _, ⟨v19, t19, hs19, rfl, rfl, rfl⟩, h⟩; exact h.me [2] [0]) (GX.ret ?_) GXs.nil
  rintro _ _ _ ⟨v19, t19, hs19, rfl, rfl, rfl⟩
  obtain ⟨ht19, hu19, hv19, hw19, hx19⟩ := mnumF_rng hs19
  refine GX.al [16] ?_
  refine GXs.consP (i := 16) rfl rfl Tryz.call158 rfl (is := [0]) (js := [0]) rfl rfl (by exact (mlnum_ct _ _ _ b _ t19 8 (by omega) (by omega) (by omega) (by omega) (by omega)).mono (fun _ _ _ h => h) (fun _ h => ⟨h.1, by simp only [mentF, hs10, hs15, hs19, Option.bind_some, h.2, Option.bind_none]⟩)) (by rintro a w ⟨_, _, _, ⟨v23, t23, hs23, rfl, rfl, rfl⟩, h⟩; exact h.me [2] [0]) (GX.ret ?_) GXs.nil
  rintro _ _ _ ⟨v23, t23, hs23, rfl, rfl, rfl⟩
  obtain ⟨ht23, hu23, hv23, hw23, hx23⟩ := mnumF_rng hs23
  refine GX.al [20] ?_
  refine GXs.consP (i := 20) rfl rfl Tryz.call158 rfl (is := [0]) (js := [0]) rfl rfl (by exact (mlnum_ct _ _ _ b _ t23 8 (by omega) (by omega) (by omega) (by omega) (by omega)).mono (fun _ _ _ h => h) (fun _ h => ⟨h.1, by simp only [mentF, hs10, hs15, hs19, hs23, Option.bind_some, h.2, Option.bind_none]⟩)) (by rintro a w ⟨_, _, _, ⟨v27, t27, hs27, rfl, rfl, rfl⟩, h⟩; exact h.me [2] [0]) (GX.ret ?_) GXs.nil
  rintro _ _ _ ⟨v27, t27, hs27, rfl, rfl, rfl⟩
  obtain ⟨ht27, hu27, hv27, hw27, hx27⟩ := mnumF_rng hs27
  refine GX.tp 21 rfl [2] [0] (i_pure (p_build ze_64 of_64 rfl rfl)) ?_
  refine GX.al [23] ?_
  refine GXs.cons (i := 23) rfl rfl (t_storeN (i := 1) rfl rfl rfl sz_64 rfl rfl rfl) (by rintro a w h; exact h.me [2] [0]) ?_ GXs.nil
  exact zq66_
 refine (?_ : GC _ _ _ _)
 refine GC.ex fun v10 => GC.ex fun t10 => GC.ex fun v15 => GC.ex fun t15 => GC.ex fun v19 => GC.ex fun t19 => GC.ex fun v23 => GC.ex fun t23 => GC.ex fun v27 => GC.ex fun t27 => GC.ex fun b_t3 => GC.and fun ⟨hs10, hs15, hs19, hs23, hs27⟩ => ?_
 refine GC.seq' ?_;refine GC.sr_ ?_
 obtain ⟨ht10, hu10, hv10, hw10, hx10⟩ := mnumF_rng hs10
 obtain ⟨ht15, hu15, hv15, hw15, hx15⟩ := mnumF_rng hs15
 obtain ⟨ht19, hu19, hv19, hw19, hx19⟩ := mnumF_rng hs19
 obtain ⟨ht23, hu23, hv23, hw23, hx23⟩ := mnumF_rng hs23
 obtain ⟨ht27, hu27, hv27, hw27, hx27⟩ := mnumF_rng hs27
 have hM : mentF b at_ = (mentB b v10 v15 v19 v23 v27 t27).bind mentC := by simp only [mentF, hs10, hs15, hs19, hs23, hs27, Option.bind_some]
 have hv0 := mnumF_pos hs10 (by omega)
 refine GL.rn 1 ?_;refine GL.ld_ 1 ?_;refine GL.nl_ ?_;refine GC.block ?_;refine GC.rg 2 ?_;refine GC.co ?_ ?_
 ·intro h1; try simp only [tst_] at h1
  refine GC.seq' ?_;refine GC.regionM (m := 20) (M := fun a w => ∃ o45 : OpD, ∃ n45 : Nat, ∃ e45 : Int, ∃ A45 : Option Addr, ∃ c45 : Nat, ∃ B45 : Option Addr, ∃ d45 : Nat, ∃ b_t4 : Nat, ((e45 = 0 → decOp (seg b t27 b.length) = some (o45, n45)) ∧ (n45 ≤ (seg b t27 b.length).length ∧ (e45 ≠ 0 → decOp (seg b t27 b.length) = none)) ∧ o45.data.length ≤ c45 ∧ c45 ≤ 9223372036854775807 ∧ o45.old.length ≤ d45 ∧ d45 ≤ 9223372036854775807) ∧ St c 74 [(0, .pointer (some ⟨p, 0, none⟩)), (2, .pointer (some ⟨b_t2, 0, none⟩)), (3, .pointer (some ⟨b_t3, 0, none⟩)), (4, .pointer (some ⟨b_t4, 0, none⟩)), (5, .int .i64 (n45 : Int)), (6, .int .i64 e45)] [.cells p [.slice A b.length cp, .int .i64 (t27 : Int)] e_, .cells b_t3 [.int .u8 v10, .int .i64 v15, .int .i64 v19, .int .i64 v23, .int .i64 v27, .int .u8 0, .int .i64 0, .int .i64 0, .slice none 0 0, .slice none 0 0, .int .i64 0, .slice none 0 0] 64, .cells b_t2 [.int .u8 0, .int .i64 0, .int .i64 0, .int .i64 0, .int .i64 0, .int .u8 0, .int .i64 0, .int .i64 0, .slice none 0 0, .slice none 0 0, .int .i64 0, .slice none 0 0] 64, .cells b_t4 [.int .u8 o45.kind, .int .i64 o45.at_, .int .i64 o45.n, .slice A45 o45.data.length c45, .slice B45 o45.old.length d45] 27] [Pers.row Kd.u8 A45 o45.data, Pers.row Kd.u8 B45 o45.old, Pers.row Kd.u8 A b] a w) (is := [0, 0, 0]) (js := [0]) wide_ rfl rfl rfl ?_ ?_
  ·refine GA.tk 0 [0, 0, 0] [0] ?_;refine GA.tk 1 [0, 0, 0] [0] ?_;refine GA.tk 2 [0, 0, 0] [0] ?_;refine GA.tk 3 [0, 0, 0] [0] ?_;refine GA.tp 4 rfl [0, 0, 0] [0] (i_mem (m_load (i := 0) rfl rfl ag_25 rfl)) ?_;refine GA.tk 5 [0, 0, 0] [0] ?_
   refine GA.tk 6 [0, 0, 0] [0] ?_;refine GA.tk 7 [0, 0, 0] [0] ?_;refine GA.tk 8 [0, 0, 0] [0] ?_;refine GA.tp 9 rfl [0, 0, 0] [0] (i_mem (m_load (i := 0) rfl rfl ag_3 rfl)) ?_;refine GA.al [10, 16] ?_
   refine GAs.cons (i := 10) rfl rfl (t_cut_l (j := 0) rfl rfl rfl rfl Tryz.underlying25 sz_5 (by omega) (by omega) (by omega)) (by rintro a w h; exact h.me [0, 0, 0] [1]) ?_ ?_
   ·refine GA.al [11, 16] ?_
    refine GAs.cons (i := 11) rfl rfl (t_call rfl Tryz.call129 rfl (is := []) (js := [0]) rfl rfl (by exact decop_ct _ (seg b t27 b.length) _ (by rw [seg_to (by omega)]; omega) (by omega) (by rw [seg_to (by omega)]; omega))) (by rintro a w ⟨_, _, _, ⟨o45, n45, e45, A45, c45, B45, d45, hs45, hn45, l45, k45, m45, p45, rfl, rfl, rfl⟩, h⟩; exact h.me [0, 0, 0] [3]) (GA.ret ?_) ?_
    ·rintro _ _ _ ⟨o45, n45, e45, A45, c45, B45, d45, hs45, hn45, l45, k45, m45, p45, rfl, rfl, rfl⟩
     have hq45 := hn45.1
     rw [seg_to (by omega)] at hq45
     refine GA.tk 12 [0, 0, 0] [3] ?_;refine GA.tk 13 [0, 0, 0] [3] ?_;refine GA.tk 14 [0, 0, 0] [3] ?_;refine GA.tk 15 [0, 0, 0] [3] ?_;refine GA.al [16] ?_
     refine GAs.cons (i := 16) rfl rfl (t_alloc rfl ze_27) (by rintro a w ⟨_, h⟩; exact h.me [1, 1, 1] [3]) (GA.ex fun b_t4 => ?_) GAs.nil
     refine GA.al [17] ?_
     refine GAs.cons (i := 17) rfl rfl (t_storeN (i := 0) rfl rfl rfl sz_27 rfl rfl rfl) (by rintro a w h; exact h.me [1, 1, 1] [3]) ?_ GAs.nil
     refine GA.tk 18 [1, 1, 1] [3] ?_;refine GA.tk 19 [1, 1, 1] [3] ?_
     exact zq67_
    refine GAs.cons (i := 16) rfl rfl (t_alloc rfl ze_27) (by rintro a w ⟨_, h⟩; exact h.me [1, 1, 1] [1]) (GA.ex fun b_t4 => ?_) GAs.nil
    refine GA.al [11] ?_
    refine GAs.cons (i := 11) rfl rfl (t_call rfl Tryz.call129 rfl (is := []) (js := [0]) rfl rfl (by exact decop_ct _ (seg b t27 b.length) _ (by rw [seg_to (by omega)]; omega) (by omega) (by rw [seg_to (by omega)]; omega))) (by rintro a w ⟨_, _, _, ⟨o45, n45, e45, A45, c45, B45, d45, hs45, hn45, l45, k45, m45, p45, rfl, rfl, rfl⟩, h⟩; exact h.me [1, 1, 1] [3]) (GA.ret ?_) GAs.nil
    rintro _ _ _ ⟨o45, n45, e45, A45, c45, B45, d45, hs45, hn45, l45, k45, m45, p45, rfl, rfl, rfl⟩
    have hq45 := hn45.1
    rw [seg_to (by omega)] at hq45
    refine GA.tk 12 [1, 1, 1] [3] ?_;refine GA.tk 13 [1, 1, 1] [3] ?_;refine GA.tk 14 [1, 1, 1] [3] ?_;refine GA.tk 15 [1, 1, 1] [3] ?_;refine GA.al [17] ?_
    refine GAs.cons (i := 17) rfl rfl (t_storeN (i := 0) rfl rfl rfl sz_27 rfl rfl rfl) (by rintro a w h; exact h.me [1, 1, 1] [3]) ?_ GAs.nil
    refine GA.tk 18 [1, 1, 1] [3] ?_;refine GA.tk 19 [1, 1, 1] [3] ?_
    exact zq67_
   refine GAs.cons (i := 16) rfl rfl (t_alloc rfl ze_27) (by rintro a w ⟨_, h⟩; exact h.me [1, 1, 1] [0]) (GA.ex fun b_t4 => ?_) GAs.nil
   refine GA.al [10] ?_
   refine GAs.cons (i := 10) rfl rfl (t_cut_l (j := 0) rfl rfl rfl rfl Tryz.underlying25 sz_5 (by omega) (by omega) (by omega)) (by rintro a w h; exact h.me [1, 1, 1] [1]) ?_ GAs.nil
   refine GA.al [11] ?_
   refine GAs.cons (i := 11) rfl rfl (t_call rfl Tryz.call129 rfl (is := []) (js := [0]) rfl rfl (by exact decop_ct _ (seg b t27 b.length) _ (by rw [seg_to (by omega)]; omega) (by omega) (by rw [seg_to (by omega)]; omega))) (by rintro a w ⟨_, _, _, ⟨o45, n45, e45, A45, c45, B45, d45, hs45, hn45, l45, k45, m45, p45, rfl, rfl, rfl⟩, h⟩; exact h.me [1, 1, 1] [3]) (GA.ret ?_) GAs.nil
   rintro _ _ _ ⟨o45, n45, e45, A45, c45, B45, d45, hs45, hn45, l45, k45, m45, p45, rfl, rfl, rfl⟩
   have hq45 := hn45.1
   rw [seg_to (by omega)] at hq45
   refine GA.tk 12 [1, 1, 1] [3] ?_;refine GA.tk 13 [1, 1, 1] [3] ?_;refine GA.tk 14 [1, 1, 1] [3] ?_;refine GA.tk 15 [1, 1, 1] [3] ?_;refine GA.al [17] ?_
   refine GAs.cons (i := 17) rfl rfl (t_storeN (i := 0) rfl rfl rfl sz_27 rfl rfl rfl) (by rintro a w h; exact h.me [1, 1, 1] [3]) ?_ GAs.nil
   refine GA.tk 18 [1, 1, 1] [3] ?_;refine GA.tk 19 [1, 1, 1] [3] ?_
   exact zq67_
  refine (?_ : GC _ _ _ _)
  refine GC.ex fun o45 => GC.ex fun n45 => GC.ex fun e45 => GC.ex fun A45 => GC.ex fun c45 => GC.ex fun B45 => GC.ex fun d45 => GC.ex fun b_t4 => GC.and fun ⟨hs45, hn45, l45, k45, m45, p45⟩ => ?_;refine GC.sr_ ?_
  have hq45 := hn45.1
  rw [seg_to (by omega)] at hq45
  refine GL.rn 1 ?_;refine GL.callP rfl Tryz.call159 rfl (is := []) (js := []) rfl rfl (by exact (must_ct _).mono (fun _ _ _ h => h) (fun _ h => ⟨⟨_, h⟩, by rw [hM, mentB, if_pos (by assumption), hn45.2 h.1]; rfl⟩)) (fun v a w he h => FinP.panic he h) (GL.ret ?_)
  rintro _ _ _ ⟨he50, rfl, rfl, rfl⟩
  have hd45 := hs45 he50
  refine GL.nl_ ?_;refine GC.sr_ ?_;refine GL.ln_ 3 5 ?_;refine GL.rn 1 ?_;refine GL.sn_ 1 ?_;refine GL.nl_ ?_;refine GC.region ?_;refine GL.rn 4 ?_;refine GL.ld_ 0 ?_;refine GL.rn 1 ?_;refine GL.pure rfl (p_add rfl rfl (w64 (by omega) (by omega))) ?_
  refine GL.rn 3 ?_;refine GL.so_ 0 ?_
  refine GL.nil (?_ : GC _ _ _ _)
  refine GC.seq' ?_;refine GC.sr_ ?_;refine GL.know (q := Pers.row Kd.u8 none []) (fun _ _ _ => .inl rfl) ?_;refine GL.know (q := Pers.row kI none []) (fun _ _ _ => .inl rfl) ?_;refine GL.ln_ 1 12 ?_
  have hBX : mentB b v10 v15 v19 v23 v27 t27 = some ((⟨v10, v15, v19, v23, v27, o45, zgr⟩ : Entry), t27 + n45) := by rw [mentB, if_pos (by assumption), hd45]; rfl
  have hMB := hM
  rw [hBX, Option.bind_some] at hMB
  refine GL.cl Tryz.call112 [] [2, 3, 0] rfl rfl rfl (by exact ment_ct (⟨v10, v15, v19, v23, v27, o45, zgr⟩ : Entry) _ _ _ _ _ _ (by simp [zgr])) ?_
  rintro _ _ _ ⟨rfl, rfl, rfl⟩
  refine GL.rz 1 ?_;refine GC.co ?_ ?_
  ·intro h2; try simp only [tst_] at h2
   refine GC.region ?_;refine GL.pure rfl (p_build ze_200 of_200 rfl rfl) ?_;refine GL.pure rfl (p_mkIface Tryz.underlying200 (fun m h => by cases h) rfl) ?_;refine GL.panicN rfl (fun a w h => ?_)
   exact zq68_
  intro h2; try simp only [tst_] at h2
  refine GC.skip (?_ : GC _ _ _ _)
  refine GC.sr_ ?_;refine GL.ln_ 1 12 ?_;refine GL.sn_ 2 ?_;refine GL.nl_ ?_;refine GC.ret (FinP.c0 2 64 2 12 [0] [2, 3, 0] ?_)
  exact ⟨_, _, by rw [hMB, mentC]; exact if_pos (by assumption), by omega, ⟨A45, c45, B45, d45, none, 0, l45, k45, m45, p45, by simp [zgr], by omega, rfl, rfl⟩, rfl⟩
 intro h1; try simp only [tst_] at h1
 refine GC.rg 2 ?_;refine GC.co ?_ ?_
 ·intro h3; try simp only [tst_] at h3
  refine GC.region ?_;refine GL.rn 1 ?_;refine GL.callP rfl Tryz.call160 rfl (is := [0]) (js := [0]) rfl rfl (by exact (mgrp_ct _ _ _ b _ t27 (by omega) (by omega) (by omega)).mono (fun _ _ _ h => h) (fun _ h => ⟨h.1, by rw [hM, mentB, if_neg (by omega), if_pos (by assumption), h.2]; rfl⟩)) (fun v a w he h => FinP.panic he h) (GL.ret ?_)
  rintro _ _ _ ⟨g66, t66, A66, c66, hs66, ht66, l66, m66, rfl, rfl, rfl⟩
  refine GL.rn 1 ?_;refine GL.sn_ 1 ?_
  refine GL.nil (?_ : GC _ _ _ _)
  refine GC.seq' ?_;refine GC.sr_ ?_;refine GL.know (q := Pers.row Kd.u8 none []) (fun _ _ _ => .inl rfl) ?_;refine GL.know (q := Pers.row kI none []) (fun _ _ _ => .inl rfl) ?_;refine GL.ln_ 1 12 ?_
  have hBX : mentB b v10 v15 v19 v23 v27 t27 = some ((⟨v10, v15, v19, v23, v27, zop, g66⟩ : Entry), t66) := by rw [mentB, if_neg (by omega), if_pos (by assumption), hs66]; rfl
  have hMB := hM
  rw [hBX, Option.bind_some] at hMB
  refine GL.cl Tryz.call112 [] [1, 1, 2] rfl rfl rfl (by exact ment_ct (⟨v10, v15, v19, v23, v27, zop, g66⟩ : Entry) _ _ _ _ _ _ (by show g66.members.length ≤ 140737488355328; omega)) ?_
  rintro _ _ _ ⟨rfl, rfl, rfl⟩
  refine GL.rz 1 ?_;refine GC.co ?_ ?_
  ·intro h4; try simp only [tst_] at h4
   refine GC.region ?_;refine GL.pure rfl (p_build ze_200 of_200 rfl rfl) ?_;refine GL.pure rfl (p_mkIface Tryz.underlying200 (fun m h => by cases h) rfl) ?_;refine GL.panicN rfl (fun a w h => ?_)
   exact zq68_
  intro h4; try simp only [tst_] at h4
  refine GC.skip (?_ : GC _ _ _ _)
  refine GC.sr_ ?_;refine GL.ln_ 1 12 ?_;refine GL.sn_ 2 ?_;refine GL.nl_ ?_;refine GC.ret (FinP.c0 2 64 2 12 [0] [1, 1, 2] ?_)
  exact ⟨_, _, by rw [hMB, mentC]; exact if_pos (by assumption), by omega, ⟨none, 0, none, 0, A66, c66, by simp [zop], by omega, by simp [zop], by omega, l66, m66, rfl, rfl⟩, rfl⟩
 intro h3; try simp only [tst_] at h3
 refine GC.skip (?_ : GC _ _ _ _)
 refine GC.seq' ?_;refine GC.sr_ ?_;refine GL.know (q := Pers.row Kd.u8 none []) (fun _ _ _ => .inl rfl) ?_;refine GL.know (q := Pers.row kI none []) (fun _ _ _ => .inl rfl) ?_;refine GL.ln_ 1 12 ?_
 have hBX : mentB b v10 v15 v19 v23 v27 t27 = some ((⟨v10, v15, v19, v23, v27, zop, zgr⟩ : Entry), t27) := by rw [mentB, if_neg (by omega), if_neg (by omega)]
 have hMB := hM
 rw [hBX, Option.bind_some] at hMB
 refine GL.cl Tryz.call112 [] [1, 1, 0] rfl rfl rfl (by exact ment_ct (⟨v10, v15, v19, v23, v27, zop, zgr⟩ : Entry) _ _ _ _ _ _ (by simp [zgr])) ?_
 rintro _ _ _ ⟨rfl, rfl, rfl⟩
 refine GL.rz 1 ?_;refine GC.co ?_ ?_
 ·intro h5; try simp only [tst_] at h5
  refine GC.region ?_;refine GL.pure rfl (p_build ze_200 of_200 rfl rfl) ?_;refine GL.pure rfl (p_mkIface Tryz.underlying200 (fun m h => by cases h) rfl) ?_;refine GL.panicN rfl (fun a w h => ?_)
  exact zq68_
 intro h5; try simp only [tst_] at h5
 refine GC.skip (?_ : GC _ _ _ _)
 refine GC.sr_ ?_;refine GL.ln_ 1 12 ?_;refine GL.sn_ 2 ?_;refine GL.nl_ ?_;refine GC.ret (FinP.c0 2 64 2 12 [0] [1, 1, 0] ?_)
 exact ⟨_, _, by rw [hMB, mentC]; exact if_pos (by assumption), by omega, ⟨none, 0, none, 0, none, 0, by simp [zop], by omega, by simp [zop], by omega, by simp [zgr], by omega, rfl, rfl⟩, rfl⟩
def mpgF (b : List UInt8) (t : Nat) : Option (Page × Nat) := (mnumF b t 4).bind fun a => (mnumF b a.2 8).bind fun v => (mtxF b v.2).map fun d => (⟨a.1, v.1, d.1⟩, d.2)
def mrowF (b : List UInt8) (t : Nat) : Option (Row × Nat) := (mnumF b t 8).bind fun c => (mnumF b c.2 8).bind fun s => (decRes (seg b s.2 b.length)).map fun r => (⟨c.1, s.1, r.1⟩, s.2 + r.2)
def mstC (r : Stt × Nat) : Option (Stt × Nat) := if heldOk r.1 ∧ r.2 ≤ 33554432 then some r else none
def mstF (b : List UInt8) (at_ : Nat) : Option (Stt × Nat) :=
  (mnumF b at_ 8).bind fun n => (mnumF b n.2 4).bind fun bl => (mnumF b bl.2 4).bind fun sz => (mnumF b sz.2 4).bind fun pc => (manyF (mpgF b) pc.2 pc.1.toNat).bind fun ps => (mnumF b ps.2 1).bind fun rc => (manyF (mrowF b) rc.2 rc.1.toNat).bind fun rs => (mgrpF b rs.2).bind fun g => mstC (⟨n.1, ⟨bl.1, sz.1⟩, ps.1, rs.1, g.1⟩, g.2)
theorem decRes_len {b : List UInt8} {o : Res} {n : Nat} (h : decRes b = some (o, n)) : o.data.length ≤ 262144 := by
  unfold decRes at h
  split at h
  · rename_i hh
    rw [← (Prod.mk.inj (Option.some.inj h)).1]
    exact (res_rng hh.2).2.2
  · cases h
abbrev SttR (s : Stt) (u : Value) (Q : List Pers) : Prop := ∃ A cp B cq C cr, s.pages.length ≤ cp ∧ cp ≤ 9223372036854775807 ∧ s.rows.length ≤ cq ∧ cq ≤ 9223372036854775807 ∧ s.grp.members.length ≤ cr ∧ cr ≤ 9223372036854775807 ∧ u = sttV s A cp B cq C cr ∧ Q = sttQ s A B C
theorem zq69_ {X : Prop} (h : X := by (exact GX.done (by kernel_rfl) (fun a w h => ⟨_, _, _, _, _, _, _, ⟨hs13, hs17, hs21⟩, h.cut (is := [0, 0, 0]) (js := [0]) ⟨rfl, rfl, rfl, trivial⟩ rfl rfl⟩))) : X := h
theorem zq70_ {X : Prop} (h : X := by (exact fun a w h => ⟨(k + 1), (ps ++ [(⟨v35, v39, x43⟩ : Page)]), (_), (_), (_), (by omega), ⟨⟨by simp; omega, by omega⟩, by omega, manyF_next hk.2.2.1 (show mpgF b t = some _ from by simp only [mpgF, hs35, hs39, Option.bind_some, hs43, Option.map_some]), fun p hp => by rcases List.mem_append.1 hp with hp | hp; exact hk.2.2.2 p hp; rw [List.mem_singleton.1 hp]; exact hx43⟩, by rw [List.length_append]; exact h.cut (is := [1, 1, 1, 1]) (js := [0, 3]) ⟨rfl, rfl, rfl, rfl, rfl, trivial⟩ rfl rfl⟩)) : X := h
theorem zq71_ {X : Prop} (h : X := by (exact GX.done (by kernel_rfl) (fun a w h => ⟨_, _, _, _, _, ⟨hs58, hs62⟩, h.cut (is := [0, 1, 2, 1, 0]) (js := [0, 1, 2]) ⟨rfl, rfl, rfl, rfl, rfl, rfl, trivial⟩ rfl rfl⟩))) : X := h
theorem zq72_ {X : Prop} (h : X := by (exact GA.done (by kernel_rfl) (fun a w h => ⟨_, _, _, _, _, _, ⟨hs76, hn76, l76, k76⟩, h.cut (is := [1, 1, 1, 1, 1, 0]) (js := [0, 2, 3, 4]) ⟨rfl, rfl, rfl, rfl, rfl, rfl, rfl, rfl, rfl, trivial⟩ rfl rfl⟩))) : X := h
theorem zq73_ {X : Prop} (h : X := by (exact FinP.panic ⟨⟨_, by decide, rfl⟩, by rw [hM, mstC]; exact if_neg (fun hh => by first | exact absurd hh.1 (by assumption) | (have h2 : t102 ≤ 33554432 := hh.2; omega))⟩ h)) : X := h
theorem mstr_ct (p e_ : Nat) (A : Option Addr) (b : List UInt8) (cp at_ : Nat) (hb : b.length ≤ cp) (hcp' : cp ≤ 9223372036854775807) (hb' : b.length ≤ 10000000000000) (hat : at_ ≤ b.length) : CtP Tryz.prog 156 [.pointer (some ⟨p, 0, none⟩)] (mleftG p e_ A b cp at_) [Pers.row Kd.u8 A b]
    (fun u G Q => ∃ (s : Stt) (t : Nat), mstF b at_ = some (s, t) ∧ t ≤ b.length ∧ SttLen s ∧ SttR s u Q ∧ G = mleftG p e_ A b cp t) (fun v => mFault v ∧ mstF b at_ = none) := by
 have hp1 : (256 : Nat) ^ 1 = 256 := p256_1
 have hp4 : (256 : Nat) ^ 4 = 4294967296 := p256_4
 refine CtP.intro Tryz.func156 rfl rfl rfl (fun c hc => ?_)
 refine GC.sr_ ?_;refine GL.step rfl (t_alloc rfl ze_39) (GL.ex fun b_t2 => ?_);refine GL.nl_ ?_;refine GC.seq' ?_;refine GC.regionXM (m := 16) (M := fun a w => ∃ v13 : Int, ∃ t13 : Nat, ∃ v17 : Int, ∃ t17 : Nat, ∃ v21 : Int, ∃ t21 : Nat, ∃ b_t3 : Nat, (mnumF b at_ 8 = some (v13, t13) ∧ mnumF b t13 4 = some (v17, t17) ∧ mnumF b t17 4 = some (v21, t21)) ∧ St c 122 [(0, .pointer (some ⟨p, 0, none⟩)), (2, .pointer (some ⟨b_t2, 0, none⟩)), (3, .pointer (some ⟨b_t3, 0, none⟩))] [.cells p [.slice A b.length cp, .int .i64 (t21 : Int)] e_, .cells b_t3 [.int .i64 v13, .int .i64 v17, .int .i64 v21, .slice none 0 0, .slice none 0 0, .int .i64 0, .slice none 0 0] 39, .cells b_t2 [.int .i64 0, .int .i64 0, .int .i64 0, .slice none 0 0, .slice none 0 0, .int .i64 0, .slice none 0 0] 39] [Pers.row Kd.u8 A b] a w) (is := [0]) (js := [0]) wide_ rfl rfl rfl (fun _ _ _ hd hp hD => ⟨hd.trans hD, .inr hp⟩) ?_ ?_
 ·refine GX.tk 0 [0] [0] ?_
  refine GX.tk 1 [0] [0] ?_
  refine GX.tk 2 [0] [0] ?_
  refine GX.tk 4 [0] [0] ?_
  refine GX.tk 5 [0] [0] ?_
  refine GX.tk 6 [0] [0] ?_
  refine GX.tk 8 [0] [0] ?_
  refine GX.tk 9 [0] [0] ?_
  refine GX.tk 10 [0] [0] ?_
  refine GX.al [3, 14] ?_
  refine GXs.consP (i := 3) rfl rfl Tryz.call158 rfl (is := [1]) (js := [0]) rfl rfl (by exact (mlnum_ct _ _ _ b _ at_ 8 (by omega) (by omega) (by omega) (by omega) (by omega)).mono (fun _ _ _ h => h) (fun _ h => ⟨h.1, by simp only [mstF, h.2, Option.bind_none]⟩)) (by rintro a w ⟨_, _, _, ⟨v13, t13, hs13, rfl, rfl, rfl⟩, h⟩; exact h.me [1] [0]) (GX.ret ?_) ?_
  ·rintro _ _ _ ⟨v13, t13, hs13, rfl, rfl, rfl⟩
   obtain ⟨ht13, hu13, hv13, hw13, hx13⟩ := mnumF_rng hs13
   refine GX.al [7, 14] ?_
   refine GXs.consP (i := 7) rfl rfl Tryz.call158 rfl (is := [0]) (js := [0]) rfl rfl (by exact (mlnum_ct _ _ _ b _ t13 4 (by omega) (by omega) (by omega) (by omega) (by omega)).mono (fun _ _ _ h => h) (fun _ h => ⟨h.1, by simp only [mstF, hs13, Option.bind_some, h.2, Option.bind_none]⟩)) (by rintro a w ⟨_, _, _, ⟨v17, t17, hs17, rfl, rfl, rfl⟩, h⟩; exact h.me [1] [0]) (GX.ret ?_) ?_
   ·rintro _ _ _ ⟨v17, t17, hs17, rfl, rfl, rfl⟩
    obtain ⟨ht17, hu17, hv17, hw17, hx17⟩ := mnumF_rng hs17
    refine GX.al [11, 14] ?_
    refine GXs.consP (i := 11) rfl rfl Tryz.call158 rfl (is := [0]) (js := [0]) rfl rfl (by exact (mlnum_ct _ _ _ b _ t17 4 (by omega) (by omega) (by omega) (by omega) (by omega)).mono (fun _ _ _ h => h) (fun _ h => ⟨h.1, by simp only [mstF, hs13, hs17, Option.bind_some, h.2, Option.bind_none]⟩)) (by rintro a w ⟨_, _, _, ⟨v21, t21, hs21, rfl, rfl, rfl⟩, h⟩; exact h.me [1] [0]) (GX.ret ?_) ?_
    ·rintro _ _ _ ⟨v21, t21, hs21, rfl, rfl, rfl⟩
     obtain ⟨ht21, hu21, hv21, hw21, hx21⟩ := mnumF_rng hs21
     refine GX.tp 12 rfl [1] [0] (i_pure (p_build ze_35 of_35 rfl rfl)) ?_
     refine GX.tp 13 rfl [1] [0] (i_pure (p_build ze_39 of_39 rfl rfl)) ?_
     refine GX.al [14] ?_
     refine GXs.cons (i := 14) rfl rfl (t_alloc rfl ze_39) (by rintro a w ⟨_, h⟩; exact h.me [2] [0]) (GX.ex fun b_t3 => ?_) GXs.nil
     refine GX.al [15] ?_
     refine GXs.cons (i := 15) rfl rfl (t_storeN (i := 0) rfl rfl rfl sz_39 rfl rfl rfl) (by rintro a w h; exact h.me [2] [0]) ?_ GXs.nil
     exact GX.done (by kernel_rfl) (fun a w h => ⟨_, _, _, _, _, _, _, ⟨hs13, hs17, hs21⟩, h.cut (is := [1, 0, 0]) (js := [0]) ⟨rfl, rfl, rfl, trivial⟩ rfl rfl⟩)
    refine GXs.cons (i := 14) rfl rfl (t_alloc rfl ze_39) (by rintro a w ⟨_, h⟩; exact h.me [2] [0]) (GX.ex fun b_t3 => ?_) GXs.nil
    refine GX.al [11] ?_
    refine GXs.consP (i := 11) rfl rfl Tryz.call158 rfl (is := [1]) (js := [0]) rfl rfl (by exact (mlnum_ct _ _ _ b _ t17 4 (by omega) (by omega) (by omega) (by omega) (by omega)).mono (fun _ _ _ h => h) (fun _ h => ⟨h.1, by simp only [mstF, hs13, hs17, Option.bind_some, h.2, Option.bind_none]⟩)) (by rintro a w ⟨_, _, _, ⟨v21, t21, hs21, rfl, rfl, rfl⟩, h⟩; exact h.me [2] [0]) (GX.ret ?_) GXs.nil
    rintro _ _ _ ⟨v21, t21, hs21, rfl, rfl, rfl⟩
    obtain ⟨ht21, hu21, hv21, hw21, hx21⟩ := mnumF_rng hs21
    refine GX.tp 12 rfl [2] [0] (i_pure (p_build ze_35 of_35 rfl rfl)) ?_
    refine GX.tp 13 rfl [2] [0] (i_pure (p_build ze_39 of_39 rfl rfl)) ?_
    refine GX.al [15] ?_
    refine GXs.cons (i := 15) rfl rfl (t_storeN (i := 1) rfl rfl rfl sz_39 rfl rfl rfl) (by rintro a w h; exact h.me [2] [0]) ?_ GXs.nil
    exact zq69_
   refine GXs.cons (i := 14) rfl rfl (t_alloc rfl ze_39) (by rintro a w ⟨_, h⟩; exact h.me [2] [0]) (GX.ex fun b_t3 => ?_) GXs.nil
   refine GX.al [7] ?_
   refine GXs.consP (i := 7) rfl rfl Tryz.call158 rfl (is := [1]) (js := [0]) rfl rfl (by exact (mlnum_ct _ _ _ b _ t13 4 (by omega) (by omega) (by omega) (by omega) (by omega)).mono (fun _ _ _ h => h) (fun _ h => ⟨h.1, by simp only [mstF, hs13, Option.bind_some, h.2, Option.bind_none]⟩)) (by rintro a w ⟨_, _, _, ⟨v17, t17, hs17, rfl, rfl, rfl⟩, h⟩; exact h.me [2] [0]) (GX.ret ?_) GXs.nil
   rintro _ _ _ ⟨v17, t17, hs17, rfl, rfl, rfl⟩
   obtain ⟨ht17, hu17, hv17, hw17, hx17⟩ := mnumF_rng hs17
   refine GX.al [11] ?_
   refine GXs.consP (i := 11) rfl rfl Tryz.call158 rfl (is := [0]) (js := [0]) rfl rfl (by exact (mlnum_ct _ _ _ b _ t17 4 (by omega) (by omega) (by omega) (by omega) (by omega)).mono (fun _ _ _ h => h) (fun _ h => ⟨h.1, by simp only [mstF, hs13, hs17, Option.bind_some, h.2, Option.bind_none]⟩)) (by rintro a w ⟨_, _, _, ⟨v21, t21, hs21, rfl, rfl, rfl⟩, h⟩; exact h.me [2] [0]) (GX.ret ?_) GXs.nil
   rintro _ _ _ ⟨v21, t21, hs21, rfl, rfl, rfl⟩
   obtain ⟨ht21, hu21, hv21, hw21, hx21⟩ := mnumF_rng hs21
   refine GX.tp 12 rfl [2] [0] (i_pure (p_build ze_35 of_35 rfl rfl)) ?_
   refine GX.tp 13 rfl [2] [0] (i_pure (p_build ze_39 of_39 rfl rfl)) ?_
   refine GX.al [15] ?_
   refine GXs.cons (i := 15) rfl rfl (t_storeN (i := 1) rfl rfl rfl sz_39 rfl rfl rfl) (by rintro a w h; exact h.me [2] [0]) ?_ GXs.nil
   exact zq69_
  refine GXs.cons (i := 14) rfl rfl (t_alloc rfl ze_39) (by rintro a w ⟨_, h⟩; exact h.me [1] [0]) (GX.ex fun b_t3 => ?_) GXs.nil
  refine GX.al [3] ?_
  refine GXs.consP (i := 3) rfl rfl Tryz.call158 rfl (is := [2]) (js := [0]) rfl rfl (by exact (mlnum_ct _ _ _ b _ at_ 8 (by omega) (by omega) (by omega) (by omega) (by omega)).mono (fun _ _ _ h => h) (fun _ h => ⟨h.1, by simp only [mstF, h.2, Option.bind_none]⟩)) (by rintro a w ⟨_, _, _, ⟨v13, t13, hs13, rfl, rfl, rfl⟩, h⟩; exact h.me [2] [0]) (GX.ret ?_) GXs.nil
  rintro _ _ _ ⟨v13, t13, hs13, rfl, rfl, rfl⟩
  obtain ⟨ht13, hu13, hv13, hw13, hx13⟩ := mnumF_rng hs13
  refine GX.al [7] ?_
  refine GXs.consP (i := 7) rfl rfl Tryz.call158 rfl (is := [0]) (js := [0]) rfl rfl (by exact (mlnum_ct _ _ _ b _ t13 4 (by omega) (by omega) (by omega) (by omega) (by omega)).mono (fun _ _ _ h => h) (fun _ h => ⟨h.1, by simp only [mstF, hs13, Option.bind_some, h.2, Option.bind_none]⟩)) (by rintro a w ⟨_, _, _, ⟨v17, t17, hs17, rfl, rfl, rfl⟩, h⟩; exact h.me [2] [0]) (GX.ret ?_) GXs.nil
  rintro _ _ _ ⟨v17, t17, hs17, rfl, rfl, rfl⟩
  obtain ⟨ht17, hu17, hv17, hw17, hx17⟩ := mnumF_rng hs17
  refine GX.al [11] ?_
  refine GXs.consP (i := 11) rfl rfl Tryz.call158 rfl (is := [0]) (js := [0]) rfl rfl (by exact (mlnum_ct _ _ _ b _ t17 4 (by omega) (by omega) (by omega) (by omega) (by omega)).mono (fun _ _ _ h => h) (fun _ h => ⟨h.1, by simp only [mstF, hs13, hs17, Option.bind_some, h.2, Option.bind_none]⟩)) (by rintro a w ⟨_, _, _, ⟨v21, t21, hs21, rfl, rfl, rfl⟩, h⟩; exact h.me [2] [0]) (GX.ret ?_) GXs.nil
  rintro _ _ _ ⟨v21, t21, hs21, rfl, rfl, rfl⟩
  obtain ⟨ht21, hu21, hv21, hw21, hx21⟩ := mnumF_rng hs21
  refine GX.tp 12 rfl [2] [0] (i_pure (p_build ze_35 of_35 rfl rfl)) ?_
  refine GX.tp 13 rfl [2] [0] (i_pure (p_build ze_39 of_39 rfl rfl)) ?_
  refine GX.al [15] ?_
  refine GXs.cons (i := 15) rfl rfl (t_storeN (i := 1) rfl rfl rfl sz_39 rfl rfl rfl) (by rintro a w h; exact h.me [2] [0]) ?_ GXs.nil
  exact zq69_
 refine (?_ : GC _ _ _ _)
 refine GC.ex fun v13 => GC.ex fun t13 => GC.ex fun v17 => GC.ex fun t17 => GC.ex fun v21 => GC.ex fun t21 => GC.ex fun b_t3 => GC.and fun ⟨hs13, hs17, hs21⟩ => ?_;refine GC.seq' ?_;refine GC.sr_ ?_
 obtain ⟨ht13, hu13, hv13, hw13, hx13⟩ := mnumF_rng hs13
 obtain ⟨ht17, hu17, hv17, hw17, hx17⟩ := mnumF_rng hs17
 obtain ⟨ht21, hu21, hv21, hw21, hx21⟩ := mnumF_rng hs21
 refine GL.rn 3 ?_;refine GL.callP rfl Tryz.call158 rfl (is := [0]) (js := [0]) rfl rfl (by exact (mlnum_ct _ _ _ b _ t21 4 (by omega) (by omega) (by omega) (by omega) (by omega)).mono (fun _ _ _ h => h) (fun _ h => ⟨h.1, by simp only [mstF, hs13, hs17, hs21, Option.bind_some, h.2, Option.bind_none]⟩)) (fun v a w he h => FinP.panic he h) (GL.ret ?_)
 rintro _ _ _ ⟨v27, t27, hs27, rfl, rfl, rfl⟩
 obtain ⟨ht27, hu27, hv27, hw27, hx27⟩ := mnumF_rng hs27
 have hpos := mnumF_pos hs27 (by omega)
 refine GL.nilrow 59 3 ?_;refine GL.know (q := Pers.reps kPage [] []) (fun _ _ _ => rfl) ?_;refine GL.rz 1 ?_;refine GC.block ?_;refine GC.loopK5 (ks := [0, 2, 3, 27]) (is := [3]) (js := [1]) (fun (k : Nat) (ps : List Page) (V : Value) (cs : List Value) (t : Nat) => (ps.length = k ∧ t ≤ b.length) ∧ (k : Int) ≤ v27 ∧ manyF (mpgF b) t27 k = some (ps, t) ∧ ∀ p ∈ ps, p.data.length ≤ 16777216) (fun (k : Nat) (ps : List Page) (V : Value) (cs : List Value) (t : Nat) => [(28, .int .i64 (k : Int))]) (fun (k : Nat) (ps : List Page) (V : Value) (cs : List Value) (t : Nat) => [.cells p [.slice A b.length cp, .int .i64 (t : Int)] e_, .cells b_t3 [.int .i64 v13, .int .i64 v17, .int .i64 v21, V, .slice none 0 0, .int .i64 0, .slice none 0 0] 39, .row V 59 3 ps.length cs]) (fun (k : Nat) (ps : List Page) (V : Value) (cs : List Value) (t : Nat) => [Pers.reps kPage ps cs]) (fun (k : Nat) (ps : List Page) (V : Value) (cs : List Value) (t : Nat) => v27.toNat - k) (0) ([]) (_) ([]) (t27) rfl rfl rfl (fun a w h => ⟨⟨⟨rfl, by omega⟩, by omega, rfl, by simp⟩, h.cutK (is := [1, 1, 0, 0]) (js := [0, 1]) (ks := [0, 2, 3, 27]) ⟨rfl, trivial⟩ rfl rfl rfl⟩) ?_
 intro k ps V cs t hk
 try dsimp only [List.cons_append, List.nil_append] at hk ⊢
 refine GC.rg 1 ?_;refine GC.seq' ?_;refine GC.co ?_ ?_
 ·intro h1; try simp only [tst_] at h1
  refine GC.skip (?_ : GC _ _ _ _)
  refine GC.seq' ?_;refine GC.block ?_;refine GC.regionX (m := 19) (is := [3]) (js := [0, 1]) wide_ rfl rfl rfl (fun _ _ _ hd hp hD => ⟨hd.trans hD, .inr hp⟩) ?_
  refine GX.tk 0 [3] [0, 1] ?_
  refine GX.tk 2 [3] [0, 1] ?_
  refine GX.tk 3 [3] [0, 1] ?_
  refine GX.tk 4 [3] [0, 1] ?_
  refine GX.tk 6 [3] [0, 1] ?_
  refine GX.tk 7 [3] [0, 1] ?_
  refine GX.tk 8 [3] [0, 1] ?_
  refine GX.tk 10 [3] [0, 1] ?_
  refine GX.tk 11 [3] [0, 1] ?_
  refine GX.tk 12 [3] [0, 1] ?_
  refine GX.al [1, 5] ?_
  refine GXs.cons (i := 1) rfl rfl (t_mem rfl (m_load (i := 1) rfl rfl ag_36 rfl)) (by rintro a w h; exact h.me [3] [0, 1]) ?_ ?_
  ·refine GX.al [5] ?_
   refine GXs.consP (i := 5) rfl rfl Tryz.call158 rfl (is := [0]) (js := [1]) rfl rfl (by exact (mlnum_ct _ _ _ b _ t 4 (by omega) (by omega) (by omega) (by omega) (by omega)).mono (fun _ _ _ h => h) (fun _ h => ⟨h.1, by simp only [mstF, hs13, hs17, hs21, hs27, Option.bind_some]; rw [manyF_fail hk.2.2.1 (show mpgF b t = none from by simp only [mpgF, h.2, Option.bind_none]) (by omega)]; rfl⟩)) (by rintro a w ⟨_, _, _, ⟨v35, t35, hs35, rfl, rfl, rfl⟩, h⟩; exact h.me [3] [0, 1]) (GX.ret ?_) GXs.nil
   rintro _ _ _ ⟨v35, t35, hs35, rfl, rfl, rfl⟩
   obtain ⟨ht35, hu35, hv35, hw35, hx35⟩ := mnumF_rng hs35
   refine GX.al [9] ?_
   refine GXs.consP (i := 9) rfl rfl Tryz.call158 rfl (is := [0]) (js := [1]) rfl rfl (by exact (mlnum_ct _ _ _ b _ t35 8 (by omega) (by omega) (by omega) (by omega) (by omega)).mono (fun _ _ _ h => h) (fun _ h => ⟨h.1, by simp only [mstF, hs13, hs17, hs21, hs27, Option.bind_some]; rw [manyF_fail hk.2.2.1 (show mpgF b t = none from by simp only [mpgF, hs35, Option.bind_some, h.2, Option.bind_none]) (by omega)]; rfl⟩)) (by rintro a w ⟨_, _, _, ⟨v39, t39, hs39, rfl, rfl, rfl⟩, h⟩; exact h.me [3] [0, 1]) (GX.ret ?_) GXs.nil
   rintro _ _ _ ⟨v39, t39, hs39, rfl, rfl, rfl⟩
   obtain ⟨ht39, hu39, hv39, hw39, hx39⟩ := mnumF_rng hs39
   refine GX.al [13] ?_
   refine GXs.consP (i := 13) rfl rfl Tryz.call171 rfl (is := [0]) (js := [1]) rfl rfl (by exact (mltext_ct _ _ _ b _ t39 (by omega) (by omega) (by omega) (by omega)).mono (fun _ _ _ h => h) (fun _ h => ⟨h.1, by simp only [mstF, hs13, hs17, hs21, hs27, Option.bind_some]; rw [manyF_fail hk.2.2.1 (show mpgF b t = none from by simp only [mpgF, hs35, hs39, Option.bind_some, h.2, Option.map_none]) (by omega)]; rfl⟩)) (by rintro a w ⟨_, _, _, ⟨x43, t43, A43, c43, hs43, l43, m43, rfl, rfl, rfl⟩, h⟩; exact h.me [3] [1, 2]) (GX.ret ?_) GXs.nil
   rintro _ _ _ ⟨x43, t43, A43, c43, hs43, l43, m43, rfl, rfl, rfl⟩
   obtain ⟨ht43, hx43⟩ := mtxF_rng hs43
   refine GX.tp 14 rfl [3] [1, 2] (i_pure (p_build ze_59 of_59 rfl rfl)) ?_
   refine GX.al [15] ?_
   refine GXs.cons (i := 15) rfl rfl (t_buildSlice rfl Tryz.underlying36 sz_59 ze_59 rfl rfl rfl rfl rfl rfl) (by rintro a w ⟨_, h⟩; exact h.me [4] [1, 2]) (GX.ex fun b_t45 => ?_) GXs.nil
   refine GX.al [16] ?_
   refine GXs.cons (i := 16) rfl rfl (t_append (i := 3) (k := 0) rfl el_36 rfl rfl rfl rfl rfl (allOne_mem rfl) (by first | (have := hk.1.1; omega) | (have := hj.1.1; omega)) (fun _ => rfl)) (by rintro a w ⟨_, h⟩; exact h.me [4] [1, 2]) (GX.ex fun v46 => ?_) GXs.nil
   refine GX.shape (i := 3) rfl (fun A_v46 c_v46 e_v46 l_v46 k_v46 => ?_)
   subst e_v46
   refine GX.tk 17 [4] [1, 2] ?_
   refine GX.snoc (j := 1) (js := [0]) (⟨v35, v39, x43⟩ : Page) ((), ((), (A43, c43))) rfl rfl ⟨trivial, trivial, l43, m43⟩ ?_
   refine GX.al [18] ?_
   refine GXs.cons (i := 18) rfl rfl (t_store (i := 2) rfl rfl rfl rfl sz_36 rfl rfl rfl) (by rintro a w h; exact h.me [4] [2, 3]) ?_ GXs.nil
   refine GX.done (by kernel_rfl) (?_ : GC _ _ _ _)
   refine GC.region ?_;refine GL.pure rfl (p_add rfl rfl (w64 (by omega) (by omega))) ?_;refine GL.rn 1 ?_;refine GL.nil ?_
   exact zq70_
  refine GXs.consP (i := 5) rfl rfl Tryz.call158 rfl (is := [0]) (js := [1]) rfl rfl (by exact (mlnum_ct _ _ _ b _ t 4 (by omega) (by omega) (by omega) (by omega) (by omega)).mono (fun _ _ _ h => h) (fun _ h => ⟨h.1, by simp only [mstF, hs13, hs17, hs21, hs27, Option.bind_some]; rw [manyF_fail hk.2.2.1 (show mpgF b t = none from by simp only [mpgF, h.2, Option.bind_none]) (by omega)]; rfl⟩)) (by rintro a w ⟨_, _, _, ⟨v35, t35, hs35, rfl, rfl, rfl⟩, h⟩; exact h.me [3] [0, 1]) (GX.ret ?_) GXs.nil
  rintro _ _ _ ⟨v35, t35, hs35, rfl, rfl, rfl⟩
  obtain ⟨ht35, hu35, hv35, hw35, hx35⟩ := mnumF_rng hs35
  refine GX.al [1, 9] ?_
  refine GXs.cons (i := 1) rfl rfl (t_mem rfl (m_load (i := 1) rfl rfl ag_36 rfl)) (by rintro a w h; exact h.me [3] [0, 1]) ?_ ?_
  ·refine GX.al [9] ?_
   refine GXs.consP (i := 9) rfl rfl Tryz.call158 rfl (is := [0]) (js := [1]) rfl rfl (by exact (mlnum_ct _ _ _ b _ t35 8 (by omega) (by omega) (by omega) (by omega) (by omega)).mono (fun _ _ _ h => h) (fun _ h => ⟨h.1, by simp only [mstF, hs13, hs17, hs21, hs27, Option.bind_some]; rw [manyF_fail hk.2.2.1 (show mpgF b t = none from by simp only [mpgF, hs35, Option.bind_some, h.2, Option.bind_none]) (by omega)]; rfl⟩)) (by rintro a w ⟨_, _, _, ⟨v39, t39, hs39, rfl, rfl, rfl⟩, h⟩; exact h.me [3] [0, 1]) (GX.ret ?_) GXs.nil
   rintro _ _ _ ⟨v39, t39, hs39, rfl, rfl, rfl⟩
   obtain ⟨ht39, hu39, hv39, hw39, hx39⟩ := mnumF_rng hs39
   refine GX.al [13] ?_
   refine GXs.consP (i := 13) rfl rfl Tryz.call171 rfl (is := [0]) (js := [1]) rfl rfl (by exact (mltext_ct _ _ _ b _ t39 (by omega) (by omega) (by omega) (by omega)).mono (fun _ _ _ h => h) (fun _ h => ⟨h.1, by simp only [mstF, hs13, hs17, hs21, hs27, Option.bind_some]; rw [manyF_fail hk.2.2.1 (show mpgF b t = none from by simp only [mpgF, hs35, hs39, Option.bind_some, h.2, Option.map_none]) (by omega)]; rfl⟩)) (by rintro a w ⟨_, _, _, ⟨x43, t43, A43, c43, hs43, l43, m43, rfl, rfl, rfl⟩, h⟩; exact h.me [3] [1, 2]) (GX.ret ?_) GXs.nil
   rintro _ _ _ ⟨x43, t43, A43, c43, hs43, l43, m43, rfl, rfl, rfl⟩
   obtain ⟨ht43, hx43⟩ := mtxF_rng hs43
   refine GX.tp 14 rfl [3] [1, 2] (i_pure (p_build ze_59 of_59 rfl rfl)) ?_
   refine GX.al [15] ?_
   refine GXs.cons (i := 15) rfl rfl (t_buildSlice rfl Tryz.underlying36 sz_59 ze_59 rfl rfl rfl rfl rfl rfl) (by rintro a w ⟨_, h⟩; exact h.me [4] [1, 2]) (GX.ex fun b_t45 => ?_) GXs.nil
   refine GX.al [16] ?_
   refine GXs.cons (i := 16) rfl rfl (t_append (i := 3) (k := 0) rfl el_36 rfl rfl rfl rfl rfl (allOne_mem rfl) (by first | (have := hk.1.1; omega) | (have := hj.1.1; omega)) (fun _ => rfl)) (by rintro a w ⟨_, h⟩; exact h.me [4] [1, 2]) (GX.ex fun v46 => ?_) GXs.nil
   refine GX.shape (i := 3) rfl (fun A_v46 c_v46 e_v46 l_v46 k_v46 => ?_)
   subst e_v46
   refine GX.tk 17 [4] [1, 2] ?_
   refine GX.snoc (j := 1) (js := [0]) (⟨v35, v39, x43⟩ : Page) ((), ((), (A43, c43))) rfl rfl ⟨trivial, trivial, l43, m43⟩ ?_
   refine GX.al [18] ?_
   refine GXs.cons (i := 18) rfl rfl (t_store (i := 2) rfl rfl rfl rfl sz_36 rfl rfl rfl) (by rintro a w h; exact h.me [4] [2, 3]) ?_ GXs.nil
   refine GX.done (by kernel_rfl) (?_ : GC _ _ _ _)
   refine GC.region ?_;refine GL.pure rfl (p_add rfl rfl (w64 (by omega) (by omega))) ?_;refine GL.rn 1 ?_;refine GL.nil ?_
   exact zq70_
  refine GXs.consP (i := 9) rfl rfl Tryz.call158 rfl (is := [0]) (js := [1]) rfl rfl (by exact (mlnum_ct _ _ _ b _ t35 8 (by omega) (by omega) (by omega) (by omega) (by omega)).mono (fun _ _ _ h => h) (fun _ h => ⟨h.1, by simp only [mstF, hs13, hs17, hs21, hs27, Option.bind_some]; rw [manyF_fail hk.2.2.1 (show mpgF b t = none from by simp only [mpgF, hs35, Option.bind_some, h.2, Option.bind_none]) (by omega)]; rfl⟩)) (by rintro a w ⟨_, _, _, ⟨v39, t39, hs39, rfl, rfl, rfl⟩, h⟩; exact h.me [3] [0, 1]) (GX.ret ?_) GXs.nil
  rintro _ _ _ ⟨v39, t39, hs39, rfl, rfl, rfl⟩
  obtain ⟨ht39, hu39, hv39, hw39, hx39⟩ := mnumF_rng hs39
  refine GX.al [1, 13] ?_
  refine GXs.cons (i := 1) rfl rfl (t_mem rfl (m_load (i := 1) rfl rfl ag_36 rfl)) (by rintro a w h; exact h.me [3] [0, 1]) ?_ ?_
  ·refine GX.al [13] ?_
   refine GXs.consP (i := 13) rfl rfl Tryz.call171 rfl (is := [0]) (js := [1]) rfl rfl (by exact (mltext_ct _ _ _ b _ t39 (by omega) (by omega) (by omega) (by omega)).mono (fun _ _ _ h => h) (fun _ h => ⟨h.1, by simp only [mstF, hs13, hs17, hs21, hs27, Option.bind_some]; rw [manyF_fail hk.2.2.1 (show mpgF b t = none from by simp only [mpgF, hs35, hs39, Option.bind_some, h.2, Option.map_none]) (by omega)]; rfl⟩)) (by rintro a w ⟨_, _, _, ⟨x43, t43, A43, c43, hs43, l43, m43, rfl, rfl, rfl⟩, h⟩; exact h.me [3] [1, 2]) (GX.ret ?_) GXs.nil
   rintro _ _ _ ⟨x43, t43, A43, c43, hs43, l43, m43, rfl, rfl, rfl⟩
   obtain ⟨ht43, hx43⟩ := mtxF_rng hs43
   refine GX.tp 14 rfl [3] [1, 2] (i_pure (p_build ze_59 of_59 rfl rfl)) ?_
   refine GX.al [15] ?_
   refine GXs.cons (i := 15) rfl rfl (t_buildSlice rfl Tryz.underlying36 sz_59 ze_59 rfl rfl rfl rfl rfl rfl) (by rintro a w ⟨_, h⟩; exact h.me [4] [1, 2]) (GX.ex fun b_t45 => ?_) GXs.nil
   refine GX.al [16] ?_
   refine GXs.cons (i := 16) rfl rfl (t_append (i := 3) (k := 0) rfl el_36 rfl rfl rfl rfl rfl (allOne_mem rfl) (by first | (have := hk.1.1; omega) | (have := hj.1.1; omega)) (fun _ => rfl)) (by rintro a w ⟨_, h⟩; exact h.me [4] [1, 2]) (GX.ex fun v46 => ?_) GXs.nil
   refine GX.shape (i := 3) rfl (fun A_v46 c_v46 e_v46 l_v46 k_v46 => ?_)
   subst e_v46
   refine GX.tk 17 [4] [1, 2] ?_
   refine GX.snoc (j := 1) (js := [0]) (⟨v35, v39, x43⟩ : Page) ((), ((), (A43, c43))) rfl rfl ⟨trivial, trivial, l43, m43⟩ ?_
   refine GX.al [18] ?_
   refine GXs.cons (i := 18) rfl rfl (t_store (i := 2) rfl rfl rfl rfl sz_36 rfl rfl rfl) (by rintro a w h; exact h.me [4] [2, 3]) ?_ GXs.nil
   refine GX.done (by kernel_rfl) (?_ : GC _ _ _ _)
   refine GC.region ?_;refine GL.pure rfl (p_add rfl rfl (w64 (by omega) (by omega))) ?_;refine GL.rn 1 ?_;refine GL.nil ?_
   exact zq70_
  refine GXs.consP (i := 13) rfl rfl Tryz.call171 rfl (is := [0]) (js := [1]) rfl rfl (by exact (mltext_ct _ _ _ b _ t39 (by omega) (by omega) (by omega) (by omega)).mono (fun _ _ _ h => h) (fun _ h => ⟨h.1, by simp only [mstF, hs13, hs17, hs21, hs27, Option.bind_some]; rw [manyF_fail hk.2.2.1 (show mpgF b t = none from by simp only [mpgF, hs35, hs39, Option.bind_some, h.2, Option.map_none]) (by omega)]; rfl⟩)) (by rintro a w ⟨_, _, _, ⟨x43, t43, A43, c43, hs43, l43, m43, rfl, rfl, rfl⟩, h⟩; exact h.me [3] [1, 2]) (GX.ret ?_) GXs.nil
  rintro _ _ _ ⟨x43, t43, A43, c43, hs43, l43, m43, rfl, rfl, rfl⟩
  obtain ⟨ht43, hx43⟩ := mtxF_rng hs43
  refine GX.tp 14 rfl [3] [1, 2] (i_pure (p_build ze_59 of_59 rfl rfl)) ?_
  refine GX.al [1, 15] ?_
  refine GXs.cons (i := 1) rfl rfl (t_mem rfl (m_load (i := 1) rfl rfl ag_36 rfl)) (by rintro a w h; exact h.me [3] [1, 2]) ?_ ?_
  ·refine GX.al [15] ?_
   refine GXs.cons (i := 15) rfl rfl (t_buildSlice rfl Tryz.underlying36 sz_59 ze_59 rfl rfl rfl rfl rfl rfl) (by rintro a w ⟨_, h⟩; exact h.me [4] [1, 2]) (GX.ex fun b_t45 => ?_) GXs.nil
   refine GX.al [16] ?_
   refine GXs.cons (i := 16) rfl rfl (t_append (i := 3) (k := 0) rfl el_36 rfl rfl rfl rfl rfl (allOne_mem rfl) (by first | (have := hk.1.1; omega) | (have := hj.1.1; omega)) (fun _ => rfl)) (by rintro a w ⟨_, h⟩; exact h.me [4] [1, 2]) (GX.ex fun v46 => ?_) GXs.nil
   refine GX.shape (i := 3) rfl (fun A_v46 c_v46 e_v46 l_v46 k_v46 => ?_)
   subst e_v46
   refine GX.tk 17 [4] [1, 2] ?_
   refine GX.snoc (j := 1) (js := [0]) (⟨v35, v39, x43⟩ : Page) ((), ((), (A43, c43))) rfl rfl ⟨trivial, trivial, l43, m43⟩ ?_
   refine GX.al [18] ?_
   refine GXs.cons (i := 18) rfl rfl (t_store (i := 2) rfl rfl rfl rfl sz_36 rfl rfl rfl) (by rintro a w h; exact h.me [4] [2, 3]) ?_ GXs.nil
   refine GX.done (by kernel_rfl) (?_ : GC _ _ _ _)
   refine GC.region ?_;refine GL.pure rfl (p_add rfl rfl (w64 (by omega) (by omega))) ?_;refine GL.rn 1 ?_;refine GL.nil ?_
   exact zq70_
  refine GXs.cons (i := 15) rfl rfl (t_buildSlice rfl Tryz.underlying36 sz_59 ze_59 rfl rfl rfl rfl rfl rfl) (by rintro a w ⟨_, h⟩; exact h.me [4] [1, 2]) (GX.ex fun b_t45 => ?_) GXs.nil
  refine GX.al [1] ?_
  refine GXs.cons (i := 1) rfl rfl (t_mem rfl (m_load (i := 2) rfl rfl ag_36 rfl)) (by rintro a w h; exact h.me [4] [1, 2]) ?_ GXs.nil
  refine GX.al [16] ?_
  refine GXs.cons (i := 16) rfl rfl (t_append (i := 3) (k := 0) rfl el_36 rfl rfl rfl rfl rfl (allOne_mem rfl) (by first | (have := hk.1.1; omega) | (have := hj.1.1; omega)) (fun _ => rfl)) (by rintro a w ⟨_, h⟩; exact h.me [4] [1, 2]) (GX.ex fun v46 => ?_) GXs.nil
  refine GX.shape (i := 3) rfl (fun A_v46 c_v46 e_v46 l_v46 k_v46 => ?_)
  subst e_v46
  refine GX.tk 17 [4] [1, 2] ?_
  refine GX.snoc (j := 1) (js := [0]) (⟨v35, v39, x43⟩ : Page) ((), ((), (A43, c43))) rfl rfl ⟨trivial, trivial, l43, m43⟩ ?_
  refine GX.al [18] ?_
  refine GXs.cons (i := 18) rfl rfl (t_store (i := 2) rfl rfl rfl rfl sz_36 rfl rfl rfl) (by rintro a w h; exact h.me [4] [2, 3]) ?_ GXs.nil
  refine GX.done (by kernel_rfl) (?_ : GC _ _ _ _)
  refine GC.region ?_;refine GL.pure rfl (p_add rfl rfl (w64 (by omega) (by omega))) ?_;refine GL.rn 1 ?_;refine GL.nil ?_
  exact zq70_
 intro h1; try simp only [tst_] at h1
 refine GC.exit (?_ : GC _ _ _ _)
 refine GC.seq' ?_;refine GC.sr_ ?_
 obtain ⟨tP, htP⟩ : ∃ tP, tP = t := ⟨t, rfl⟩
 have hkP : manyF (mpgF b) t27 v27.toNat = some (ps, tP) := by rw [show v27.toNat = k by omega, htP]; exact hk.2.2.1
 have htP' : tP ≤ b.length := by omega
 subst htP
 refine GL.shape (i := 2) rfl (fun A_PG c_PG e_PG l_PG k_PG => ?_)
 subst e_PG
 refine GL.freezeR (i := 2) (j := 0) rfl rfl (by decide) ?_;refine GL.rn 3 ?_;refine GL.callP rfl Tryz.call158 rfl (is := [0]) (js := [2]) rfl rfl (by exact (mlnum_ct _ _ _ b _ tP 1 (by omega) (by omega) (by omega) (by omega) (by omega)).mono (fun _ _ _ h => h) (fun _ h => ⟨h.1, by simp only [mstF, hs13, hs17, hs21, hs27, hkP, Option.bind_some, h.2, Option.bind_none]⟩)) (fun v a w he h => FinP.panic he h) (GL.ret ?_)
 rintro _ _ _ ⟨v52, t52, hs52, rfl, rfl, rfl⟩
 obtain ⟨ht52, hu52, hv52, hw52, hx52⟩ := mnumF_rng hs52
 have hpos2 := mnumF_pos hs52 (by omega)
 refine GL.nilrow 61 4 ?_;refine GL.know (q := Pers.reps kRow [] []) (fun _ _ _ => rfl) ?_;refine GL.rz 1 ?_;refine GC.block ?_;refine GC.loopK5 (ks := [0, 2, 3, 52]) (is := [3]) (js := [1, 3]) (fun (k : Nat) (rs : List Row) (V : Value) (cs : List Value) (t : Nat) => (rs.length = k ∧ t ≤ b.length) ∧ (k : Int) ≤ v52 ∧ manyF (mrowF b) t52 k = some (rs, t) ∧ ∀ r ∈ rs, r.result.data.length ≤ 262144) (fun (k : Nat) (rs : List Row) (V : Value) (cs : List Value) (t : Nat) => [(53, .int .i64 (k : Int))]) (fun (k : Nat) (rs : List Row) (V : Value) (cs : List Value) (t : Nat) => [.cells p [.slice A b.length cp, .int .i64 (t : Int)] e_, .cells b_t3 [.int .i64 v13, .int .i64 v17, .int .i64 v21, .slice A_PG ps.length c_PG, V, .int .i64 0, .slice none 0 0] 39, .row V 61 4 rs.length cs]) (fun (k : Nat) (rs : List Row) (V : Value) (cs : List Value) (t : Nat) => [Pers.reps kRow rs cs]) (fun (k : Nat) (rs : List Row) (V : Value) (cs : List Value) (t : Nat) => v52.toNat - k) (0) ([]) (_) ([]) (t52) rfl rfl rfl (fun a w h => ⟨⟨⟨rfl, by omega⟩, by omega, rfl, by simp⟩, h.cutK (is := [1, 1, 0, 0]) (js := [0, 1, 3]) (ks := [0, 2, 3, 52]) ⟨rfl, trivial⟩ rfl rfl rfl⟩) ?_
 intro k rs V cs t hj
 try dsimp only [List.cons_append, List.nil_append] at hj ⊢
 refine GC.rg 1 ?_;refine GC.seq' ?_;refine GC.co ?_ ?_
 ·intro h2; try simp only [tst_] at h2
  refine GC.skip (?_ : GC _ _ _ _)
  refine GC.seq' ?_;refine GC.block ?_;refine GC.seq' ?_;refine GC.regionXM (m := 11) (M := fun a w => ∃ v58 : Int, ∃ t58 : Nat, ∃ v62 : Int, ∃ t62 : Nat, ∃ b_t4 : Nat, (mnumF b t 8 = some (v58, t58) ∧ mnumF b t58 8 = some (v62, t62)) ∧ St c 122 [(0, .pointer (some ⟨p, 0, none⟩)), (2, .pointer (some ⟨b_t2, 0, none⟩)), (3, .pointer (some ⟨b_t3, 0, none⟩)), (4, .pointer (some ⟨b_t4, 0, none⟩)), (52, .int .i64 v52), (53, .int .i64 (k : Int))] [.cells p [.slice A b.length cp, .int .i64 (t62 : Int)] e_, .cells b_t3 [.int .i64 v13, .int .i64 v17, .int .i64 v21, .slice A_PG ps.length c_PG, V, .int .i64 0, .slice none 0 0] 39, .cells b_t2 [.int .i64 0, .int .i64 0, .int .i64 0, .slice none 0 0, .slice none 0 0, .int .i64 0, .slice none 0 0] 39, .row V 61 4 rs.length cs, .cells b_t4 [.int .i64 v58, .int .i64 v62, .int .u8 0, .slice none 0 0] 61] [Pers.reps kRow rs cs, Pers.row kPage A_PG ps, Pers.row Kd.u8 A b] a w) (is := [1, 1, 1]) (js := [0, 1, 2]) wide_ rfl rfl rfl (fun _ _ _ hd hp hD => ⟨hd.trans hD, .inr hp⟩) ?_ ?_
  ·refine GX.tk 0 [1, 1, 1] [0, 1, 2] ?_
   refine GX.tk 1 [1, 1, 1] [0, 1, 2] ?_
   refine GX.tk 2 [1, 1, 1] [0, 1, 2] ?_
   refine GX.tk 4 [1, 1, 1] [0, 1, 2] ?_
   refine GX.tk 5 [1, 1, 1] [0, 1, 2] ?_
   refine GX.tk 6 [1, 1, 1] [0, 1, 2] ?_
   refine GX.al [3, 9] ?_
   refine GXs.consP (i := 3) rfl rfl Tryz.call158 rfl (is := [0]) (js := [2]) rfl rfl (by exact (mlnum_ct _ _ _ b _ t 8 (by omega) (by omega) (by omega) (by omega) (by omega)).mono (fun _ _ _ h => h) (fun _ h => ⟨h.1, by simp only [mstF, hs13, hs17, hs21, hs27, hkP, hs52, Option.bind_some]; rw [manyF_fail hj.2.2.1 (show mrowF b t = none from by simp only [mrowF, h.2, Option.bind_none]) (by omega)]; rfl⟩)) (by rintro a w ⟨_, _, _, ⟨v58, t58, hs58, rfl, rfl, rfl⟩, h⟩; exact h.me [1, 1, 1] [0, 1, 2]) (GX.ret ?_) ?_
   ·rintro _ _ _ ⟨v58, t58, hs58, rfl, rfl, rfl⟩
    obtain ⟨ht58, hu58, hv58, hw58, hx58⟩ := mnumF_rng hs58
    refine GX.al [7, 9] ?_
    refine GXs.consP (i := 7) rfl rfl Tryz.call158 rfl (is := [0]) (js := [2]) rfl rfl (by exact (mlnum_ct _ _ _ b _ t58 8 (by omega) (by omega) (by omega) (by omega) (by omega)).mono (fun _ _ _ h => h) (fun _ h => ⟨h.1, by simp only [mstF, hs13, hs17, hs21, hs27, hkP, hs52, Option.bind_some]; rw [manyF_fail hj.2.2.1 (show mrowF b t = none from by simp only [mrowF, hs58, Option.bind_some, h.2, Option.bind_none]) (by omega)]; rfl⟩)) (by rintro a w ⟨_, _, _, ⟨v62, t62, hs62, rfl, rfl, rfl⟩, h⟩; exact h.me [1, 1, 1] [0, 1, 2]) (GX.ret ?_) ?_
    ·rintro _ _ _ ⟨v62, t62, hs62, rfl, rfl, rfl⟩
     obtain ⟨ht62, hu62, hv62, hw62, hx62⟩ := mnumF_rng hs62
     refine GX.tp 8 rfl [1, 1, 1] [0, 1, 2] (i_pure (p_build ze_61 of_61 rfl rfl)) ?_
     refine GX.al [9] ?_
     refine GXs.cons (i := 9) rfl rfl (t_alloc rfl ze_61) (by rintro a w ⟨_, h⟩; exact h.me [2, 2, 2] [0, 1, 2]) (GX.ex fun b_t4 => ?_) GXs.nil
     refine GX.al [10] ?_
     refine GXs.cons (i := 10) rfl rfl (t_storeN (i := 0) rfl rfl rfl sz_61 rfl rfl rfl) (by rintro a w h; exact h.me [2, 2, 2] [0, 1, 2]) ?_ GXs.nil
     exact GX.done (by kernel_rfl) (fun a w h => ⟨_, _, _, _, _, ⟨hs58, hs62⟩, h.cut (is := [1, 1, 2, 1, 0]) (js := [0, 1, 2]) ⟨rfl, rfl, rfl, rfl, rfl, rfl, trivial⟩ rfl rfl⟩)
    refine GXs.cons (i := 9) rfl rfl (t_alloc rfl ze_61) (by rintro a w ⟨_, h⟩; exact h.me [2, 2, 2] [0, 1, 2]) (GX.ex fun b_t4 => ?_) GXs.nil
    refine GX.al [7] ?_
    refine GXs.consP (i := 7) rfl rfl Tryz.call158 rfl (is := [1]) (js := [2]) rfl rfl (by exact (mlnum_ct _ _ _ b _ t58 8 (by omega) (by omega) (by omega) (by omega) (by omega)).mono (fun _ _ _ h => h) (fun _ h => ⟨h.1, by simp only [mstF, hs13, hs17, hs21, hs27, hkP, hs52, Option.bind_some]; rw [manyF_fail hj.2.2.1 (show mrowF b t = none from by simp only [mrowF, hs58, Option.bind_some, h.2, Option.bind_none]) (by omega)]; rfl⟩)) (by rintro a w ⟨_, _, _, ⟨v62, t62, hs62, rfl, rfl, rfl⟩, h⟩; exact h.me [2, 2, 2] [0, 1, 2]) (GX.ret ?_) GXs.nil
    rintro _ _ _ ⟨v62, t62, hs62, rfl, rfl, rfl⟩
    obtain ⟨ht62, hu62, hv62, hw62, hx62⟩ := mnumF_rng hs62
    refine GX.tp 8 rfl [2, 2, 2] [0, 1, 2] (i_pure (p_build ze_61 of_61 rfl rfl)) ?_
    refine GX.al [10] ?_
    refine GXs.cons (i := 10) rfl rfl (t_storeN (i := 1) rfl rfl rfl sz_61 rfl rfl rfl) (by rintro a w h; exact h.me [2, 2, 2] [0, 1, 2]) ?_ GXs.nil
    exact zq71_
   refine GXs.cons (i := 9) rfl rfl (t_alloc rfl ze_61) (by rintro a w ⟨_, h⟩; exact h.me [2, 2, 2] [0, 1, 2]) (GX.ex fun b_t4 => ?_) GXs.nil
   refine GX.al [3] ?_
   refine GXs.consP (i := 3) rfl rfl Tryz.call158 rfl (is := [1]) (js := [2]) rfl rfl (by exact (mlnum_ct _ _ _ b _ t 8 (by omega) (by omega) (by omega) (by omega) (by omega)).mono (fun _ _ _ h => h) (fun _ h => ⟨h.1, by simp only [mstF, hs13, hs17, hs21, hs27, hkP, hs52, Option.bind_some]; rw [manyF_fail hj.2.2.1 (show mrowF b t = none from by simp only [mrowF, h.2, Option.bind_none]) (by omega)]; rfl⟩)) (by rintro a w ⟨_, _, _, ⟨v58, t58, hs58, rfl, rfl, rfl⟩, h⟩; exact h.me [2, 2, 2] [0, 1, 2]) (GX.ret ?_) GXs.nil
   rintro _ _ _ ⟨v58, t58, hs58, rfl, rfl, rfl⟩
   obtain ⟨ht58, hu58, hv58, hw58, hx58⟩ := mnumF_rng hs58
   refine GX.al [7] ?_
   refine GXs.consP (i := 7) rfl rfl Tryz.call158 rfl (is := [0]) (js := [2]) rfl rfl (by exact (mlnum_ct _ _ _ b _ t58 8 (by omega) (by omega) (by omega) (by omega) (by omega)).mono (fun _ _ _ h => h) (fun _ h => ⟨h.1, by simp only [mstF, hs13, hs17, hs21, hs27, hkP, hs52, Option.bind_some]; rw [manyF_fail hj.2.2.1 (show mrowF b t = none from by simp only [mrowF, hs58, Option.bind_some, h.2, Option.bind_none]) (by omega)]; rfl⟩)) (by rintro a w ⟨_, _, _, ⟨v62, t62, hs62, rfl, rfl, rfl⟩, h⟩; exact h.me [2, 2, 2] [0, 1, 2]) (GX.ret ?_) GXs.nil
   rintro _ _ _ ⟨v62, t62, hs62, rfl, rfl, rfl⟩
   obtain ⟨ht62, hu62, hv62, hw62, hx62⟩ := mnumF_rng hs62
   refine GX.tp 8 rfl [2, 2, 2] [0, 1, 2] (i_pure (p_build ze_61 of_61 rfl rfl)) ?_
   refine GX.al [10] ?_
   refine GXs.cons (i := 10) rfl rfl (t_storeN (i := 1) rfl rfl rfl sz_61 rfl rfl rfl) (by rintro a w h; exact h.me [2, 2, 2] [0, 1, 2]) ?_ GXs.nil
   exact zq71_
  refine (?_ : GC _ _ _ _)
  refine GC.ex fun v58 => GC.ex fun t58 => GC.ex fun v62 => GC.ex fun t62 => GC.ex fun b_t4 => GC.and fun ⟨hs58, hs62⟩ => ?_;refine GC.seq' ?_
  obtain ⟨ht58, hu58, hv58, hw58, hx58⟩ := mnumF_rng hs58
  obtain ⟨ht62, hu62, hv62, hw62, hx62⟩ := mnumF_rng hs62
  refine GC.regionM (m := 20) (M := fun a w => ∃ o76 : Res, ∃ n76 : Nat, ∃ e76 : Int, ∃ A76 : Option Addr, ∃ c76 : Nat, ∃ b_t5 : Nat, ((e76 = 0 → decRes (seg b t62 b.length) = some (o76, n76)) ∧ (n76 ≤ (seg b t62 b.length).length ∧ (e76 ≠ 0 → decRes (seg b t62 b.length) = none)) ∧ o76.data.length ≤ c76 ∧ c76 ≤ 9223372036854775807) ∧ St c 122 [(0, .pointer (some ⟨p, 0, none⟩)), (2, .pointer (some ⟨b_t2, 0, none⟩)), (3, .pointer (some ⟨b_t3, 0, none⟩)), (4, .pointer (some ⟨b_t4, 0, none⟩)), (5, .pointer (some ⟨b_t5, 0, none⟩)), (6, .int .i64 (n76 : Int)), (7, .int .i64 e76), (52, .int .i64 v52), (53, .int .i64 (k : Int))] [.cells p [.slice A b.length cp, .int .i64 (t62 : Int)] e_, .cells b_t3 [.int .i64 v13, .int .i64 v17, .int .i64 v21, .slice A_PG ps.length c_PG, V, .int .i64 0, .slice none 0 0] 39, .cells b_t2 [.int .i64 0, .int .i64 0, .int .i64 0, .slice none 0 0, .slice none 0 0, .int .i64 0, .slice none 0 0] 39, .row V 61 4 rs.length cs, .cells b_t4 [.int .i64 v58, .int .i64 v62, .int .u8 0, .slice none 0 0] 61, .cells b_t5 [.int .u8 o76.code, .slice A76 o76.data.length c76] 30] [Pers.row Kd.u8 A76 o76.data, Pers.reps kRow rs cs, Pers.row kPage A_PG ps, Pers.row Kd.u8 A b] a w) (is := (zs 5)) (js := [0, 1, 2]) wide_ rfl rfl rfl ?_ ?_
  ·refine GA.tk 0 (zs 5) [0, 1, 2] ?_;refine GA.tk 1 (zs 5) [0, 1, 2] ?_;refine GA.tk 2 (zs 5) [0, 1, 2] ?_;refine GA.tk 3 (zs 5) [0, 1, 2] ?_;refine GA.tp 4 rfl (zs 5) [0, 1, 2] (i_mem (m_load (i := 0) rfl rfl ag_25 rfl)) ?_
   refine GA.tk 5 (zs 5) [0, 1, 2] ?_;refine GA.tk 6 (zs 5) [0, 1, 2] ?_;refine GA.tk 7 (zs 5) [0, 1, 2] ?_;refine GA.tk 8 (zs 5) [0, 1, 2] ?_;refine GA.tp 9 rfl (zs 5) [0, 1, 2] (i_mem (m_load (i := 0) rfl rfl ag_3 rfl)) ?_
   refine GA.al [10, 16] ?_
   refine GAs.cons (i := 10) rfl rfl (t_cut_l (j := 2) rfl rfl rfl rfl Tryz.underlying25 sz_5 (by omega) (by omega) (by omega)) (by rintro a w h; exact h.me (zs 5) [1, 2, 3]) ?_ ?_
   ·refine GA.al [11, 16] ?_
    refine GAs.cons (i := 11) rfl rfl (t_call rfl Tryz.call130 rfl (is := []) (js := [0]) rfl rfl (by exact decres_ct _ (seg b t62 b.length) _ (by rw [seg_to (by omega)]; omega) (by omega) (by rw [seg_to (by omega)]; omega))) (by rintro a w ⟨_, _, _, ⟨o76, n76, e76, A76, c76, hs76, hn76, l76, k76, rfl, rfl, rfl⟩, h⟩; exact h.me (zs 5) [2, 3, 4]) (GA.ret ?_) ?_
    ·rintro _ _ _ ⟨o76, n76, e76, A76, c76, hs76, hn76, l76, k76, rfl, rfl, rfl⟩
     refine GA.tk 12 (zs 5) [2, 3, 4] ?_;refine GA.tk 13 (zs 5) [2, 3, 4] ?_;refine GA.tk 14 (zs 5) [2, 3, 4] ?_;refine GA.tk 15 (zs 5) [2, 3, 4] ?_;refine GA.al [16] ?_
     refine GAs.cons (i := 16) rfl rfl (t_alloc rfl ze_30) (by rintro a w ⟨_, h⟩; exact h.me [1, 1, 1, 1, 1] [2, 3, 4]) (GA.ex fun b_t5 => ?_) GAs.nil
     refine GA.al [17] ?_
     refine GAs.cons (i := 17) rfl rfl (t_storeN (i := 0) rfl rfl rfl sz_30 rfl rfl rfl) (by rintro a w h; exact h.me [1, 1, 1, 1, 1] [2, 3, 4]) ?_ GAs.nil
     refine GA.tk 18 [1, 1, 1, 1, 1] [2, 3, 4] ?_;refine GA.tk 19 [1, 1, 1, 1, 1] [2, 3, 4] ?_
     exact zq72_
    refine GAs.cons (i := 16) rfl rfl (t_alloc rfl ze_30) (by rintro a w ⟨_, h⟩; exact h.me [1, 1, 1, 1, 1] [1, 2, 3]) (GA.ex fun b_t5 => ?_) GAs.nil
    refine GA.al [11] ?_
    refine GAs.cons (i := 11) rfl rfl (t_call rfl Tryz.call130 rfl (is := []) (js := [0]) rfl rfl (by exact decres_ct _ (seg b t62 b.length) _ (by rw [seg_to (by omega)]; omega) (by omega) (by rw [seg_to (by omega)]; omega))) (by rintro a w ⟨_, _, _, ⟨o76, n76, e76, A76, c76, hs76, hn76, l76, k76, rfl, rfl, rfl⟩, h⟩; exact h.me [1, 1, 1, 1, 1] [2, 3, 4]) (GA.ret ?_) GAs.nil
    rintro _ _ _ ⟨o76, n76, e76, A76, c76, hs76, hn76, l76, k76, rfl, rfl, rfl⟩
    refine GA.tk 12 [1, 1, 1, 1, 1] [2, 3, 4] ?_;refine GA.tk 13 [1, 1, 1, 1, 1] [2, 3, 4] ?_;refine GA.tk 14 [1, 1, 1, 1, 1] [2, 3, 4] ?_;refine GA.tk 15 [1, 1, 1, 1, 1] [2, 3, 4] ?_;refine GA.al [17] ?_
    refine GAs.cons (i := 17) rfl rfl (t_storeN (i := 0) rfl rfl rfl sz_30 rfl rfl rfl) (by rintro a w h; exact h.me [1, 1, 1, 1, 1] [2, 3, 4]) ?_ GAs.nil
    refine GA.tk 18 [1, 1, 1, 1, 1] [2, 3, 4] ?_;refine GA.tk 19 [1, 1, 1, 1, 1] [2, 3, 4] ?_
    exact zq72_
   refine GAs.cons (i := 16) rfl rfl (t_alloc rfl ze_30) (by rintro a w ⟨_, h⟩; exact h.me [1, 1, 1, 1, 1] [0, 1, 2]) (GA.ex fun b_t5 => ?_) GAs.nil
   refine GA.al [10] ?_
   refine GAs.cons (i := 10) rfl rfl (t_cut_l (j := 2) rfl rfl rfl rfl Tryz.underlying25 sz_5 (by omega) (by omega) (by omega)) (by rintro a w h; exact h.me [1, 1, 1, 1, 1] [1, 2, 3]) ?_ GAs.nil
   refine GA.al [11] ?_
   refine GAs.cons (i := 11) rfl rfl (t_call rfl Tryz.call130 rfl (is := []) (js := [0]) rfl rfl (by exact decres_ct _ (seg b t62 b.length) _ (by rw [seg_to (by omega)]; omega) (by omega) (by rw [seg_to (by omega)]; omega))) (by rintro a w ⟨_, _, _, ⟨o76, n76, e76, A76, c76, hs76, hn76, l76, k76, rfl, rfl, rfl⟩, h⟩; exact h.me [1, 1, 1, 1, 1] [2, 3, 4]) (GA.ret ?_) GAs.nil
   rintro _ _ _ ⟨o76, n76, e76, A76, c76, hs76, hn76, l76, k76, rfl, rfl, rfl⟩
   refine GA.tk 12 [1, 1, 1, 1, 1] [2, 3, 4] ?_;refine GA.tk 13 [1, 1, 1, 1, 1] [2, 3, 4] ?_;refine GA.tk 14 [1, 1, 1, 1, 1] [2, 3, 4] ?_;refine GA.tk 15 [1, 1, 1, 1, 1] [2, 3, 4] ?_;refine GA.al [17] ?_
   refine GAs.cons (i := 17) rfl rfl (t_storeN (i := 0) rfl rfl rfl sz_30 rfl rfl rfl) (by rintro a w h; exact h.me [1, 1, 1, 1, 1] [2, 3, 4]) ?_ GAs.nil
   refine GA.tk 18 [1, 1, 1, 1, 1] [2, 3, 4] ?_;refine GA.tk 19 [1, 1, 1, 1, 1] [2, 3, 4] ?_
   exact zq72_
  refine (?_ : GC _ _ _ _)
  refine GC.ex fun o76 => GC.ex fun n76 => GC.ex fun e76 => GC.ex fun A76 => GC.ex fun c76 => GC.ex fun b_t5 => GC.and fun ⟨hs76, hn76, l76, k76⟩ => ?_;refine GC.sr_ ?_
  have hq76 := hn76.1
  rw [seg_to (by omega)] at hq76
  refine GL.rn 1 ?_;refine GL.callP rfl Tryz.call159 rfl (is := []) (js := []) rfl rfl (by exact (must_ct _).mono (fun _ _ _ h => h) (fun _ h => ⟨⟨_, h⟩, by simp only [mstF, hs13, hs17, hs21, hs27, hkP, hs52, Option.bind_some]; rw [manyF_fail hj.2.2.1 (show mrowF b t = none from by simp only [mrowF, hs58, hs62, Option.bind_some, hn76.2 h.1, Option.map_none]) (by omega)]; rfl⟩)) (fun v a w he h => FinP.panic he h) (GL.ret ?_)
  rintro _ _ _ ⟨he81, rfl, rfl, rfl⟩
  have hd76 := hs76 he81
  refine GL.nl_ ?_;refine GC.sr_ ?_;refine GL.ln_ 5 2 ?_;refine GL.rn 1 ?_;refine GL.sn_ 4 ?_;refine GL.nr 4 ?_;refine GL.ld_ 0 ?_;refine GL.rn 1 ?_;refine GL.pure rfl (p_add rfl rfl (w64 (by omega) (by omega))) ?_
  refine GL.rn 3 ?_;refine GL.so_ 0 ?_;refine GL.nl_ ?_;refine GC.region ?_;refine GL.rn 1 ?_;refine GL.ld_ 1 ?_;refine GL.ln_ 4 4 ?_;refine GL.step rfl (t_buildSlice rfl Tryz.underlying37 sz_61 ze_61 rfl rfl rfl rfl rfl rfl) (GL.ex fun b_t97 => ?_)
  refine GL.step rfl (t_append (i := 4) (k := 0) rfl el_37 rfl rfl rfl rfl rfl (allOne_mem rfl) (by first | (have := hk.1.1; omega) | (have := hj.1.1; omega)) (fun _ => rfl)) (GL.ex fun v98 => ?_);refine GL.shape (i := 4) rfl (fun A_v98 c_v98 e_v98 l_v98 k_v98 => ?_)
  subst e_v98
  refine GL.snoc (j := 1) (js := [0]) (⟨v58, v62, o76⟩ : Row) ((), ((), ((), (A76, c76)))) rfl rfl ⟨trivial, trivial, trivial, l76, k76⟩ ?_;refine GL.rn 1 ?_;refine GL.so_ 2 ?_
  refine GL.nil (?_ : GC _ _ _ _)
  refine GC.region ?_;refine GL.pure rfl (p_add rfl rfl (w64 (by omega) (by omega))) ?_;refine GL.rn 1 ?_;refine GL.nil ?_
  exact fun a w h => ⟨(k + 1), (rs ++ [(⟨v58, v62, o76⟩ : Row)]), (_), (_), (t62 + n76), (by omega), ⟨⟨by simp; omega, by omega⟩, by omega, manyF_next hj.2.2.1 (show mrowF b t = some _ from by simp only [mrowF, hs58, hs62, Option.bind_some, hd76, Option.map_some]), fun r hr => by rcases List.mem_append.1 hr with hr | hr; exact hj.2.2.2 r hr; rw [List.mem_singleton.1 hr]; exact decRes_len hd76⟩, by rw [List.length_append]; exact h.cut (is := [1, 1, 2, 1]) (js := [0, 3, 4]) ⟨rfl, rfl, rfl, rfl, rfl, trivial⟩ rfl rfl⟩
 intro h2; try simp only [tst_] at h2
 refine GC.exit (?_ : GC _ _ _ _)
 refine GC.sr_ ?_
 obtain ⟨tR, htR⟩ : ∃ tR, tR = t := ⟨t, rfl⟩
 have hkR : manyF (mrowF b) t52 v52.toNat = some (rs, tR) := by rw [show v52.toNat = k by omega, htR]; exact hj.2.2.1
 have htR' : tR ≤ b.length := by omega
 subst htR
 refine GL.shape (i := 2) rfl (fun A_RW c_RW e_RW l_RW k_RW => ?_)
 subst e_RW
 refine GL.freezeR (i := 2) (j := 0) rfl rfl (by decide) ?_;refine GL.rn 1 ?_;refine GL.callP rfl Tryz.call160 rfl (is := [0]) (js := [3]) rfl rfl (by exact (mgrp_ct _ _ _ b _ tR (by omega) (by omega) (by omega)).mono (fun _ _ _ h => h) (fun _ h => ⟨h.1, by simp only [mstF, hs13, hs17, hs21, hs27, hkP, hs52, hkR, Option.bind_some, h.2, Option.bind_none]⟩)) (fun v a w he h => FinP.panic he h) (GL.ret ?_)
 rintro _ _ _ ⟨g102, t102, A102, c102, hs102, ht102, l102, m102, rfl, rfl, rfl⟩
 refine GL.rn 1 ?_;refine GL.sn_ 1 ?_;refine GL.nl_ ?_;refine GC.seq' ?_;refine GC.sr_ ?_
 have hM : mstF b at_ = mstC (⟨v13, ⟨v17, v21⟩, ps, rs, g102⟩, t102) := by simp only [mstF, hs13, hs17, hs21, hs27, hkP, hs52, hkR, hs102, Option.bind_some]
 have hSL : SttLen (⟨v13, ⟨v17, v21⟩, ps, rs, g102⟩ : Stt) := ⟨by have := hk.1.1; show ps.length ≤ _; omega, by have := hj.1.1; show rs.length ≤ _; omega, by show g102.members.length ≤ _; omega, fun p hp => by have := hk.2.2.2 p hp; show p.data.length ≤ _; omega, fun r hr => by have := hj.2.2.2 r hr; show r.result.data.length ≤ _; omega⟩
 refine GL.ln_ 1 7 ?_;refine GL.cl Tryz.call121 [] [3, 1, 0] rfl rfl rfl (by exact held_ct (⟨v13, ⟨v17, v21⟩, ps, rs, g102⟩ : Stt) _ _ _ _ _ _ hSL) ?_
 rintro _ _ _ ⟨x106, rfl, rfl, rfl⟩
 refine GL.rz 5 ?_;refine GC.rg 2 ?_;refine GC.co ?_ ?_
 ·intro h3; try simp only [tst_] at h3
  refine GC.region ?_;refine GL.pure rfl (p_build ze_200 of_200 rfl rfl) ?_;refine GL.pure rfl (p_mkIface Tryz.underlying200 (fun m h => by cases h) rfl) ?_;refine GL.panicN rfl (fun a w h => ?_)
  exact zq73_
 intro h3; try simp only [tst_] at h3
 refine GC.skip (?_ : GC _ _ _ _)
 refine GC.seq' ?_;refine GC.rr 4 ?_;refine GL.ld_ 0 ?_;refine GL.rz 1 ?_;refine GC.co ?_ ?_
 ·intro h4; try simp only [tst_] at h4
  refine GC.region ?_;refine GL.pure rfl (p_build ze_200 of_200 rfl rfl) ?_;refine GL.pure rfl (p_mkIface Tryz.underlying200 (fun m h => by cases h) rfl) ?_;refine GL.panicN rfl (fun a w h => ?_)
  exact zq73_
 intro h4; try simp only [tst_] at h4
 refine GC.skip (?_ : GC _ _ _ _)
 refine GC.sr_ ?_;refine GL.ln_ 1 7 ?_;refine GL.sn_ 2 ?_;refine GL.nl_ ?_;refine GC.ret (FinP.c0 2 39 2 7 [0] [3, 1, 0] ?_)
 exact ⟨_, _, by rw [hM, mstC]; exact if_pos ⟨by assumption, by omega⟩, by omega, hSL, ⟨_, _, _, _, _, _, l_PG, k_PG, l_RW, k_RW, l102, m102, rfl, rfl⟩, rfl⟩
end Go.Proofs.YtdhdmbmknpjhbaaGreat
namespace Go.Sx
open Go
section
variable {P : Program} {c : Cx} {n : Nat} {env : List (Nat × Value)} {G G' Gr : List Own} {Q Q' : List Pers} {d : Nat} {ty : TypeId} {pos : String} {aft : Array Edge} {g : Option (Nat × Bool)} {x y : Operand} {t u : TypeId} {a a' : Act} {w w' : World}
theorem GL.callPv {ops : Array Oper} {X : Exit → Asr} {rest : List Oper} {f : FuncId} {xs : List Operand} {vs us : List Value} {ts : Array TypeId} {is js : List Nat} {G1 : List Own} {Q1 : List Pers} {R : Value → List Own → List Pers → Prop} {E : Value → Prop} (hd : Nat.blt d n = true) (hf : Ent P f) (hv : ev env x = some (.func (.func f) #[] us.toArray)) (hx : evs env xs = some vs)
    (hsel : sel G is = some (G1, Gr)) (hq : pickQ Q js = some Q1) (h : CtP P f (vs ++ us) G1 Q1 R E) (hp : ∀ v a w, E v → St c n env Gr Q a w → X (.panic [{ v := v, recovered := false }]) a w)
    (k : GL P ops X rest (fun a w => ∃ v G2 Q2, R v G2 Q2 ∧ St c n ((d, v) :: env) (G2 ++ Gr) (Q2 ++ Q) a w)) :
    GL P ops X (⟨some d, .call { callee := .value x, args := xs.toArray, argTypes := ts }, ty, pos, aft, none⟩ :: rest) (St c n env G Q) := by
  rintro a w ⟨S, he, hh, hrel⟩
  refine wpList_plain rfl fun K hK => ?_
  have hp' := sel_perm hsel
  have hh1 := hh.perm hp'
  have hrel1 := hrel.perm hp'
  have hin : Heap S G1 Q1 w := hh1.sub (List.sublist_append_left _ _) (pickQ_mem hq)
  unfold Oper.wp
  rw [run_callv hf hv hx a w he.toEnv]
  rw [Oper.upon_enter]
  refine (h w S hin).mono ?_
  rintro e w' (⟨v, G2, Q2, S', rfl, hR, h', hfr, hS, hkk⟩ | ⟨v, rfl, hE, hfr⟩)
  · exact hK _ _ (k _ _ ⟨v, G2, Q2, hR, St.called hh1 hrel1 h' hfr hS hkk (he.put hd v)⟩)
  · exact hp v a w' hE (St.lost he hh1 hrel1 hfr)
theorem p_assert {v : Value} {ut : TypeDesc} {xt : TypeId} (hx : ev env x = some (.iface t v)) (hu : P.underlying t = some ut) (hn : ∀ m, ut ≠ .interface m) : Pv P n env ⟨some d, .typeAssert x xt t true, ty, pos, aft, g⟩ (.tuple #[v, .bool true]) := fun a w he => by
  simp only [execOp, he.eval hx, Instr.typeAssert, Sem.run_bind, run_underlying hu, Result.andThen_ok]
  cases ut <;> first | simp | exact absurd rfl (hn _)
theorem p_ifNil {v : Value} {k : TypeId} (hx : ev env x = some (.iface k v)) {ms} (ht : P.underlying t = some (.interface ms)) : Pv P n env ⟨some d, .binOp .eql t x (.const .nilIface) u, ty, pos, aft, g⟩ (.bool false) := fun a w he => by
  simp only [execOp, he.eval hx]
  have h1 : (eqGuard .eql t x (.const .nilIface) (.iface k v) .nilIface).run P w = .ok () w := by
    unfold eqGuard
    rfl
  have h2 : (Op.equal t (.iface k v) .nilIface).run P w = .ok false w := by
    show (Op.equalIn (9999 + 1) t (.iface k v) .nilIface).run P w = _
    rw [Op.equalIn]
    simp only [Sem.run_bind, run_underlying ht, Result.andThen_ok]
    rfl
  simp [binOp, Act.eval, h1, h2]
end
end Go.Sx
namespace Go.Proofs.YtdhdmbmknpjhbaaGreat
open Go Go.Sx Go.Proofs
abbrev zE : List Value := [.int .u8 0, .int .i64 0, .int .i64 0, .int .i64 0, .int .i64 0, .int .u8 0, .int .i64 0, .int .i64 0, .slice none 0 0, .slice none 0 0, .int .i64 0, .slice none 0 0]
abbrev zS : List Value := [.int .i64 0, .int .i64 0, .int .i64 0, .slice none 0 0, .slice none 0 0, .int .i64 0, .slice none 0 0]
def zen : Entry := ⟨0, 0, 0, 0, 0, zop, zgr⟩
theorem recE_ct (e : Int) (p4 p5 p6 : Nat) : CtR Tryz.prog 157 [.pointer (some ⟨p4, 0, none⟩), .pointer (some ⟨p5, 0, none⟩), .pointer (some ⟨p6, 0, none⟩)] [.cells p4 zE 64, .cells p5 [.int .i64 0] 3, .cells p6 [.int .i64 0] 45] [] (mF e)
    (fun u G Q => u = .tuple #[] ∧ G = [.cells p4 zE 64, .cells p5 [.int .i64 0] 3, .cells p6 [.int .i64 e] 45] ∧ Q = []) := by
  refine CtR.intro Tryz.func157 rfl rfl rfl rfl rfl (fun c hc => ?_)
  refine GC.seq' ?_
  refine GC.seq' ?_
  refine GC.region ?_
  refine GL.pure rfl (p_move rfl) ?_
  refine GL.pure rfl (p_ifNil rfl Tryz.underlying20) ?_
  refine GL.nil (?_ : GC _ _ _ _)
  refine GC.cond_false rfl ?_
  refine GC.skip (?_ : GC _ _ _ _)
  refine GC.seq' ?_
  refine GC.region ?_
  refine GL.pure rfl (p_move rfl) ?_
  refine GL.pure rfl (p_assert rfl Tryz.underlying200 (fun m h => by cases h)) ?_
  refine GL.pure rfl (p_move rfl) ?_
  refine GL.pure rfl (p_extract rfl rfl) ?_
  refine GL.pure rfl (p_extract rfl rfl) ?_
  refine GL.step rfl (t_alloc rfl ze_200) (GL.ex fun b_t4 => ?_)
  refine GL.step rfl (t_storeN (i := 0) rfl rfl rfl sz_200 rfl rfl rfl) ?_
  refine GL.pure rfl (p_assign rfl) ?_
  refine GL.nil (?_ : GC _ _ _ _)
  refine GC.seq' ?_
  refine GC.seq' ?_
  refine GC.region ?_
  refine GL.pure rfl (p_move rfl) ?_
  refine GL.pure rfl (p_not rfl) ?_
  refine GL.nil (?_ : GC _ _ _ _)
  refine GC.cond_false rfl ?_
  refine GC.skip (?_ : GC _ _ _ _)
  refine GC.seq' ?_
  refine GC.region ?_
  refine GL.step rfl (t_alloc rfl ze_64) (GL.ex fun b_t6 => ?_)
  refine GL.nil (?_ : GC _ _ _ _)
  refine GC.regionC (m := 6) (is := [0, 0]) (js := []) wide_ rfl rfl rfl ?_
  refine GA.take 0 rfl (by kernel_rfl) (by kernel_rfl) (by kernel_rfl) rfl (fun a w h => h.mem (is := [0, 0]) (js := []) rfl rfl) (i_mem (m_loadN (i := 0) rfl rfl ag_64 (vs := [_, _, _, _, _, _, _, _, _, _, _, _]) sz_64 ⟨rfl, rfl, rfl, rfl, rfl, rfl, rfl, rfl, rfl, rfl, rfl, rfl, trivial⟩)) ?_
  refine GA.take 1 rfl (by kernel_rfl) (by kernel_rfl) (by kernel_rfl) rfl (fun a w h => h.mem (is := [0, 0]) (js := []) rfl rfl) (i_pure (p_fieldAddr fo_200_0 rfl)) ?_
  refine GA.take 2 rfl (by kernel_rfl) (by kernel_rfl) (by kernel_rfl) rfl (fun a w h => h.mem (is := [0, 0]) (js := []) rfl rfl) (i_mem (m_load (i := 1) rfl rfl ag_45 rfl)) ?_
  refine GA.all (rs := [3]) (by kernel_rfl) (by simp) ?_
  refine GAs.cons (i := 3) rfl rfl (t_storeN (i := 2) rfl rfl rfl sz_64 rfl rfl rfl) (by rintro a w h; exact h.mem (is := [0, 0]) (js := []) rfl rfl) ?_ ?_
  · refine GA.all (rs := [4]) (by kernel_rfl) (by simp) ?_
    refine GAs.cons (i := 4) rfl rfl (t_store (i := 3) rfl rfl rfl rfl sz_3 rfl rfl rfl) (by rintro a w h; exact h.mem (is := [0, 0]) (js := []) rfl rfl) ?_ ?_
    · refine GA.all (rs := [5]) (by kernel_rfl) (by simp) ?_
      refine GAs.cons (i := 5) rfl rfl (t_store (i := 4) rfl rfl rfl rfl sz_45 rfl rfl rfl) (by rintro a w h; exact h.mem (is := [0, 0]) (js := []) rfl rfl) ?_ ?_
      · refine GA.done (by kernel_rfl) ?_
        refine fun a w h => Fin.back0 rfl (is := [2, 2, 2]) (js := []) rfl rfl ?_ h
        clear h
        exact ⟨rfl, rfl, rfl⟩
      exact GAs.nil
    exact GAs.nil
  exact GAs.nil
theorem idleE (p q r : Value) (w : World) : CallsD Tryz.prog 157 #[p, q, r] .returning w fun e u' w' => e = .returned (.tuple #[]) ∧ u' = .returning ∧ w' = w := by
  have hn : ∀ w : World, (binOp BinOp.eql 20 .nilIface .nilIface).run Tryz.prog w = .ok (.bool true) w := fun _ => by kernel_rfl
  refine callsD_of_wpS Tryz.func157 rfl fun c₀ cs hu => ?_
  apply wpS_seq
  apply wpS_region
  simp [wpOpsS, go_sem, recoverD, hu, Tryz.ntmps157, Exit.thenS]
  apply wpS_seq
  apply wpS_seq
  apply wpS_region
  simp [wpOpsS, go_sem, Exit.thenS, hn]
  refine wpS_cond (t := true) (by simp [Act.eval, Array.replicate]) ?_
  simp only [if_true]
  refine wpS_of_wp (wp_ret ?_)
  cases c₀
  simp_all [bodyPostS, results, Exit.thenS]
theorem dec1_ct (p e_ : Nat) (A : Option Addr) (b : List UInt8) (cp : Nat) (hb : b.length ≤ cp) (hcp' : cp ≤ 9223372036854775807) (hb' : b.length ≤ 10000000000000) : CtP Tryz.prog 134 [.pointer (some ⟨p, 0, none⟩)] (mleftG p e_ A b cp 0) [Pers.row Kd.u8 A b]
    (fun u G Q => ∃ (e : Entry) (t : Nat), mentF b 0 = some (e, t) ∧ t ≤ b.length ∧ EntR e u Q ∧ G = mleftG p e_ A b cp t) (fun v => mFault v ∧ mentF b 0 = none) := by
 refine CtP.intro Tryz.func134 rfl rfl rfl (fun c hc => ?_)
 refine GC.sr_ ?_;refine GL.step rfl (t_alloc rfl ze_64) (GL.ex fun b_t2 => ?_);refine GL.nr 1 ?_;refine GL.callP rfl Tryz.call135 rfl (is := [1]) (js := [0]) rfl rfl (by exact mentr_ct _ _ _ b _ 0 hb hcp' hb' (by omega)) (fun v a w he h => FinP.panic he h) (GL.ret ?_)
 rintro _ _ _ ⟨g4, t4, hs4, ht4, ⟨A4, cp4, B4, cq4, C4, cr4, j4, k4, l4, m4, n4, o4, rfl, rfl⟩, rfl⟩
 refine GL.sn_ 1 ?_;refine GL.nl_ ?_;refine GC.ret (FinP.c0 2 64 1 12 [0] [0, 1, 2] ?_)
 exact ⟨_, _, hs4, ht4, ⟨_, _, _, _, _, _, j4, k4, l4, m4, n4, o4, rfl, rfl⟩, rfl⟩
abbrev DecR (b : List UInt8) (u : Value) (G : List Own) (Q : List Pers) : Prop := ∃ (e : Entry) (n : Nat) (k : Int) (A : Option Addr) (cp : Nat) (B : Option Addr) (cq : Nat) (C : Option Addr) (cr : Nat), ((k = 0 → mentF b 0 = some (e, n)) ∧ (k ≠ 0 → mentF b 0 = none)) ∧ n ≤ b.length ∧ e.op.data.length ≤ cp ∧ cp ≤ 9223372036854775807 ∧ e.op.old.length ≤ cq ∧ cq ≤ 9223372036854775807 ∧ e.grp.members.length ≤ cr ∧ cr ≤ 9223372036854775807 ∧ u = .tuple #[entV e A cp B cq C cr, .int .i64 (n : Int), .int .i64 k] ∧ G = [] ∧ Q = entQ e A B C
theorem readE_ct (A : Option Addr) (b : List UInt8) (cp : Nat) (hb : b.length ≤ cp) (hcp' : cp ≤ 9223372036854775807) (hb' : b.length ≤ 10000000000000) : Ct Tryz.prog 133 [.slice A b.length cp, .func (.func 134) #[] #[]] [] [Pers.row Kd.u8 A b] (DecR b) := by
 refine Ct.introD Tryz.func133 rfl rfl rfl (fun c hc hcD => ?_)
 refine GC.sr_ ?_;refine GL.step rfl (t_alloc rfl ze_64) (GL.ex fun b_t4 => ?_);refine GL.step rfl (t_alloc rfl ze_3) (GL.ex fun b_t5 => ?_);refine GL.step rfl (t_alloc rfl ze_45) (GL.ex fun b_t6 => ?_);refine GL.nl_ ?_
 refine GC.sr_ ?_;refine GL.pure rfl (p_makeFunc rfl rfl) ?_;refine GL.defer (f := 157) (us := [_, _, _]) hcD rfl ?_;refine GL.nr 1 ?_;refine GL.pure rfl (p_build ze_203 of_203 rfl rfl) ?_;refine GL.pure rfl (p_build ze_205 of_205 rfl rfl) ?_
 refine GL.step rfl (t_box rfl rfl rfl) (GL.ex fun b_t12 => ?_);refine GL.rz 1 ?_;refine GC.rr 2 ?_;refine GL.callPv rfl Tryz.call134 rfl rfl (is := [0]) (js := [0]) rfl rfl (by exact dec1_ct _ _ _ _ _ (by omega) (by omega) (by omega)) (fun v a w he h => by obtain ⟨⟨ex, hex, rfl⟩, hno⟩ := he; exact FinD.catch Tryz.call157 (recE_ct ex _ _ _) (isC := [2, 1, 0]) (jsC := []) rfl rfl (fun u G2 Q2 a w hR h => by obtain ⟨rfl, rfl, rfl⟩ := hR; exact Fin.back (rs := [.cell 4 64, .cell 5 3, .cell 6 45]) (vs := [_, _, _]) (is := []) (js := [1, 1, 0]) rfl ⟨⟨0, _, _, _, _, rfl, rfl, .inr ⟨[_, _, _, _, _, _, _, _, _, _, _, _], rfl, ag_64, sz_64, ⟨rfl, rfl, rfl, rfl, rfl, rfl, rfl, rfl, rfl, rfl, rfl, rfl, trivial⟩⟩⟩, ⟨1, _, _, _, _, rfl, rfl, .inl ⟨ag_3, rfl⟩⟩, ⟨2, _, _, _, _, rfl, rfl, .inl ⟨ag_45, rfl⟩⟩, trivial⟩ rfl rfl (by exact ⟨zen, 0, ex, none, 0, none, 0, none, 0, ⟨fun h => absurd h hex, fun _ => hno⟩, by omega, by simp [zen, zop], by omega, by simp [zen, zop], by omega, by simp [zen, zgr], by omega, rfl, rfl, rfl⟩) ((h.know (q := Pers.row Kd.u8 none []) (fun _ _ _ => .inl rfl)).know (q := Pers.row kI none []) (fun _ _ _ => .inl rfl))) h) (GL.ret ?_)
 rintro _ _ _ ⟨g15, t15, hs15, ht15, ⟨A15, cp15, B15, cq15, C15, cr15, j15, k15, l15, m15, n15, o15, rfl, rfl⟩, rfl⟩
 refine GL.sn_ 3 ?_;refine GL.nl_ ?_;refine GC.seq' ?_;refine GC.regionC (m := 9) (is := [0]) (js := [0, 1, 2, 3]) wide_ rfl rfl rfl ?_;refine GA.tk 1 [0] [0, 1, 2, 3] ?_;refine GA.tk 2 [0] [0, 1, 2, 3] ?_;refine GA.tk 3 [0] [0, 1, 2, 3] ?_
 refine GA.tk 4 [0] [0, 1, 2, 3] ?_;refine GA.tp 5 rfl [0] [0, 1, 2, 3] (i_mem (m_load (i := 0) rfl rfl ag_3 rfl)) ?_;refine GA.al [0] ?_
 refine GAs.cons (i := 0) rfl rfl (t_mem rfl (m_loadN (i := 3) rfl rfl ag_64 (vs := [_, _, _, _, _, _, _, _, _, _, _, _]) sz_64 ⟨rfl, rfl, rfl, rfl, rfl, rfl, rfl, rfl, rfl, rfl, rfl, rfl, trivial⟩)) (by rintro a w h; exact h.me [0] [0, 1, 2, 3]) ?_ GAs.nil
 refine GA.al [6] ?_
 refine GAs.cons (i := 6) rfl rfl (t_storeN (i := 3) rfl rfl rfl sz_64 rfl rfl rfl) (by rintro a w h; exact h.me [0] [0, 1, 2, 3]) ?_ GAs.nil
 refine GA.al [7] ?_
 refine GAs.cons (i := 7) rfl rfl (t_store (i := 2) rfl rfl rfl rfl sz_3 rfl rfl rfl) (by rintro a w h; exact h.me [0] [0, 1, 2, 3]) ?_ GAs.nil
 refine GA.al [8] ?_
 refine GAs.cons (i := 8) rfl rfl (t_store (i := 1) rfl rfl rfl rfl sz_45 rfl rfl rfl) (by rintro a w h; exact h.me [0] [0, 1, 2, 3]) ?_ GAs.nil
 refine GA.done (by kernel_rfl) (?_ : GC _ _ _ _)
 refine GC.ret ?_
 refine fun a w h => FinD.back1 Tryz.call157 (idleE _ _ _) (rs := [.cell 4 64, .cell 5 3, .cell 6 45]) (vs := [_, _, _]) (is := []) (js := [0, 1, 2]) rfl ⟨⟨3, _, _, _, _, rfl, rfl, .inr ⟨[_, _, _, _, _, _, _, _, _, _, _, _], rfl, ag_64, sz_64, ⟨rfl, rfl, rfl, rfl, rfl, rfl, rfl, rfl, rfl, rfl, rfl, rfl, trivial⟩⟩⟩, ⟨2, _, _, _, _, rfl, rfl, .inl ⟨ag_3, rfl⟩⟩, ⟨1, _, _, _, _, rfl, rfl, .inl ⟨ag_45, rfl⟩⟩, trivial⟩ rfl rfl ?_ h
 clear h
 exact ⟨_, _, 0, _, _, _, _, _, _, ⟨fun _ => hs15, fun h => absurd rfl h⟩, ht15, j15, k15, l15, m15, n15, o15, rfl, rfl, rfl⟩
theorem decent_ct (A : Option Addr) (b : List UInt8) (cp : Nat) (hb : b.length ≤ cp) (hcp' : cp ≤ 9223372036854775807) (hb' : b.length ≤ 10000000000000) : Ct Tryz.prog 96 [.slice A b.length cp] [] [Pers.row Kd.u8 A b] (DecR b) := by
 refine Ct.intro Tryz.func96 rfl rfl rfl (fun c hc => ?_)
 refine GC.sr_ ?_;refine GL.step rfl (t_alloc rfl ze_64) (GL.ex fun b_t2 => ?_);refine GL.rz 2 ?_;refine GC.rr 1 ?_;refine GL.cl Tryz.call133 [] [0] rfl rfl rfl (by exact readE_ct _ b _ hb hcp' hb') ?_
 rintro _ _ _ ⟨g6, t6, f6, A6, cp6, B6, cq6, C6, cr6, hs6, ht6, j6, k6, l6, m6, n6, o6, rfl, rfl, rfl⟩
 refine GL.rn 3 ?_;refine GL.sn_ 0 ?_;refine GL.rz 2 ?_;refine GC.ret (Fin.c2 2 64 3 4 0 12 [] [0, 1, 2] ?_)
 exact ⟨_, _, _, _, _, _, _, _, _, hs6, ht6, j6, k6, l6, m6, n6, o6, rfl, rfl, rfl⟩
theorem zstLen : SttLen zst := ⟨by simp [zst], by simp [zst], by simp [zst, zgr], fun p hp => by simp [zst] at hp, fun r hr => by simp [zst] at hr⟩
theorem recS_ct (e : Int) (p4 p5 p6 : Nat) : CtR Tryz.prog 170 [.pointer (some ⟨p4, 0, none⟩), .pointer (some ⟨p5, 0, none⟩), .pointer (some ⟨p6, 0, none⟩)] [.cells p4 zS 39, .cells p5 [.int .i64 0] 3, .cells p6 [.int .i64 0] 45] [] (mF e)
    (fun u G Q => u = .tuple #[] ∧ G = [.cells p4 zS 39, .cells p5 [.int .i64 0] 3, .cells p6 [.int .i64 e] 45] ∧ Q = []) := by
  refine CtR.intro Tryz.func170 rfl rfl rfl rfl rfl (fun c hc => ?_)
  refine GC.seq' ?_
  refine GC.seq' ?_
  refine GC.region ?_
  refine GL.pure rfl (p_move rfl) ?_
  refine GL.pure rfl (p_ifNil rfl Tryz.underlying20) ?_
  refine GL.nil (?_ : GC _ _ _ _)
  refine GC.cond_false rfl ?_
  refine GC.skip (?_ : GC _ _ _ _)
  refine GC.seq' ?_
  refine GC.region ?_
  refine GL.pure rfl (p_move rfl) ?_
  refine GL.pure rfl (p_assert rfl Tryz.underlying200 (fun m h => by cases h)) ?_
  refine GL.pure rfl (p_move rfl) ?_
  refine GL.pure rfl (p_extract rfl rfl) ?_
  refine GL.pure rfl (p_extract rfl rfl) ?_
  refine GL.step rfl (t_alloc rfl ze_200) (GL.ex fun b_t4 => ?_)
  refine GL.step rfl (t_storeN (i := 0) rfl rfl rfl sz_200 rfl rfl rfl) ?_
  refine GL.pure rfl (p_assign rfl) ?_
  refine GL.nil (?_ : GC _ _ _ _)
  refine GC.seq' ?_
  refine GC.seq' ?_
  refine GC.region ?_
  refine GL.pure rfl (p_move rfl) ?_
  refine GL.pure rfl (p_not rfl) ?_
  refine GL.nil (?_ : GC _ _ _ _)
  refine GC.cond_false rfl ?_
  refine GC.skip (?_ : GC _ _ _ _)
  refine GC.seq' ?_
  refine GC.region ?_
  refine GL.step rfl (t_alloc rfl ze_39) (GL.ex fun b_t6 => ?_)
  refine GL.nil (?_ : GC _ _ _ _)
  refine GC.regionC (m := 6) (is := [0, 0]) (js := []) wide_ rfl rfl rfl ?_
  refine GA.take 0 rfl (by kernel_rfl) (by kernel_rfl) (by kernel_rfl) rfl (fun a w h => h.mem (is := [0, 0]) (js := []) rfl rfl) (i_mem (m_loadN (i := 0) rfl rfl ag_39 (vs := [_, _, _, _, _, _, _]) sz_39 ⟨rfl, rfl, rfl, rfl, rfl, rfl, rfl, trivial⟩)) ?_
  refine GA.take 1 rfl (by kernel_rfl) (by kernel_rfl) (by kernel_rfl) rfl (fun a w h => h.mem (is := [0, 0]) (js := []) rfl rfl) (i_pure (p_fieldAddr fo_200_0 rfl)) ?_
  refine GA.take 2 rfl (by kernel_rfl) (by kernel_rfl) (by kernel_rfl) rfl (fun a w h => h.mem (is := [0, 0]) (js := []) rfl rfl) (i_mem (m_load (i := 1) rfl rfl ag_45 rfl)) ?_
  refine GA.all (rs := [3]) (by kernel_rfl) (by simp) ?_
  refine GAs.cons (i := 3) rfl rfl (t_storeN (i := 2) rfl rfl rfl sz_39 rfl rfl rfl) (by rintro a w h; exact h.mem (is := [0, 0]) (js := []) rfl rfl) ?_ ?_
  · refine GA.all (rs := [4]) (by kernel_rfl) (by simp) ?_
    refine GAs.cons (i := 4) rfl rfl (t_store (i := 3) rfl rfl rfl rfl sz_3 rfl rfl rfl) (by rintro a w h; exact h.mem (is := [0, 0]) (js := []) rfl rfl) ?_ ?_
    · refine GA.all (rs := [5]) (by kernel_rfl) (by simp) ?_
      refine GAs.cons (i := 5) rfl rfl (t_store (i := 4) rfl rfl rfl rfl sz_45 rfl rfl rfl) (by rintro a w h; exact h.mem (is := [0, 0]) (js := []) rfl rfl) ?_ ?_
      · refine GA.done (by kernel_rfl) ?_
        refine fun a w h => Fin.back0 rfl (is := [2, 2, 2]) (js := []) rfl rfl ?_ h
        clear h
        exact ⟨rfl, rfl, rfl⟩
      exact GAs.nil
    exact GAs.nil
  exact GAs.nil
theorem idleS (p q r : Value) (w : World) : CallsD Tryz.prog 170 #[p, q, r] .returning w fun e u' w' => e = .returned (.tuple #[]) ∧ u' = .returning ∧ w' = w := by
  have hn : ∀ w : World, (binOp BinOp.eql 20 .nilIface .nilIface).run Tryz.prog w = .ok (.bool true) w := fun _ => by kernel_rfl
  refine callsD_of_wpS Tryz.func170 rfl fun c₀ cs hu => ?_
  apply wpS_seq
  apply wpS_region
  simp [wpOpsS, go_sem, recoverD, hu, Tryz.ntmps170, Exit.thenS]
  apply wpS_seq
  apply wpS_seq
  apply wpS_region
  simp [wpOpsS, go_sem, Exit.thenS, hn]
  refine wpS_cond (t := true) (by simp [Act.eval, Array.replicate]) ?_
  simp only [if_true]
  refine wpS_of_wp (wp_ret ?_)
  cases c₀
  simp_all [bodyPostS, results, Exit.thenS]
theorem dec2_ct (p e_ : Nat) (A : Option Addr) (b : List UInt8) (cp : Nat) (hb : b.length ≤ cp) (hcp' : cp ≤ 9223372036854775807) (hb' : b.length ≤ 10000000000000) : CtP Tryz.prog 155 [.pointer (some ⟨p, 0, none⟩)] (mleftG p e_ A b cp 0) [Pers.row Kd.u8 A b]
    (fun u G Q => ∃ (e : Stt) (t : Nat), mstF b 0 = some (e, t) ∧ t ≤ b.length ∧ SttLen e ∧ SttR e u Q ∧ G = mleftG p e_ A b cp t) (fun v => mFault v ∧ mstF b 0 = none) := by
 refine CtP.intro Tryz.func155 rfl rfl rfl (fun c hc => ?_)
 refine GC.sr_ ?_;refine GL.step rfl (t_alloc rfl ze_39) (GL.ex fun b_t2 => ?_);refine GL.nr 1 ?_;refine GL.callP rfl Tryz.call156 rfl (is := [1]) (js := [0]) rfl rfl (by exact mstr_ct _ _ _ b _ 0 hb hcp' hb' (by omega)) (fun v a w he h => FinP.panic he h) (GL.ret ?_)
 rintro _ _ _ ⟨g4, t4, hs4, ht4, hl4, ⟨A4, cp4, B4, cq4, C4, cr4, j4, k4, l4, m4, n4, o4, rfl, rfl⟩, rfl⟩
 refine GL.sn_ 1 ?_;refine GL.nl_ ?_;refine GC.ret (FinP.c0 2 39 1 7 [0] [0, 1, 2] ?_)
 exact ⟨_, _, hs4, ht4, hl4, ⟨_, _, _, _, _, _, j4, k4, l4, m4, n4, o4, rfl, rfl⟩, rfl⟩
abbrev DecT (b : List UInt8) (u : Value) (G : List Own) (Q : List Pers) : Prop := ∃ (e : Stt) (n : Nat) (k : Int) (A : Option Addr) (cp : Nat) (B : Option Addr) (cq : Nat) (C : Option Addr) (cr : Nat), ((k = 0 → mstF b 0 = some (e, n)) ∧ (k ≠ 0 → mstF b 0 = none)) ∧ n ≤ b.length ∧ SttLen e ∧ e.pages.length ≤ cp ∧ cp ≤ 9223372036854775807 ∧ e.rows.length ≤ cq ∧ cq ≤ 9223372036854775807 ∧ e.grp.members.length ≤ cr ∧ cr ≤ 9223372036854775807 ∧ u = .tuple #[sttV e A cp B cq C cr, .int .i64 (n : Int), .int .i64 k] ∧ G = [] ∧ Q = sttQ e A B C
theorem readS_ct (A : Option Addr) (b : List UInt8) (cp : Nat) (hb : b.length ≤ cp) (hcp' : cp ≤ 9223372036854775807) (hb' : b.length ≤ 10000000000000) : Ct Tryz.prog 154 [.slice A b.length cp, .func (.func 155) #[] #[]] [] [Pers.row Kd.u8 A b] (DecT b) := by
 refine Ct.introD Tryz.func154 rfl rfl rfl (fun c hc hcD => ?_)
 refine GC.sr_ ?_;refine GL.step rfl (t_alloc rfl ze_39) (GL.ex fun b_t4 => ?_);refine GL.step rfl (t_alloc rfl ze_3) (GL.ex fun b_t5 => ?_);refine GL.step rfl (t_alloc rfl ze_45) (GL.ex fun b_t6 => ?_);refine GL.nl_ ?_
 refine GC.sr_ ?_;refine GL.pure rfl (p_makeFunc rfl rfl) ?_;refine GL.defer (f := 170) (us := [_, _, _]) hcD rfl ?_;refine GL.nr 1 ?_;refine GL.pure rfl (p_build ze_203 of_203 rfl rfl) ?_;refine GL.pure rfl (p_build ze_205 of_205 rfl rfl) ?_
 refine GL.step rfl (t_box rfl rfl rfl) (GL.ex fun b_t12 => ?_);refine GL.rz 1 ?_;refine GC.rr 2 ?_;refine GL.callPv rfl Tryz.call155 rfl rfl (is := [0]) (js := [0]) rfl rfl (by exact dec2_ct _ _ _ _ _ (by omega) (by omega) (by omega)) (fun v a w he h => by obtain ⟨⟨ex, hex, rfl⟩, hno⟩ := he; exact FinD.catch Tryz.call170 (recS_ct ex _ _ _) (isC := [2, 1, 0]) (jsC := []) rfl rfl (fun u G2 Q2 a w hR h => by obtain ⟨rfl, rfl, rfl⟩ := hR; exact Fin.back (rs := [.cell 4 39, .cell 5 3, .cell 6 45]) (vs := [_, _, _]) (is := []) (js := [2, 1, 0]) rfl ⟨⟨0, _, _, _, _, rfl, rfl, .inr ⟨[_, _, _, _, _, _, _], rfl, ag_39, sz_39, ⟨rfl, rfl, rfl, rfl, rfl, rfl, rfl, trivial⟩⟩⟩, ⟨1, _, _, _, _, rfl, rfl, .inl ⟨ag_3, rfl⟩⟩, ⟨2, _, _, _, _, rfl, rfl, .inl ⟨ag_45, rfl⟩⟩, trivial⟩ rfl rfl (by exact ⟨zst, 0, ex, none, 0, none, 0, none, 0, ⟨fun h => absurd h hex, fun _ => hno⟩, by omega, zstLen, by simp [zst], by omega, by simp [zst], by omega, by simp [zst, zgr], by omega, rfl, rfl, rfl⟩) (((h.know (q := Pers.row kPage none []) (fun _ _ _ => .inl rfl)).know (q := Pers.row kRow none []) (fun _ _ _ => .inl rfl)).know (q := Pers.row kI none []) (fun _ _ _ => .inl rfl))) h) (GL.ret ?_)
 rintro _ _ _ ⟨g15, t15, hs15, ht15, hl15, ⟨A15, cp15, B15, cq15, C15, cr15, j15, k15, l15, m15, n15, o15, rfl, rfl⟩, rfl⟩
 refine GL.sn_ 3 ?_;refine GL.nl_ ?_;refine GC.seq' ?_;refine GC.regionC (m := 9) (is := [0]) (js := [0, 1, 2, 3]) wide_ rfl rfl rfl ?_;refine GA.tk 1 [0] [0, 1, 2, 3] ?_;refine GA.tk 2 [0] [0, 1, 2, 3] ?_;refine GA.tk 3 [0] [0, 1, 2, 3] ?_
 refine GA.tk 4 [0] [0, 1, 2, 3] ?_;refine GA.tp 5 rfl [0] [0, 1, 2, 3] (i_mem (m_load (i := 0) rfl rfl ag_3 rfl)) ?_;refine GA.al [0] ?_
 refine GAs.cons (i := 0) rfl rfl (t_mem rfl (m_loadN (i := 3) rfl rfl ag_39 (vs := [_, _, _, _, _, _, _]) sz_39 ⟨rfl, rfl, rfl, rfl, rfl, rfl, rfl, trivial⟩)) (by rintro a w h; exact h.me [0] [0, 1, 2, 3]) ?_ GAs.nil
 refine GA.al [6] ?_
 refine GAs.cons (i := 6) rfl rfl (t_storeN (i := 3) rfl rfl rfl sz_39 rfl rfl rfl) (by rintro a w h; exact h.me [0] [0, 1, 2, 3]) ?_ GAs.nil
 refine GA.al [7] ?_
 refine GAs.cons (i := 7) rfl rfl (t_store (i := 2) rfl rfl rfl rfl sz_3 rfl rfl rfl) (by rintro a w h; exact h.me [0] [0, 1, 2, 3]) ?_ GAs.nil
 refine GA.al [8] ?_
 refine GAs.cons (i := 8) rfl rfl (t_store (i := 1) rfl rfl rfl rfl sz_45 rfl rfl rfl) (by rintro a w h; exact h.me [0] [0, 1, 2, 3]) ?_ GAs.nil
 refine GA.done (by kernel_rfl) (?_ : GC _ _ _ _)
 refine GC.ret ?_
 refine fun a w h => FinD.back1 Tryz.call170 (idleS _ _ _) (rs := [.cell 4 39, .cell 5 3, .cell 6 45]) (vs := [_, _, _]) (is := []) (js := [0, 1, 2]) rfl ⟨⟨3, _, _, _, _, rfl, rfl, .inr ⟨[_, _, _, _, _, _, _], rfl, ag_39, sz_39, ⟨rfl, rfl, rfl, rfl, rfl, rfl, rfl, trivial⟩⟩⟩, ⟨2, _, _, _, _, rfl, rfl, .inl ⟨ag_3, rfl⟩⟩, ⟨1, _, _, _, _, rfl, rfl, .inl ⟨ag_45, rfl⟩⟩, trivial⟩ rfl rfl ?_ h
 clear h
 exact ⟨_, _, 0, _, _, _, _, _, _, ⟨fun _ => hs15, fun h => absurd rfl h⟩, ht15, hl15, j15, k15, l15, m15, n15, o15, rfl, rfl, rfl⟩
theorem decstt_ct (A : Option Addr) (b : List UInt8) (cp : Nat) (hb : b.length ≤ cp) (hcp' : cp ≤ 9223372036854775807) (hb' : b.length ≤ 10000000000000) : Ct Tryz.prog 132 [.slice A b.length cp] [] [Pers.row Kd.u8 A b] (DecT b) := by
 refine Ct.intro Tryz.func132 rfl rfl rfl (fun c hc => ?_)
 refine GC.sr_ ?_;refine GL.step rfl (t_alloc rfl ze_39) (GL.ex fun b_t2 => ?_);refine GL.rz 2 ?_;refine GC.rr 1 ?_;refine GL.cl Tryz.call154 [] [0] rfl rfl rfl (by exact readS_ct _ b _ hb hcp' hb') ?_
 rintro _ _ _ ⟨g6, t6, f6, A6, cp6, B6, cq6, C6, cr6, hs6, ht6, hl6, j6, k6, l6, m6, n6, o6, rfl, rfl, rfl⟩
 refine GL.rn 3 ?_;refine GL.sn_ 0 ?_;refine GL.rz 2 ?_;refine GC.ret (Fin.c2 2 39 3 4 0 7 [] [0, 1, 2] ?_)
 exact ⟨_, _, _, _, _, _, _, _, _, hs6, ht6, hl6, j6, k6, l6, m6, n6, o6, rfl, rfl, rfl⟩
abbrev wFt : Value := .iface 90 (.agg #[])
theorem wtake_ct (p e_ : Nat) (A : Option Addr) (b : List UInt8) (cp n : Nat) (e : Int) (hn : e = 0 → n ≤ b.length) (hcp : b.length ≤ cp) (hcp' : cp ≤ 9223372036854775807) : CtP Tryz.prog 97 [.pointer (some ⟨p, 0, none⟩), .int .i64 (n : Int), .int .i64 e] (leftG p e_ A b cp) [Pers.row Kd.u8 A b]
    (fun u G Q => e = 0 ∧ ∃ A' c', (b.drop n).length ≤ c' ∧ c' ≤ 9223372036854775807 ∧ u = .tuple #[] ∧ G = leftG p e_ A' (b.drop n) c' ∧ Q = [Pers.row Kd.u8 A' (b.drop n)]) (fun v => e ≠ 0 ∧ v = wFt) := by
 refine CtP.intro Tryz.func97 rfl rfl rfl (fun c hc => ?_)
 refine GC.seq' ?_;refine GC.rg 2 ?_;refine GC.co ?_ ?_
 ·intro h1; try simp only [tst_] at h1
  refine GC.region ?_;refine GL.pure rfl (p_build ze_90 of_90 rfl rfl) ?_;refine GL.pure rfl (p_mkIface Tryz.underlying90 (fun m h => by cases h) rfl) ?_;refine GL.panicN rfl (fun a w h => ?_)
  exact FinP.panic ⟨by assumption, rfl⟩ h
 intro h1; try simp only [tst_] at h1
 refine GC.skip (?_ : GC _ _ _ _)
 refine GC.region ?_
 have hn_ := hn (by omega)
 refine GL.rn 4 ?_;refine GL.ld_ 0 ?_;refine GL.rn 1 ?_;refine GL.step rfl (t_cut_l (j := 0) rfl rfl rfl rfl Tryz.underlying25 sz_5 (by omega) (by omega) (by omega)) ?_
 rw [show ((n : Int)).toNat = n from rfl, seg_drop]
 refine GL.rn 2 ?_;refine GL.so_ 0 ?_;refine GL.nil ?_
 refine fun a w h => FinP.back0 rfl (is := [0]) (js := [0]) rfl rfl ?_ h
 clear h
 exact ⟨by omega, _, _, by rw [List.length_drop]; omega, by omega, rfl, rfl, rfl⟩
def wnumF (n : Nat) (L : List UInt8) : Option (Int × List UInt8) := if n ≤ L.length then some (((valN (seg L 0 n) : Nat) : Int), L.drop n) else none
theorem wnumF_rng {n : Nat} {L : List UInt8} {v : Int} {M : List UInt8} (h : wnumF n L = some (v, M)) : 0 ≤ v ∧ v < (256 ^ n : Nat) ∧ M.length + n = L.length := by
  unfold wnumF at h
  split at h
  · rename_i hq
    obtain ⟨h1, h2⟩ := Prod.mk.inj (Option.some.inj h)
    have hv : valN (seg L 0 n) < 256 ^ n := valN_rng hq (by omega)
    subst h2
    rw [List.length_drop]
    omega
  · cases h
theorem wnum_ct (p e_ : Nat) (A : Option Addr) (b : List UInt8) (cp n : Nat) (hn : 1 ≤ n) (hn' : n ≤ 8) (hcp : b.length ≤ cp) (hcp' : cp ≤ 9223372036854775807) (hb : b.length ≤ 10000000000000) : CtP Tryz.prog 93 [.pointer (some ⟨p, 0, none⟩), .int .i64 (n : Int)] (leftG p e_ A b cp) [Pers.row Kd.u8 A b]
    (fun u G Q => ∃ v L' A' c', wnumF n b = some (v, L') ∧ L'.length ≤ c' ∧ c' ≤ 9223372036854775807 ∧ u = .int .u64 v ∧ G = leftG p e_ A' L' c' ∧ Q = [Pers.row Kd.u8 A' L']) (fun v => v = wFt ∧ wnumF n b = none) := by
 refine CtP.intro Tryz.func93 rfl rfl rfl (fun c hc => ?_)
 refine GC.rg 1 ?_;refine GC.rr 3 ?_;refine GL.ld_ 0 ?_;refine GL.rn 1 ?_;refine GL.cl Tryz.call91 [] [0] rfl rfl rfl (by exact get_all _ b _ 0 n hn hn' hcp (by omega) (by omega)) ?_
 rintro _ _ _ ⟨rfl, rfl, rfl⟩
 refine GL.rz 7 ?_;refine GC.rr 3 ?_;refine GL.callP rfl Tryz.call97 rfl (is := [0]) (js := [0]) rfl rfl (by exact wtake_ct _ _ _ b _ n _ (fun h => by have := getE_zero h; omega) hcp hcp') (fun v a w he h => by exact FinP.panic ⟨he.2, by rw [wnumF, if_neg (fun hq => he.1 (if_pos (by omega)))]⟩ h) (GL.ret ?_)
 rintro _ _ _ ⟨he21, A21, c21, l21, k21, rfl, rfl, rfl⟩
 refine GL.nr 2 ?_;refine GL.nl_ ?_;refine GC.ret (FinP.b1 4 [0] [0] ?_)
 have hq := getE_zero he21
 exact ⟨_, _, _, _, by rw [wnumF, if_pos (by omega)], l21, k21, by show Value.int _ ((getV b 0 n : Nat) : Int) = _; rw [getV, if_pos hq, Nat.zero_add], rfl, rfl⟩
def wsmF (L : List UInt8) : Option (Int × List UInt8) := (wnumF 8 L).bind fun r => if r.1 ≤ 4611686018427387904 then some r else none
theorem wsmF_rng {L : List UInt8} {v : Int} {M : List UInt8} (h : wsmF L = some (v, M)) : 0 ≤ v ∧ v ≤ 4611686018427387904 ∧ M.length + 8 = L.length := by
  unfold wsmF at h
  cases hn : wnumF 8 L with
  | none => rw [hn] at h; cases h
  | some r =>
    rw [hn, Option.bind_some] at h
    split at h
    · obtain rfl := Option.some.inj h
      have := wnumF_rng hn
      omega
    · cases h
theorem wsm_ct (p e_ : Nat) (A : Option Addr) (b : List UInt8) (cp : Nat) (hcp : b.length ≤ cp) (hcp' : cp ≤ 9223372036854775807) (hb : b.length ≤ 10000000000000) : CtP Tryz.prog 94 [.pointer (some ⟨p, 0, none⟩)] (leftG p e_ A b cp) [Pers.row Kd.u8 A b]
    (fun u G Q => ∃ v L' A' c', wsmF b = some (v, L') ∧ L'.length ≤ c' ∧ c' ≤ 9223372036854775807 ∧ u = .int .i64 v ∧ G = leftG p e_ A' L' c' ∧ Q = [Pers.row Kd.u8 A' L']) (fun v => v = wFt ∧ wsmF b = none) := by
 refine CtP.intro Tryz.func94 rfl rfl rfl (fun c hc => ?_)
 refine GC.rg 1 ?_;refine GC.rr 1 ?_;refine GL.callP rfl Tryz.call93 rfl (is := [0]) (js := [0]) rfl rfl (by exact (wnum_ct _ _ _ b _ 8 (by omega) (by omega) hcp hcp' hb).mono (fun _ _ _ h => h) (fun _ h => ⟨h.1, by rw [wsmF, h.2]; rfl⟩)) (fun v a w he h => FinP.panic he h) (GL.ret ?_)
 rintro _ _ _ ⟨v5, L5, A5, c5, hs5, l5, k5, rfl, rfl, rfl⟩
 obtain ⟨hv5, hw5, hx5⟩ := wnumF_rng hs5
 refine GL.rz 1 ?_;refine GC.seq' ?_;refine GC.rg 2 ?_;refine GC.co ?_ ?_
 ·intro h1; try simp only [tst_] at h1
  refine GC.region ?_;refine GL.pure rfl (p_build ze_90 of_90 rfl rfl) ?_;refine GL.pure rfl (p_mkIface Tryz.underlying90 (fun m h => by cases h) rfl) ?_;refine GL.panicN rfl (fun a w h => ?_)
  exact FinP.panic ⟨rfl, by rw [wsmF, hs5, Option.bind_some]; exact if_neg (by omega)⟩ h
 intro h1; try simp only [tst_] at h1
 refine GC.skip (?_ : GC _ _ _ _)
 refine GC.rr 1 ?_;refine GL.pure rfl (p_convR (t := 23) (r := v5) (by rw [Tryz.underlying23]; simp) Tryz.underlying3 rfl (cvI (by omega) (by omega))) ?_
 refine GL.rz 1 ?_;refine GC.ret (FinP.b1 2 [0] [0] ?_)
 exact ⟨_, _, _, _, by rw [wsmF, hs5, Option.bind_some]; exact if_pos (by omega), l5, k5, rfl, rfl, rfl⟩
def wgrpF (L : List UInt8) : Option (Grp × List UInt8) :=
  (wsmF L).bind fun e => (wnumF 1 e.2).bind fun c => (manyF (wnumF 1) c.2 c.1.toNat).map fun r => (⟨e.1, r.1⟩, r.2)
theorem zq74_ {X : Prop} (h : X := by (exact fun a w h => ⟨(k + 1), (xs ++ [v21]), (_), (_), (_), (_), (by omega), ⟨⟨by simp; omega, by omega, l21, k21⟩, by omega, manyF_next hk.2.2 hs21⟩, h.cut (is := [1, 1, 1, 1]) (js := [0, 2, 3, 4]) ⟨rfl, rfl, rfl, rfl, rfl, trivial⟩ rfl rfl⟩)) : X := h
theorem wgrp_ct (p e_ : Nat) (A : Option Addr) (b : List UInt8) (cp : Nat) (hcp : b.length ≤ cp) (hcp' : cp ≤ 9223372036854775807) (hb : b.length ≤ 10000000000000) : CtP Tryz.prog 131 [.pointer (some ⟨p, 0, none⟩)] (leftG p e_ A b cp) [Pers.row Kd.u8 A b]
    (fun u G Q => ∃ (g : Grp) (L' : List UInt8) (A' : Option Addr) (c' : Nat) (B' : Option Addr) (d' : Nat), wgrpF b = some (g, L') ∧ (L'.length ≤ b.length ∧ g.members.length ≤ 255) ∧ L'.length ≤ c' ∧ c' ≤ 9223372036854775807 ∧ g.members.length ≤ d' ∧ d' ≤ 9223372036854775807 ∧ u = .agg #[.int .i64 g.epoch, .slice B' g.members.length d'] ∧ G = leftG p e_ A' L' c' ∧ Q = [Pers.row kI B' g.members, Pers.row Kd.u8 A' L']) (fun v => v = wFt ∧ wgrpF b = none) := by
 have hp1 : (256 : Nat) ^ 1 = 256 := p256_1
 refine CtP.intro Tryz.func131 rfl rfl rfl (fun c hc => ?_)
 refine GC.sr_ ?_;refine GL.step rfl (t_alloc rfl ze_33) (GL.ex fun b_t2 => ?_);refine GL.nr 3 ?_;refine GL.callP rfl Tryz.call94 rfl (is := [1]) (js := [0]) rfl rfl (by exact (wsm_ct _ _ _ b _ hcp hcp' hb).mono (fun _ _ _ h => h) (fun _ h => ⟨h.1, by rw [wgrpF, h.2]; rfl⟩)) (fun v a w he h => FinP.panic he h) (GL.ret ?_)
 rintro _ _ _ ⟨v7, L7, A7, c7, hs7, l7, k7, rfl, rfl, rfl⟩
 obtain ⟨hv7, hw7, hx7⟩ := wsmF_rng hs7
 refine GL.pure rfl (p_build ze_33 of_33 rfl rfl) ?_;refine GL.step rfl (t_alloc rfl ze_33) (GL.ex fun b_t3 => ?_);refine GL.sn_ 0 ?_;refine GL.nl_ ?_;refine GC.seq' ?_;refine GC.rr 3 ?_;refine GL.callP rfl Tryz.call93 rfl (is := [1]) (js := [0]) rfl rfl (by exact (wnum_ct _ _ _ L7 _ 1 (by omega) (by omega) l7 k7 (by omega)).mono (fun _ _ _ h => h) (fun _ h => ⟨h.1, by simp only [wgrpF, hs7, Option.bind_some, h.2, Option.bind_none]⟩)) (fun v a w he h => FinP.panic he h) (GL.ret ?_)
 rintro _ _ _ ⟨v12, L12, A12, c12, hs12, l12, k12, rfl, rfl, rfl⟩
 obtain ⟨hv12, hw12, hx12⟩ := wnumF_rng hs12
 refine GL.nilrow 3 1 ?_;refine GL.pure rfl (p_convR (t := 23) (r := v12) (by rw [Tryz.underlying23]; simp) Tryz.underlying3 rfl (cvI (by omega) (by omega))) ?_
 refine GL.rz 1 ?_;refine GC.block ?_;refine GC.loopK6 (ks := [0, 2, 3, 13]) (is := [3]) (js := [0, 1, 2]) (fun (k : Nat) (xs : List Int) (U : Value) (L : List UInt8) (Al : Option Addr) (cl : Nat) => (xs.length = k ∧ L.length ≤ b.length ∧ L.length ≤ cl ∧ cl ≤ 9223372036854775807) ∧ (k : Int) ≤ v12 ∧ manyF (wnumF 1) L12 k = some (xs, L)) (fun (k : Nat) (xs : List Int) (U : Value) (L : List UInt8) (Al : Option Addr) (cl : Nat) => [(14, .int .i64 (k : Int))]) (fun (k : Nat) (xs : List Int) (U : Value) (L : List UInt8) (Al : Option Addr) (cl : Nat) => [.cells p [.slice Al L.length cl] e_, .cells b_t3 [.int .i64 v7, U] 33, .row U 3 1 xs.length (xs.map (Value.int .i64))]) (fun (k : Nat) (xs : List Int) (U : Value) (L : List UInt8) (Al : Option Addr) (cl : Nat) => [Pers.row Kd.u8 Al L]) (fun (k : Nat) (xs : List Int) (U : Value) (L : List UInt8) (Al : Option Addr) (cl : Nat) => v12.toNat - k) (0) ([]) (_) (L12) (_) (_) rfl rfl rfl (fun a w h => ⟨⟨⟨rfl, by omega, l12, k12⟩, by omega, rfl⟩, h.cutK (is := [1, 1, 0, 0]) (js := [0, 0, 1, 2]) (ks := [0, 2, 3, 13]) ⟨rfl, trivial⟩ rfl rfl rfl⟩) ?_
 intro k xs U L Al cl hk
 try dsimp only [List.cons_append, List.nil_append] at hk ⊢
 refine GC.rg 1 ?_;refine GC.seq' ?_;refine GC.co ?_ ?_
 ·intro h1; try simp only [tst_] at h1
  refine GC.skip (?_ : GC _ _ _ _)
  refine GC.seq' ?_;refine GC.block ?_;refine GC.regionX (m := 11) (is := [3]) (js := [0, 1, 2, 3]) wide_ rfl rfl rfl (fun _ _ _ hd hp hD => ⟨hd.trans hD, .inr hp⟩) ?_
  refine GX.tk 0 [3] [0, 1, 2, 3] ?_
  refine GX.tk 2 [3] [0, 1, 2, 3] ?_
  refine GX.tk 3 [3] [0, 1, 2, 3] ?_
  refine GX.tk 4 [3] [0, 1, 2, 3] ?_
  refine GX.al [1, 5] ?_
  refine GXs.cons (i := 1) rfl rfl (t_mem rfl (m_load (i := 1) rfl rfl ag_31 rfl)) (by rintro a w h; exact h.me [3] [0, 1, 2, 3]) ?_ ?_
  ·refine GX.al [5] ?_
   refine GXs.consP (i := 5) rfl rfl Tryz.call93 rfl (is := [0]) (js := [0]) rfl rfl (by exact (wnum_ct _ _ _ L _ 1 (by omega) (by omega) hk.1.2.2.1 hk.1.2.2.2 (by omega)).mono (fun _ _ _ h => h) (fun _ h => ⟨h.1, by simp only [wgrpF, hs7, hs12, Option.bind_some]; rw [manyF_fail hk.2.2 h.2 (by omega)]; rfl⟩)) (by rintro a w ⟨_, _, _, ⟨v21, L21, A21, c21, hs21, l21, k21, rfl, rfl, rfl⟩, h⟩; exact h.me [3] [1, 2, 3, 4]) (GX.ret ?_) GXs.nil
   rintro _ _ _ ⟨v21, L21, A21, c21, hs21, l21, k21, rfl, rfl, rfl⟩
   obtain ⟨hv21, hw21, hx21⟩ := wnumF_rng hs21
   refine GX.tp 6 rfl [3] [1, 2, 3, 4] (i_pure (p_convR (t := 23) (r := v21) (by rw [Tryz.underlying23]; simp) Tryz.underlying3 rfl (cvI (by omega) (by omega)))) ?_
   refine GX.al [7] ?_
   refine GXs.cons (i := 7) rfl rfl (t_buildSlice rfl Tryz.underlying31 sz_3 ze_3 rfl rfl rfl rfl rfl rfl) (by rintro a w ⟨_, h⟩; exact h.me [4] [1, 2, 3, 4]) (GX.ex fun b_t23 => ?_) GXs.nil
   refine GX.al [8] ?_
   refine GXs.cons (i := 8) rfl rfl (t_append (i := 3) (k := 0) rfl el_31 rfl rfl rfl rfl rfl (allOne_mem rfl) (by have := hk.1.1; omega) (fun _ => rfl)) (by rintro a w ⟨_, h⟩; exact h.me [4] [1, 2, 3, 4]) (GX.ex fun v24 => ?_) GXs.nil
   refine GX.shape (i := 3) rfl (fun A_v24 c_v24 e_v24 l_v24 k_v24 => ?_)
   subst e_v24
   refine GX.tk 9 [4] [1, 2, 3, 4] ?_
   refine GX.al [10] ?_
   refine GXs.cons (i := 10) rfl rfl (t_store (i := 2) rfl rfl rfl rfl sz_31 rfl rfl rfl) (by rintro a w h; exact h.me [4] [1, 2, 3, 4]) ?_ GXs.nil
   refine GX.done (by kernel_rfl) (?_ : GC _ _ _ _)
   refine GC.region ?_;refine GL.rowIs (i := 3) (m' := ((xs ++ [v21])).length) (cs' := ((xs ++ [v21])).map (Value.int .i64)) rfl (by first | rfl | (simp; done) | (simp; omega)) (by first | rfl | (simp; done)) rfl ?_
   refine GL.pure rfl (p_add rfl rfl (w64 (by omega) (by omega))) ?_;refine GL.rn 1 ?_;refine GL.nil ?_
   exact zq74_
  refine GXs.consP (i := 5) rfl rfl Tryz.call93 rfl (is := [0]) (js := [0]) rfl rfl (by exact (wnum_ct _ _ _ L _ 1 (by omega) (by omega) hk.1.2.2.1 hk.1.2.2.2 (by omega)).mono (fun _ _ _ h => h) (fun _ h => ⟨h.1, by simp only [wgrpF, hs7, hs12, Option.bind_some]; rw [manyF_fail hk.2.2 h.2 (by omega)]; rfl⟩)) (by rintro a w ⟨_, _, _, ⟨v21, L21, A21, c21, hs21, l21, k21, rfl, rfl, rfl⟩, h⟩; exact h.me [3] [1, 2, 3, 4]) (GX.ret ?_) GXs.nil
  rintro _ _ _ ⟨v21, L21, A21, c21, hs21, l21, k21, rfl, rfl, rfl⟩
  obtain ⟨hv21, hw21, hx21⟩ := wnumF_rng hs21
  refine GX.tp 6 rfl [3] [1, 2, 3, 4] (i_pure (p_convR (t := 23) (r := v21) (by rw [Tryz.underlying23]; simp) Tryz.underlying3 rfl (cvI (by omega) (by omega)))) ?_
  refine GX.al [1, 7] ?_
  refine GXs.cons (i := 1) rfl rfl (t_mem rfl (m_load (i := 1) rfl rfl ag_31 rfl)) (by rintro a w h; exact h.me [3] [1, 2, 3, 4]) ?_ ?_
  ·refine GX.al [7] ?_
   refine GXs.cons (i := 7) rfl rfl (t_buildSlice rfl Tryz.underlying31 sz_3 ze_3 rfl rfl rfl rfl rfl rfl) (by rintro a w ⟨_, h⟩; exact h.me [4] [1, 2, 3, 4]) (GX.ex fun b_t23 => ?_) GXs.nil
   refine GX.al [8] ?_
   refine GXs.cons (i := 8) rfl rfl (t_append (i := 3) (k := 0) rfl el_31 rfl rfl rfl rfl rfl (allOne_mem rfl) (by have := hk.1.1; omega) (fun _ => rfl)) (by rintro a w ⟨_, h⟩; exact h.me [4] [1, 2, 3, 4]) (GX.ex fun v24 => ?_) GXs.nil
   refine GX.shape (i := 3) rfl (fun A_v24 c_v24 e_v24 l_v24 k_v24 => ?_)
   subst e_v24
   refine GX.tk 9 [4] [1, 2, 3, 4] ?_
   refine GX.al [10] ?_
   refine GXs.cons (i := 10) rfl rfl (t_store (i := 2) rfl rfl rfl rfl sz_31 rfl rfl rfl) (by rintro a w h; exact h.me [4] [1, 2, 3, 4]) ?_ GXs.nil
   refine GX.done (by kernel_rfl) (?_ : GC _ _ _ _)
   refine GC.region ?_;refine GL.rowIs (i := 3) (m' := ((xs ++ [v21])).length) (cs' := ((xs ++ [v21])).map (Value.int .i64)) rfl (by first | rfl | (simp; done) | (simp; omega)) (by first | rfl | (simp; done)) rfl ?_
   refine GL.pure rfl (p_add rfl rfl (w64 (by omega) (by omega))) ?_;refine GL.rn 1 ?_;refine GL.nil ?_
   exact zq74_
  refine GXs.cons (i := 7) rfl rfl (t_buildSlice rfl Tryz.underlying31 sz_3 ze_3 rfl rfl rfl rfl rfl rfl) (by rintro a w ⟨_, h⟩; exact h.me [4] [1, 2, 3, 4]) (GX.ex fun b_t23 => ?_) GXs.nil
  refine GX.al [1] ?_
  refine GXs.cons (i := 1) rfl rfl (t_mem rfl (m_load (i := 2) rfl rfl ag_31 rfl)) (by rintro a w h; exact h.me [4] [1, 2, 3, 4]) ?_ GXs.nil
  refine GX.al [8] ?_
  refine GXs.cons (i := 8) rfl rfl (t_append (i := 3) (k := 0) rfl el_31 rfl rfl rfl rfl rfl (allOne_mem rfl) (by have := hk.1.1; omega) (fun _ => rfl)) (by rintro a w ⟨_, h⟩; exact h.me [4] [1, 2, 3, 4]) (GX.ex fun v24 => ?_) GXs.nil
  refine GX.shape (i := 3) rfl (fun A_v24 c_v24 e_v24 l_v24 k_v24 => ?_)
  subst e_v24
  refine GX.tk 9 [4] [1, 2, 3, 4] ?_
  refine GX.al [10] ?_
  refine GXs.cons (i := 10) rfl rfl (t_store (i := 2) rfl rfl rfl rfl sz_31 rfl rfl rfl) (by rintro a w h; exact h.me [4] [1, 2, 3, 4]) ?_ GXs.nil
  refine GX.done (by kernel_rfl) (?_ : GC _ _ _ _)
  refine GC.region ?_;refine GL.rowIs (i := 3) (m' := ((xs ++ [v21])).length) (cs' := ((xs ++ [v21])).map (Value.int .i64)) rfl (by first | rfl | (simp; done) | (simp; omega)) (by first | rfl | (simp; done)) rfl ?_
  refine GL.pure rfl (p_add rfl rfl (w64 (by omega) (by omega))) ?_;refine GL.rn 1 ?_;refine GL.nil ?_
  exact zq74_
 intro h1; try simp only [tst_] at h1
 refine GC.exit (?_ : GC _ _ _ _)
 refine GC.sr_ ?_;refine GL.shape (i := 2) rfl (fun A_M c_M e_M l_M k_M => ?_)
 subst e_M
 refine GL.freezeI (i := 2) rfl ?_;refine GL.ln_ 1 2 ?_;refine GL.sn_ 2 ?_;refine GL.nl_ ?_;refine GC.ret (FinP.c0 2 33 2 2 [0] [0, 1] ?_)
 exact ⟨⟨v7, xs⟩, _, _, _, _, _, by simp only [wgrpF, hs7, hs12, Option.bind_some]; rw [show v12.toNat = k by omega, hk.2.2]; rfl, ⟨hk.1.2.1, by have := hk.1.1; show xs.length ≤ 255; omega⟩, hk.1.2.2.1, hk.1.2.2.2, l_M, k_M, rfl, rfl, rfl⟩
def bitN (n k : Int) : Int := IntKind.u8.wrap ((BitVec.ofInt IntKind.u8.bits n &&& BitVec.ofInt IntKind.u8.bits k).toNat : Int)
def wpO (n : Int) (L : List UInt8) : Option (OpD × List UInt8) := if bitN n 1 = 0 then some (zop, L) else (decOp L).map fun o => (o.1, L.drop o.2)
def wpR (n : Int) (L : List UInt8) : Option (Res × List UInt8) := if bitN n 2 = 0 then some (rz, L) else (decRes L).map fun o => (o.1, L.drop o.2)
def wpG (n : Int) (L : List UInt8) : Option (Grp × List UInt8) := if bitN n 4 = 0 then some (zgr, L) else wgrpF L
def wpS (n : Int) (L : List UInt8) : Option (Stt × List UInt8) := if bitN n 8 = 0 then some (zst, L) else (mstF L 0).map fun o => (o.1, L.drop o.2)
def wprtF (L : List UInt8) : Option ((OpD × Res × Grp × Stt) × List UInt8) :=
  (wnumF 1 L).bind fun n => (wpO n.1 n.2).bind fun o => (wpR n.1 o.2).bind fun r => (wpG n.1 r.2).bind fun g => (wpS n.1 g.2).map fun s => ((o.1, r.1, g.1, s.1), s.2)
theorem drop_len {L : List UInt8} {n : Nat} : (L.drop n).length ≤ L.length := by rw [List.length_drop]; omega
abbrev msgT (o : OpD) (r : Res) (g : Grp) (s : Stt) (x : Lie) : List Value := [.int .u8 o.kind, .int .i64 o.at_, .int .i64 o.n, .slice x.a1 o.data.length x.c1, .slice x.a2 o.old.length x.c2, .int .u8 r.code, .slice x.a3 r.data.length x.c3, .int .i64 g.epoch, .slice x.a4 g.members.length x.c4,
  .int .i64 s.num, .int .i64 s.shp.bl, .int .i64 s.shp.sz, .slice x.a5 s.pages.length x.c5, .slice x.a6 s.rows.length x.c6, .int .i64 s.grp.epoch, .slice x.a7 s.grp.members.length x.c7, .slice none 0 0]
abbrev msgU (o : OpD) (r : Res) (g : Grp) (s : Stt) (x : Lie) : List Pers := [Pers.row Kd.u8 x.a1 o.data, Pers.row Kd.u8 x.a2 o.old, Pers.row Kd.u8 x.a3 r.data, Pers.row kI x.a4 g.members, Pers.row kPage x.a5 s.pages, Pers.row kRow x.a6 s.rows, Pers.row kI x.a7 s.grp.members]
end Go.Proofs.YtdhdmbmknpjhbaaGreat
