/- Texts of this claim, in one: what the law leans on (part 4). -/
import Derived.Test.YtliacpkblicnhaaGreatJ3
set_option linter.unusedVariables false
set_option linter.unusedSimpArgs false
set_option maxRecDepth 100000
namespace Go.Proofs.YtliacpkblicnhaaGreat
open Go Go.Sx Go.Proofs
set_option maxHeartbeats 2000000 in
theorem wbody_all (m : Msg) (s : Lie) (hm : MsgLen m) (hok : msgOk m) (hn : 0 ≤ m.nonce ∧ m.nonce < 18446744073709551616) (hlog : m.log.length < 100000) : Ct Tryz.prog 42 [msgV m s] [] (msgQ m s)
    (fun u G Q => ((bodyB m).length ≤ 16777216 ∧ ∃ A cp,(bodyB m).length ≤ cp ∧ cp ≤ 9223372036854775807 ∧ u = .tuple #[.slice A (bodyB m).length cp,.bool true] ∧ G = [rowOf A cp (bodyB m)] ∧ Q = []) ∨ (16777216 < (bodyB m).length ∧ (∃ A n cp,u = .tuple #[.slice A n cp,.bool false]) ∧ G = [] ∧ Q = [])) := by
 have hr := msg_rng hok
 have hpn := partsN_rng m
 have hk := hr.kind
 have l0 := hdB_len m
 have l1 := pO_len hr
 have l2 := pR_len hr
 have l3 := pG_len hr
 have l4 := pS_len hr
 have l5 := preB_len hr
 have lS := pS_body m
 refine Ct.intro Tryz.func42 rfl rfl rfl (fun c hc => ?_)
 refine GC.sr_ ?_;refine GL.step rfl (t_box rfl rfl rfl) (GL.ex fun b_t1 => ?_);refine GL.rz 2 ?_;refine GC.sr_ ?_;refine GL.ln_ 0 28 ?_;refine GL.cl Tryz.call61 [] (up 0 8) rfl rfl rfl (by exact parts_ct m s hm) ?_
 rintro _ _ _ ⟨rfl,rfl,rfl⟩
 refine GL.rz 1 ?_;refine GC.rr 1 ?_;refine GL.ld_ 0 ?_;refine GL.reval 18 rfl (congrArg (Value.int .u8) (byI_eq (by omega) (by omega))) ?_;refine GL.step rfl (t_buildSlice rfl Tryz.underlying47 sz_5 ze_5 rfl rfl rfl rfl rfl rfl) (GL.ex fun b_t19 => ?_)
 refine GL.rn 1 ?_;refine GL.ld_ 1 ?_;refine GL.pure rfl (p_convR (t := 3) (by rw [Tryz.underlying3]; simp) Tryz.underlying45 rfl (cvU64 m.src)) ?_
 refine GL.rn 1 ?_;refine GL.ld_ 1 ?_;refine GL.pure rfl (p_convR (t := 3) (by rw [Tryz.underlying3]; simp) Tryz.underlying45 rfl (cvU64 m.dst)) ?_
 refine GL.rn 1 ?_;refine GL.ld_ 1 ?_;refine GL.pure rfl (p_convR (t := 3) (by rw [Tryz.underlying3]; simp) Tryz.underlying45 rfl (cvU64 m.epoch)) ?_
 refine GL.rn 1 ?_;refine GL.ld_ 1 ?_;refine GL.pure rfl (p_convR (t := 3) (by rw [Tryz.underlying3]; simp) Tryz.underlying45 rfl (cvU64 m.view)) ?_
 refine GL.rn 1 ?_;refine GL.ld_ 1 ?_;refine GL.pure rfl (p_convR (t := 3) (by rw [Tryz.underlying3]; simp) Tryz.underlying45 rfl (cvU64 m.num)) ?_
 refine GL.rn 1 ?_;refine GL.ld_ 1 ?_;refine GL.pure rfl (p_convR (t := 3) (by rw [Tryz.underlying3]; simp) Tryz.underlying45 rfl (cvU64 m.commit)) ?_
 refine GL.rn 1 ?_;refine GL.ld_ 1 ?_;refine GL.pure rfl (p_convR (t := 3) (by rw [Tryz.underlying3]; simp) Tryz.underlying45 rfl (cvU64 m.normal)) ?_
 refine GL.rn 1 ?_;refine GL.ld_ 1 ?_;refine GL.reval 42 rfl (congrArg (Value.int .u64) (u64_eq hn.1 hn.2)) ?_;refine GL.rn 1 ?_;refine GL.ld_ 1 ?_;refine GL.pure rfl (p_convR (t := 3) (by rw [Tryz.underlying3]; simp) Tryz.underlying45 rfl (cvU64 m.client)) ?_
 refine GL.rn 1 ?_;refine GL.ld_ 1 ?_;refine GL.pure rfl (p_convR (t := 3) (by rw [Tryz.underlying3]; simp) Tryz.underlying45 rfl (cvU64 m.serial)) ?_
 refine GL.step rfl (t_buildSlice rfl Tryz.underlying180 sz_45 ze_45 rfl rfl rfl rfl rfl rfl) (GL.ex fun b_t49 => ?_);refine GL.freezeC (enc := u8v) (xs := [byI m.kind]) (h1 := fun _ => rfl) (i := 1) rfl ?_;refine GL.freezeC (enc := uv) (xs := [u64 m.src,u64 m.dst,u64 m.epoch,u64 m.view,u64 m.num,u64 m.commit,u64 m.normal,u64 m.nonce,u64 m.client,u64 m.serial]) (h1 := fun _ => rfl) (i := 0) rfl ?_
 refine GL.cl Tryz.call62 [] [1,0] rfl rfl rfl (by exact putall_ct _ [byI m.kind] _ 8 _ [u64 m.src,u64 m.dst,u64 m.epoch,u64 m.view,u64 m.num,u64 m.commit,u64 m.normal,u64 m.nonce,u64 m.client,u64 m.serial] _ (by omega) (by omega) (by simp) (by rw [p256_8]; intro x hx; simp only [List.mem_cons,List.not_mem_nil,or_false] at hx; rcases hx with rfl | rfl | rfl | rfl | rfl | rfl | rfl | rfl | rfl | rfl <;> exact u64_lt _)) ?_
 rintro _ _ _ ⟨A50,cp50,l50,k50,rfl,rfl,rfl⟩
 refine GL.rz 5 ?_;refine GC.rr 2 ?_;refine GL.reval 54 rfl (congrArg (Value.int .u8) (byI_eq hpn.1 hpn.2)) ?_;refine GL.step rfl (t_buildSlice rfl Tryz.underlying47 sz_5 ze_5 rfl rfl rfl rfl rfl rfl) (GL.ex fun b_t55 => ?_)
 refine GL.step rfl (t_append (i := 1) (k := 0) rfl el_47 rfl rfl rfl rfl rfl (allOne_mem rfl) (by (try simp only [List.length_append,List.length_cons,List.length_nil,List.length_map,List.length_take,flZ_length,flI_length,leN_length]); first | omega | (have := opB_len (hr.op (by assumption)); omega) | (have := resB_len (hr.res (by assumption)); omega) | (have := grp_rng (hr.grp (by assumption)); omega) | (have := sttB_len (hr.stt (by assumption)); omega) | (have := log_len hr k; have := entB_len (hr.log _ (gt_elem (l := m.log) (k := k) (by omega))); have : k * 400000 ≤ 100000 * 400000 := Nat.mul_le_mul_right _ (by omega); omega)) (fun _ => rfl)) (GL.ex fun v56 => ?_)
 refine GL.rowIs (i := 1) (m' := ((hdB m)).length) (cs' := ((hdB m)).map u8v) rfl (by first | (simp only [List.length_append,List.length_cons,List.length_nil,List.append_assoc]; done) | (simp only [List.length_append,List.length_cons,List.length_nil,List.append_assoc]; omega) | (simp [leN_length,flI_length,hdB]; done) | (simp [leN_length,flI_length,hdB]; omega) | rfl) (by first | (simp only [List.map_append,List.map_cons,List.map_nil,List.append_assoc]; done) | (simp [leN_length,flI_length,hdB]; done) | rfl) rfl ?_
 refine GL.shape (i := 1) rfl (fun A_pa50 c_pa50 e_pa50 l_pa50 k_pa50 => ?_)
 subst e_pa50
 refine GL.rz 1 ?_;refine GC.rg 1 ?_;refine GC.joinK2 (ks := [1,4]) (is := [0,2]) (js := (up 0 10)) (fun (A1 : Option Addr) (c1 : Nat) => True) (fun (A1 : Option Addr) (c1 : Nat) => [(5,.slice A1 (hdB m ++ pO m).length c1)]) (fun (A1 : Option Addr) (c1 : Nat) => [rowOf A1 c1 (hdB m ++ pO m)]) (fun (A1 : Option Addr) (c1 : Nat) => []) rfl rfl rfl ?_ ?_
 ·refine GC.rr 1 ?_;refine GL.pure rfl (p_andR rfl rfl (and_b1 _ _ _ _)) ?_;refine GL.rz 1 ?_;refine GC.co ?_ ?_
  ·intro h1; try simp only [tst_,bi1,bi2,bi4,bi8] at h1
   refine GC.rr 1 ?_;refine GL.ln_ 2 5 ?_;refine GL.cl Tryz.call63 [] [2,3] rfl rfl rfl (by exact encop_ct m.op _ _ _ _ (hr.op (by assumption))) ?_
   rintro _ _ _ ⟨A63,cp63,l63,k63,rfl,rfl,rfl⟩
   refine GL.rz 4 ?_;refine GC.region ?_;refine GL.rn 2 ?_;refine GL.freezeB (i := 0) rfl ?_;refine GL.step rfl (t_appendS (i := 1) (k := 0) rfl el_47 rfl rfl rfl rfl (by (try simp only [List.length_append,List.length_cons,List.length_nil,List.length_map,List.length_take,flZ_length,flI_length,leN_length]); first | omega | (have := opB_len (hr.op (by assumption)); omega) | (have := resB_len (hr.res (by assumption)); omega) | (have := grp_rng (hr.grp (by assumption)); omega) | (have := sttB_len (hr.stt (by assumption)); omega) | (have := log_len hr k; have := entB_len (hr.log _ (gt_elem (l := m.log) (k := k) (by omega))); have : k * 400000 ≤ 100000 * 400000 := Nat.mul_le_mul_right _ (by omega); omega)) (fun _ => rfl)) (GL.ex fun v68 => ?_)
   refine GL.rowIs (i := 1) (m' := ((hdB m ++ opB m.op)).length) (cs' := ((hdB m ++ opB m.op)).map u8v) rfl (by first | (simp only [List.length_append,List.length_cons,List.length_nil,List.append_assoc]; done) | (simp only [List.length_append,List.length_cons,List.length_nil,List.append_assoc]; omega) | (simp [leN_length,flI_length,hdB]; done) | (simp [leN_length,flI_length,hdB]; omega) | rfl) (by first | (simp only [List.map_append,List.map_cons,List.map_nil,List.append_assoc]; done) | (simp [leN_length,flI_length,hdB]; done) | rfl) rfl ?_
   refine GL.shape (i := 1) rfl (fun A_pa50 c_pa50 e_pa50 l_pa50 k_pa50 => ?_)
   subst e_pa50
   refine GL.rn 1 ?_;refine GL.nil ?_
   exact fun a w h => ⟨(A_pa50),(c_pa50),trivial,by rw [show pO m = opB m.op from if_neg (by assumption)]; exact h.ct [1,0,0] (up 1 10)⟩
  intro h1; try simp only [tst_,bi1,bi2,bi4,bi8] at h1
  refine GC.skip ?_
  exact fun a w h => ⟨(A_pa50),(c_pa50),trivial,by rw [show pO m = [] from if_pos (by assumption),List.append_nil]; exact h.ct [1,0,0] (up 0 10)⟩
 intro A1 c1 hj5
 try dsimp only [List.cons_append,List.nil_append] at hj5 ⊢
 refine GC.joinK2 (ks := [1,4]) (is := [1,2]) (js := (up 0 10)) (fun (A1 : Option Addr) (c1 : Nat) => True) (fun (A1 : Option Addr) (c1 : Nat) => [(5,.slice A1 (hdB m ++ pO m ++ pR m).length c1)]) (fun (A1 : Option Addr) (c1 : Nat) => [rowOf A1 c1 (hdB m ++ pO m ++ pR m)]) (fun (A1 : Option Addr) (c1 : Nat) => []) rfl rfl rfl ?_ ?_
 ·refine GC.rr 1 ?_;refine GL.pure rfl (p_andR rfl rfl (and_b2 _ _ _ _)) ?_;refine GL.rz 1 ?_;refine GC.co ?_ ?_
  ·intro h2; try simp only [tst_,bi1,bi2,bi4,bi8] at h2
   refine GC.rr 1 ?_;refine GL.ln_ 2 2 ?_;refine GL.cl Tryz.call64 [] [4] rfl rfl rfl (by exact encres_ct m.res _ _ (hr.res (by assumption))) ?_
   rintro _ _ _ ⟨A75,cp75,l75,k75,rfl,rfl,rfl⟩
   refine GL.rz 4 ?_;refine GC.region ?_;refine GL.rn 2 ?_;refine GL.freezeB (i := 0) rfl ?_;refine GL.step rfl (t_appendS (i := 0) (k := 0) rfl el_47 rfl rfl rfl rfl (by (try simp only [List.length_append,List.length_cons,List.length_nil,List.length_map,List.length_take,flZ_length,flI_length,leN_length]); first | omega | (have := opB_len (hr.op (by assumption)); omega) | (have := resB_len (hr.res (by assumption)); omega) | (have := grp_rng (hr.grp (by assumption)); omega) | (have := sttB_len (hr.stt (by assumption)); omega) | (have := log_len hr k; have := entB_len (hr.log _ (gt_elem (l := m.log) (k := k) (by omega))); have : k * 400000 ≤ 100000 * 400000 := Nat.mul_le_mul_right _ (by omega); omega)) (fun _ => rfl)) (GL.ex fun v80 => ?_)
   refine GL.rowIs (i := 0) (m' := ((hdB m ++ pO m ++ resB m.res)).length) (cs' := ((hdB m ++ pO m ++ resB m.res)).map u8v) rfl (by first | (simp only [List.length_append,List.length_cons,List.length_nil,List.append_assoc]; done) | (simp only [List.length_append,List.length_cons,List.length_nil,List.append_assoc]; omega) | (simp [leN_length,flI_length,hdB]; done) | (simp [leN_length,flI_length,hdB]; omega) | rfl) (by first | (simp only [List.map_append,List.map_cons,List.map_nil,List.append_assoc]; done) | (simp [leN_length,flI_length,hdB]; done) | rfl) rfl ?_
   refine GL.shape (i := 0) rfl (fun A_b c_b e_b l_b k_b => ?_)
   subst e_b
   refine GL.rn 1 ?_;refine GL.nil ?_
   exact fun a w h => ⟨(A_b),(c_b),trivial,by rw [show pR m = resB m.res from if_neg (by assumption)]; exact h.ct [0,0,0] (up 1 10)⟩
  intro h2; try simp only [tst_,bi1,bi2,bi4,bi8] at h2
  refine GC.skip ?_
  exact fun a w h => ⟨(_),(_),trivial,by rw [show pR m = [] from if_pos (by assumption),List.append_nil]; exact h.cut (is := [0,0,0]) (js := (up 0 10)) ⟨rfl,rfl,rfl,trivial⟩ rfl rfl⟩
 intro A1 c1 hj8
 try dsimp only [List.cons_append,List.nil_append] at hj8 ⊢
 refine GC.joinK2 (ks := [1,4]) (is := [1,2]) (js := (up 0 10)) (fun (A1 : Option Addr) (c1 : Nat) => True) (fun (A1 : Option Addr) (c1 : Nat) => [(5,.slice A1 (hdB m ++ pO m ++ pR m ++ pG m).length c1)]) (fun (A1 : Option Addr) (c1 : Nat) => [rowOf A1 c1 (hdB m ++ pO m ++ pR m ++ pG m)]) (fun (A1 : Option Addr) (c1 : Nat) => []) rfl rfl rfl ?_ ?_
 ·refine GC.rr 1 ?_;refine GL.pure rfl (p_andR rfl rfl (and_b4 _ _ _ _)) ?_;refine GL.rz 1 ?_;refine GC.co ?_ ?_
  ·intro h3; try simp only [tst_,bi1,bi2,bi4,bi8] at h3
   refine GC.seq' ?_
   have gr := grp_rng (hr.grp (by assumption))
   refine GC.region ?_;refine GL.rn 2 ?_;refine GL.ld_ 2 ?_;refine GL.pure rfl (p_convR (t := 3) (by rw [Tryz.underlying3]; simp) Tryz.underlying45 rfl (cvU64 m.grp.epoch)) ?_
   refine GL.step rfl (t_buildSlice rfl Tryz.underlying180 sz_45 ze_45 rfl rfl rfl rfl rfl rfl) (GL.ex fun b_t89 => ?_);refine GL.freezeC (enc := uv) (xs := [u64 m.grp.epoch]) (h1 := fun _ => rfl) (i := 0) rfl ?_;refine GL.cl Tryz.call62 [] [0] rfl rfl rfl (by exact putall_nil 8 _ [u64 m.grp.epoch] _ (by omega) (by omega) (by simp) (by rw [p256_8]; intro x hx; simp at hx; subst hx; exact u64_lt _)) ?_
   rintro _ _ _ ⟨A90,cp90,l90,k90,rfl,rfl,rfl⟩
   refine GL.rn 4 ?_
   refine GL.nil (?_ : GC _ _ _ _)
   refine GC.seq' ?_;refine GC.freezeB (i := 0) rfl ?_;refine GC.regionC (m := 11) (is := [1,1]) (js := (up 0 12)) wide_ rfl rfl rfl ?_;refine GA.tk 0 [1,1] (up 0 12) ?_;refine GA.tk 1 [1,1] (up 0 12) ?_;refine GA.tk 3 [1,1] (up 0 12) ?_
   refine GA.tk 4 [1,1] (up 0 12) ?_;refine GA.tp 5 rfl [1,1] (up 0 12) (i_mem (m_load (i := 1) rfl rfl ag_53 rfl)) ?_;refine GA.tk 6 [1,1] (up 0 12) ?_;refine GA.tp 7 rfl [1,1] (up 0 12) (i_pure (p_convR (t := 3) (r := (((byI (m.grp.members.length : Int)).toNat : Nat) : Int)) (by rw [Tryz.underlying3]; simp) Tryz.underlying5 rfl (cv8 (by omega) (by omega)))) ?_
   refine GA.al [2,8] ?_
   refine GAs.cons (i := 2) rfl rfl (t_appendS (i := 0) (k := 0) rfl el_47 rfl rfl rfl rfl (by (try simp only [List.length_append,List.length_cons,List.length_nil,List.length_map,List.length_take,flZ_length,flI_length,leN_length]); first | omega | (have := opB_len (hr.op (by assumption)); omega) | (have := resB_len (hr.res (by assumption)); omega) | (have := grp_rng (hr.grp (by assumption)); omega) | (have := sttB_len (hr.stt (by assumption)); omega) | (have := log_len hr k; have := entB_len (hr.log _ (gt_elem (l := m.log) (k := k) (by omega))); have : k * 400000 ≤ 100000 * 400000 := Nat.mul_le_mul_right _ (by omega); omega)) (fun _ => rfl)) (by rintro a w ⟨_,h⟩; exact h.me [1,1] (up 0 12)) (GA.ex fun v95 => ?_) ?_
   ·refine GA.al [8] ?_
    refine GAs.cons (i := 8) rfl rfl (t_buildSlice rfl Tryz.underlying47 sz_5 ze_5 rfl rfl rfl rfl rfl rfl) (by rintro a w ⟨_,h⟩; exact h.me [2,2] (up 0 12)) (GA.ex fun b_t101 => ?_) GAs.nil
    refine GA.al [9] ?_
    refine GAs.cons (i := 9) rfl rfl (t_append (i := 1) (k := 0) rfl el_47 rfl rfl rfl rfl rfl (allOne_mem rfl) (by (try simp only [List.length_append,List.length_cons,List.length_nil,List.length_map,List.length_take,flZ_length,flI_length,leN_length]); first | omega | (have := opB_len (hr.op (by assumption)); omega) | (have := resB_len (hr.res (by assumption)); omega) | (have := grp_rng (hr.grp (by assumption)); omega) | (have := sttB_len (hr.stt (by assumption)); omega) | (have := log_len hr k; have := entB_len (hr.log _ (gt_elem (l := m.log) (k := k) (by omega))); have : k * 400000 ≤ 100000 * 400000 := Nat.mul_le_mul_right _ (by omega); omega)) (fun _ => rfl)) (by rintro a w ⟨_,h⟩; exact h.me [2,2] (up 0 12)) (GA.ex fun v102 => ?_) GAs.nil
    refine GA.tk 10 [2,2] (up 0 12) ?_;refine GA.rowIs (i := 1) (m' := ((hdB m ++ pO m ++ pR m ++ flI 8 [u64 m.grp.epoch] ++ [byI (m.grp.members.length : Int)])).length) (cs' := ((hdB m ++ pO m ++ pR m ++ flI 8 [u64 m.grp.epoch] ++ [byI (m.grp.members.length : Int)])).map u8v) rfl (by first | (simp only [List.length_append,List.length_cons,List.length_nil,List.append_assoc]; done) | (simp only [List.length_append,List.length_cons,List.length_nil,List.append_assoc]; omega) | (simp [leN_length,flI_length,hdB]; done) | (simp [leN_length,flI_length,hdB]; omega) | rfl) (by first | (simp only [List.map_append,List.map_cons,List.map_nil,List.append_assoc]; done) | (simp [leN_length,flI_length,hdB]; done) | rfl) rfl ?_
    refine GA.shape (i := 1) rfl (fun A_b c_b e_b l_b k_b => ?_)
    subst e_b
    refine GA.done (by kernel_rfl) (?_ : GC _ _ _ _)
    refine GC.rr 2 ?_;refine GL.ld_ 3 ?_;refine GL.rz 2 ?_;refine GC.block ?_;refine GC.loopK3 (ks := [1,4,105,106]) (is := [0,2,3]) (js := (up 0 12)) (fun (k : Nat) (A1 : Option Addr) (c1 : Nat) => k ≤ m.grp.members.length) (fun (k : Nat) (A1 : Option Addr) (c1 : Nat) => [(5,.slice A1 (hdB m ++ pO m ++ pR m ++ flI 8 [u64 m.grp.epoch] ++ [byI (m.grp.members.length : Int)] ++ (m.grp.members.take k).map byI).length c1),(107,.int .i64 (k : Int))]) (fun (k : Nat) (A1 : Option Addr) (c1 : Nat) => [rowOf A1 c1 (hdB m ++ pO m ++ pR m ++ flI 8 [u64 m.grp.epoch] ++ [byI (m.grp.members.length : Int)] ++ (m.grp.members.take k).map byI)]) (fun (k : Nat) (A1 : Option Addr) (c1 : Nat) => []) (fun (k : Nat) (A1 : Option Addr) (c1 : Nat) => m.grp.members.length - k) (0) (_) (_) rfl rfl rfl (fun a w h => ⟨by omega,by simp only [List.take_zero,List.map_nil,List.append_nil]; exact h.cutK (is := [1,0,0,0]) (js := (up 0 12)) (ks := [1,4,105,106]) ⟨rfl,rfl,trivial⟩ rfl rfl rfl⟩) ?_
    intro k A1 c1 hk
    try dsimp only [List.cons_append,List.nil_append] at hk ⊢
    refine GC.rg 1 ?_;refine GC.seq' ?_;refine GC.co ?_ ?_
    ·intro h4; try simp only [tst_,bi1,bi2,bi4,bi8] at h4
     refine GC.skip (?_ : GC _ _ _ _)
     refine GC.seq' ?_;refine GC.block ?_;refine GC.sr_ ?_;refine GL.step rfl (t_index (i := 7) rfl rfl rfl rfl Tryz.underlying53 sz_3 (by omega) (gt_ok (by omega) (by omega))) (GL.ex fun p_x109 => GL.ex fun r_x109 => GL.and fun ok_x109 => ?_)
     rcases r_x109 with _
     refine GL.step rfl (t_mem rfl (m_loadP (i := 0) rfl rfl ag_3 rfl)) ?_;refine GL.rz 1 ?_;refine GC.region ?_;refine GL.rn 2 ?_;refine GL.pure rfl (p_convR (t := 3) (r := (((byI (gt m.grp.members (k : Int))).toNat : Nat) : Int)) (by rw [Tryz.underlying3]; simp) Tryz.underlying5 rfl (cv8 (by have := (grp_rng (hr.grp (by assumption))).1 _ (gt_elem (l := m.grp.members) (k := k) (by omega)); omega) (by have := (grp_rng (hr.grp (by assumption))).1 _ (gt_elem (l := m.grp.members) (k := k) (by omega)); omega))) ?_
     refine GL.step rfl (t_buildSlice rfl Tryz.underlying47 sz_5 ze_5 rfl rfl rfl rfl rfl rfl) (GL.ex fun b_t114 => ?_);refine GL.step rfl (t_append (i := 1) (k := 0) rfl el_47 rfl rfl rfl rfl rfl (allOne_mem rfl) (by (try simp only [List.length_append,List.length_cons,List.length_nil,List.length_map,List.length_take,flZ_length,flI_length,leN_length]); first | omega | (have := opB_len (hr.op (by assumption)); omega) | (have := resB_len (hr.res (by assumption)); omega) | (have := grp_rng (hr.grp (by assumption)); omega) | (have := sttB_len (hr.stt (by assumption)); omega) | (have := log_len hr k; have := entB_len (hr.log _ (gt_elem (l := m.log) (k := k) (by omega))); have : k * 400000 ≤ 100000 * 400000 := Nat.mul_le_mul_right _ (by omega); omega)) (fun _ => rfl)) (GL.ex fun v115 => ?_)
     refine GL.rowIs (i := 1) (m' := ((hdB m ++ pO m ++ pR m ++ flI 8 [u64 m.grp.epoch] ++ [byI (m.grp.members.length : Int)] ++ (m.grp.members.take k).map byI ++ [byI (gt m.grp.members (k : Int))])).length) (cs' := ((hdB m ++ pO m ++ pR m ++ flI 8 [u64 m.grp.epoch] ++ [byI (m.grp.members.length : Int)] ++ (m.grp.members.take k).map byI ++ [byI (gt m.grp.members (k : Int))])).map u8v) rfl (by first | (simp only [List.length_append,List.length_cons,List.length_nil,List.append_assoc]; done) | (simp only [List.length_append,List.length_cons,List.length_nil,List.append_assoc]; omega) | (simp [leN_length,flI_length,hdB]; done) | (simp [leN_length,flI_length,hdB]; omega) | rfl) (by first | (simp only [List.map_append,List.map_cons,List.map_nil,List.append_assoc]; done) | (simp [leN_length,flI_length,hdB]; done) | rfl) rfl ?_
     refine GL.shape (i := 1) rfl (fun A_b c_b e_b l_b k_b => ?_)
     subst e_b
     refine GL.rn 1 ?_
     refine GL.nil (?_ : GC _ _ _ _)
     refine GC.region ?_;refine GL.pure rfl (p_add rfl rfl (w64 (by omega) (by omega))) ?_;refine GL.rn 1 ?_;refine GL.nil ?_
     exact zq44_
    intro h4; try simp only [tst_,bi1,bi2,bi4,bi8] at h4
    refine GC.exit ?_
    obtain rfl : k = m.grp.members.length := by omega
    exact zq45_
   refine GAs.cons (i := 8) rfl rfl (t_buildSlice rfl Tryz.underlying47 sz_5 ze_5 rfl rfl rfl rfl rfl rfl) (by rintro a w ⟨_,h⟩; exact h.me [2,2] (up 0 12)) (GA.ex fun b_t101 => ?_) GAs.nil
   refine GA.al [2] ?_
   refine GAs.cons (i := 2) rfl rfl (t_appendS (i := 1) (k := 0) rfl el_47 rfl rfl rfl rfl (by (try simp only [List.length_append,List.length_cons,List.length_nil,List.length_map,List.length_take,flZ_length,flI_length,leN_length]); first | omega | (have := opB_len (hr.op (by assumption)); omega) | (have := resB_len (hr.res (by assumption)); omega) | (have := grp_rng (hr.grp (by assumption)); omega) | (have := sttB_len (hr.stt (by assumption)); omega) | (have := log_len hr k; have := entB_len (hr.log _ (gt_elem (l := m.log) (k := k) (by omega))); have : k * 400000 ≤ 100000 * 400000 := Nat.mul_le_mul_right _ (by omega); omega)) (fun _ => rfl)) (by rintro a w ⟨_,h⟩; exact h.me [2,2] (up 0 12)) (GA.ex fun v95 => ?_) GAs.nil
   refine GA.al [9] ?_
   refine GAs.cons (i := 9) rfl rfl (t_append (i := 1) (k := 0) rfl el_47 rfl rfl rfl rfl rfl (allOne_mem rfl) (by (try simp only [List.length_append,List.length_cons,List.length_nil,List.length_map,List.length_take,flZ_length,flI_length,leN_length]); first | omega | (have := opB_len (hr.op (by assumption)); omega) | (have := resB_len (hr.res (by assumption)); omega) | (have := grp_rng (hr.grp (by assumption)); omega) | (have := sttB_len (hr.stt (by assumption)); omega) | (have := log_len hr k; have := entB_len (hr.log _ (gt_elem (l := m.log) (k := k) (by omega))); have : k * 400000 ≤ 100000 * 400000 := Nat.mul_le_mul_right _ (by omega); omega)) (fun _ => rfl)) (by rintro a w ⟨_,h⟩; exact h.me [2,2] (up 0 12)) (GA.ex fun v102 => ?_) GAs.nil
   refine GA.tk 10 [2,2] (up 0 12) ?_;refine GA.rowIs (i := 1) (m' := ((hdB m ++ pO m ++ pR m ++ flI 8 [u64 m.grp.epoch] ++ [byI (m.grp.members.length : Int)])).length) (cs' := ((hdB m ++ pO m ++ pR m ++ flI 8 [u64 m.grp.epoch] ++ [byI (m.grp.members.length : Int)])).map u8v) rfl (by first | (simp only [List.length_append,List.length_cons,List.length_nil,List.append_assoc]; done) | (simp only [List.length_append,List.length_cons,List.length_nil,List.append_assoc]; omega) | (simp [leN_length,flI_length,hdB]; done) | (simp [leN_length,flI_length,hdB]; omega) | rfl) (by first | (simp only [List.map_append,List.map_cons,List.map_nil,List.append_assoc]; done) | (simp [leN_length,flI_length,hdB]; done) | rfl) rfl ?_
   refine GA.shape (i := 1) rfl (fun A_b c_b e_b l_b k_b => ?_)
   subst e_b
   refine GA.done (by kernel_rfl) (?_ : GC _ _ _ _)
   refine GC.rr 2 ?_;refine GL.ld_ 3 ?_;refine GL.rz 2 ?_;refine GC.block ?_;refine GC.loopK3 (ks := [1,4,105,106]) (is := [0,2,3]) (js := (up 0 12)) (fun (k : Nat) (A1 : Option Addr) (c1 : Nat) => k ≤ m.grp.members.length) (fun (k : Nat) (A1 : Option Addr) (c1 : Nat) => [(5,.slice A1 (hdB m ++ pO m ++ pR m ++ flI 8 [u64 m.grp.epoch] ++ [byI (m.grp.members.length : Int)] ++ (m.grp.members.take k).map byI).length c1),(107,.int .i64 (k : Int))]) (fun (k : Nat) (A1 : Option Addr) (c1 : Nat) => [rowOf A1 c1 (hdB m ++ pO m ++ pR m ++ flI 8 [u64 m.grp.epoch] ++ [byI (m.grp.members.length : Int)] ++ (m.grp.members.take k).map byI)]) (fun (k : Nat) (A1 : Option Addr) (c1 : Nat) => []) (fun (k : Nat) (A1 : Option Addr) (c1 : Nat) => m.grp.members.length - k) (0) (_) (_) rfl rfl rfl (fun a w h => ⟨by omega,by simp only [List.take_zero,List.map_nil,List.append_nil]; exact h.cutK (is := [1,0,0,0]) (js := (up 0 12)) (ks := [1,4,105,106]) ⟨rfl,rfl,trivial⟩ rfl rfl rfl⟩) ?_
   intro k A1 c1 hk
   try dsimp only [List.cons_append,List.nil_append] at hk ⊢
   refine GC.rg 1 ?_;refine GC.seq' ?_;refine GC.co ?_ ?_
   ·intro h4; try simp only [tst_,bi1,bi2,bi4,bi8] at h4
    refine GC.skip (?_ : GC _ _ _ _)
    refine GC.seq' ?_;refine GC.block ?_;refine GC.sr_ ?_;refine GL.step rfl (t_index (i := 7) rfl rfl rfl rfl Tryz.underlying53 sz_3 (by omega) (gt_ok (by omega) (by omega))) (GL.ex fun p_x109 => GL.ex fun r_x109 => GL.and fun ok_x109 => ?_)
    rcases r_x109 with _
    refine GL.step rfl (t_mem rfl (m_loadP (i := 0) rfl rfl ag_3 rfl)) ?_;refine GL.rz 1 ?_;refine GC.region ?_;refine GL.rn 2 ?_;refine GL.pure rfl (p_convR (t := 3) (r := (((byI (gt m.grp.members (k : Int))).toNat : Nat) : Int)) (by rw [Tryz.underlying3]; simp) Tryz.underlying5 rfl (cv8 (by have := (grp_rng (hr.grp (by assumption))).1 _ (gt_elem (l := m.grp.members) (k := k) (by omega)); omega) (by have := (grp_rng (hr.grp (by assumption))).1 _ (gt_elem (l := m.grp.members) (k := k) (by omega)); omega))) ?_
    refine GL.step rfl (t_buildSlice rfl Tryz.underlying47 sz_5 ze_5 rfl rfl rfl rfl rfl rfl) (GL.ex fun b_t114 => ?_);refine GL.step rfl (t_append (i := 1) (k := 0) rfl el_47 rfl rfl rfl rfl rfl (allOne_mem rfl) (by (try simp only [List.length_append,List.length_cons,List.length_nil,List.length_map,List.length_take,flZ_length,flI_length,leN_length]); first | omega | (have := opB_len (hr.op (by assumption)); omega) | (have := resB_len (hr.res (by assumption)); omega) | (have := grp_rng (hr.grp (by assumption)); omega) | (have := sttB_len (hr.stt (by assumption)); omega) | (have := log_len hr k; have := entB_len (hr.log _ (gt_elem (l := m.log) (k := k) (by omega))); have : k * 400000 ≤ 100000 * 400000 := Nat.mul_le_mul_right _ (by omega); omega)) (fun _ => rfl)) (GL.ex fun v115 => ?_)
    refine GL.rowIs (i := 1) (m' := ((hdB m ++ pO m ++ pR m ++ flI 8 [u64 m.grp.epoch] ++ [byI (m.grp.members.length : Int)] ++ (m.grp.members.take k).map byI ++ [byI (gt m.grp.members (k : Int))])).length) (cs' := ((hdB m ++ pO m ++ pR m ++ flI 8 [u64 m.grp.epoch] ++ [byI (m.grp.members.length : Int)] ++ (m.grp.members.take k).map byI ++ [byI (gt m.grp.members (k : Int))])).map u8v) rfl (by first | (simp only [List.length_append,List.length_cons,List.length_nil,List.append_assoc]; done) | (simp only [List.length_append,List.length_cons,List.length_nil,List.append_assoc]; omega) | (simp [leN_length,flI_length,hdB]; done) | (simp [leN_length,flI_length,hdB]; omega) | rfl) (by first | (simp only [List.map_append,List.map_cons,List.map_nil,List.append_assoc]; done) | (simp [leN_length,flI_length,hdB]; done) | rfl) rfl ?_
    refine GL.shape (i := 1) rfl (fun A_b c_b e_b l_b k_b => ?_)
    subst e_b
    refine GL.rn 1 ?_
    refine GL.nil (?_ : GC _ _ _ _)
    refine GC.region ?_;refine GL.pure rfl (p_add rfl rfl (w64 (by omega) (by omega))) ?_;refine GL.rn 1 ?_;refine GL.nil ?_
    exact zq44_
   intro h4; try simp only [tst_,bi1,bi2,bi4,bi8] at h4
   refine GC.exit ?_
   obtain rfl : k = m.grp.members.length := by omega
   exact zq45_
  intro h3; try simp only [tst_,bi1,bi2,bi4,bi8] at h3
  refine GC.skip ?_
  exact fun a w h => ⟨(_),(_),trivial,by rw [show pG m = [] from if_pos (by assumption),List.append_nil]; exact h.cut (is := [0,0,0]) (js := (up 0 10)) ⟨rfl,rfl,rfl,trivial⟩ rfl rfl⟩
 intro A1 c1 hj11
 try dsimp only [List.cons_append,List.nil_append] at hj11 ⊢
 refine GC.joinK2 (ks := [1]) (is := [1,2]) (js := (up 0 10)) (fun (A1 : Option Addr) (c1 : Nat) => True) (fun (A1 : Option Addr) (c1 : Nat) => [(5,.slice A1 (hdB m ++ pO m ++ pR m ++ pG m ++ pS m).length c1)]) (fun (A1 : Option Addr) (c1 : Nat) => [rowOf A1 c1 (hdB m ++ pO m ++ pR m ++ pG m ++ pS m)]) (fun (A1 : Option Addr) (c1 : Nat) => []) rfl rfl rfl ?_ ?_
 ·refine GC.rr 1 ?_;refine GL.pure rfl (p_andR rfl rfl (and_b8 _ _ _ _)) ?_;refine GL.rz 1 ?_;refine GC.co ?_ ?_
  ·intro h5; try simp only [tst_,bi1,bi2,bi4,bi8] at h5
   refine GC.seq' ?_
   by_cases hsl : (sttB m.stt).length ≤ 33554432
   ·skip
    refine GC.region ?_;refine GL.rn 1 ?_;refine GL.ln_ 2 7 ?_;refine GL.cl Tryz.call65 [] [6,7,8] rfl rfl rfl (by exact encstt_ok m.stt _ _ _ _ _ _ hm.s (hr.stt (by assumption)) hsl) ?_
    rintro _ _ _ ⟨A123,cp123,l123,k123,rfl,rfl,rfl⟩
    refine GL.rn 5 ?_
    refine GL.nil (?_ : GC _ _ _ _)
    refine GC.seq' ?_;refine GC.rg 2 ?_;refine GC.cond_false rfl ?_
    refine GC.skip (?_ : GC _ _ _ _)
    refine GC.region ?_;refine GL.rn 2 ?_;refine GL.freezeB (i := 0) rfl ?_;refine GL.step rfl (t_appendS (i := 0) (k := 0) rfl el_47 rfl rfl rfl rfl (by (try simp only [List.length_append,List.length_cons,List.length_nil,List.length_map,List.length_take,flZ_length,flI_length,leN_length]); first | omega | (have := opB_len (hr.op (by assumption)); omega) | (have := resB_len (hr.res (by assumption)); omega) | (have := grp_rng (hr.grp (by assumption)); omega) | (have := sttB_len (hr.stt (by assumption)); omega) | (have := log_len hr k; have := entB_len (hr.log _ (gt_elem (l := m.log) (k := k) (by omega))); have : k * 400000 ≤ 100000 * 400000 := Nat.mul_le_mul_right _ (by omega); omega)) (fun _ => rfl)) (GL.ex fun v130 => ?_)
    refine GL.rowIs (i := 0) (m' := ((hdB m ++ pO m ++ pR m ++ pG m ++ sttB m.stt)).length) (cs' := ((hdB m ++ pO m ++ pR m ++ pG m ++ sttB m.stt)).map u8v) rfl (by first | (simp only [List.length_append,List.length_cons,List.length_nil,List.append_assoc]; done) | (simp only [List.length_append,List.length_cons,List.length_nil,List.append_assoc]; omega) | (simp [leN_length,flI_length,hdB]; done) | (simp [leN_length,flI_length,hdB]; omega) | rfl) (by first | (simp only [List.map_append,List.map_cons,List.map_nil,List.append_assoc]; done) | (simp [leN_length,flI_length,hdB]; done) | rfl) rfl ?_
    refine GL.shape (i := 0) rfl (fun A_b c_b e_b l_b k_b => ?_)
    subst e_b
    refine GL.rn 1 ?_;refine GL.nil ?_
    exact fun a w h => ⟨(A_b),(c_b),trivial,by rw [show pS m = sttB m.stt from if_neg (by assumption)]; exact h.ct [0,0,0] (up 1 10)⟩
   skip
   refine GC.region ?_;refine GL.rn 1 ?_;refine GL.ln_ 2 7 ?_;refine GL.cl Tryz.call65 [] [6,7,8] rfl rfl rfl (by exact encstt_long m.stt _ _ _ _ _ _ hm.s (hr.stt (by assumption)) (by omega)) ?_
   rintro _ _ _ ⟨rfl,rfl,rfl⟩
   refine GL.rn 5 ?_
   refine GL.nil (?_ : GC _ _ _ _)
   refine GC.seq' ?_;refine GC.rg 2 ?_;refine GC.cond_true rfl ?_;refine GC.rg 2 ?_;refine GC.ret (Fin.b2 2 3 [] [] ?_)
   have e : pS m = sttB m.stt := if_neg (by assumption)
   rw [e] at lS
   exact .inr ⟨by omega,⟨_,_,_,rfl⟩,rfl,rfl⟩
  intro h5; try simp only [tst_,bi1,bi2,bi4,bi8] at h5
  refine GC.skip ?_
  exact fun a w h => ⟨(_),(_),trivial,by rw [show pS m = [] from if_pos (by assumption),List.append_nil]; exact h.cut (is := [0,0,0]) (js := (up 0 10)) ⟨rfl,rfl,trivial⟩ rfl rfl⟩
 intro A1 c1 hj19
 try dsimp only [List.cons_append,List.nil_append] at hj19 ⊢
 refine GC.rr 2 ?_;refine GL.ld_ 2 ?_;refine GL.rn 1 ?_;refine GL.pure rfl (p_convR (t := 3) (r := ((m.log.length : Nat) : Int)) (by rw [Tryz.underlying3]; simp) Tryz.underlying45 rfl (cvU (by omega) (by omega))) ?_
 refine GL.freezeB (i := 0) rfl ?_;refine GL.cl Tryz.call66 [] [0] rfl rfl rfl (by exact oput_ct _ (hdB m ++ pO m ++ pR m ++ pG m ++ pS m) _ m.log.length 4 (by omega) (by omega) (by simp; omega) (by rw [p256_4]; omega)) ?_
 rintro _ _ _ ⟨A137,cp137,l137,k137,rfl,rfl,rfl⟩
 refine GL.rz 4 ?_;refine GC.seq' ?_;refine GC.rr 1 ?_;refine GL.ld_ 2 ?_;refine GL.rz 2 ?_;refine GC.block ?_;refine GC.loopK3 (ks := [141,142]) (is := [1,2]) (js := (up 0 11)) (fun (k : Nat) (A1 : Option Addr) (c1 : Nat) => k ≤ m.log.length ∧ (preB m ++ (m.log.take k).flatMap entB).length ≤ c1 ∧ c1 ≤ 9223372036854775807) (fun (k : Nat) (A1 : Option Addr) (c1 : Nat) => [(5,.slice A1 (preB m ++ (m.log.take k).flatMap entB).length c1),(143,.int .i64 (k : Int))]) (fun (k : Nat) (A1 : Option Addr) (c1 : Nat) => [rowOf A1 c1 (preB m ++ (m.log.take k).flatMap entB)]) (fun (k : Nat) (A1 : Option Addr) (c1 : Nat) => []) (fun (k : Nat) (A1 : Option Addr) (c1 : Nat) => m.log.length - k) (0) (_) (_) rfl rfl rfl (fun a w h => ⟨⟨by omega,by simp only [List.take_zero,List.flatMap_nil,List.append_nil]; exact l137,k137⟩,by simp only [List.take_zero,List.flatMap_nil,List.append_nil]; exact h.cutK (is := [0,0,0]) (js := (up 0 11)) (ks := [141,142]) ⟨rfl,rfl,trivial⟩ rfl rfl rfl⟩) ?_
 intro k A1 c1 hk
 try dsimp only [List.cons_append,List.nil_append] at hk ⊢
 obtain ⟨hk,hc1,hc2⟩ := hk
 refine GC.rg 1 ?_;refine GC.seq' ?_;refine GC.co ?_ ?_
 ·intro h6; try simp only [tst_,bi1,bi2,bi4,bi8] at h6
  refine GC.skip (?_ : GC _ _ _ _)
  refine GC.seq' ?_;refine GC.block ?_;refine GC.sr_ ?_;refine GL.step rfl (t_index (i := 10) rfl rfl rfl rfl Tryz.underlying62 sz_97 (by omega) (gt_ok (by omega) (by omega))) (GL.ex fun p_x145 => GL.ex fun r_x145 => GL.and fun ok_x145 => ?_)
  rcases r_x145 with ⟨_,⟨_,⟨_,⟨_,⟨_,⟨⟨_,⟨_,⟨_,⟨⟨Ax145_0,cpx145_0⟩,⟨Ax145_1,cpx145_1⟩⟩⟩⟩⟩,⟨_,⟨Ax145_2,cpx145_2⟩⟩⟩⟩⟩⟩⟩⟩
  refine GL.step rfl (t_mem rfl (m_loadPN (i := 0) rfl rfl ag_97 (vs := [_,_,_,_,_,_,_,_,_,_,_,_]) sz_97 ⟨rfl,rfl,rfl,rfl,rfl,rfl,rfl,rfl,rfl,rfl,rfl,rfl,trivial⟩)) ?_;refine GL.step rfl (t_alloc rfl ze_97) (GL.ex fun b_t13 => ?_)
  refine GL.sn_ 0 ?_;refine GL.nl_ ?_;refine GC.seq' ?_;refine GC.sr_ ?_;refine GL.ln_ 0 12 ?_
  have hel := (hm.e _ (gt_elem (l := m.log) (k := k) (by omega))).m
  refine GL.cl Tryz.call67 [] [1,2,3] rfl rfl rfl (by exact encent_ct (gt m.log (k : Int)) _ _ _ _ _ _ (hr.log _ (gt_elem (by omega))) (by omega)) ?_
  rintro _ _ _ ⟨A149,cp149,l149,k149,rfl,rfl,rfl⟩
  refine GL.rz 4 ?_;refine GC.seq' ?_
  have hlk := log_len hr k
  have hek := entB_len (hr.log _ (gt_elem (l := m.log) (k := k) (by omega)))
  have hk4 : k * 400000 ≤ 100000 * 400000 := Nat.mul_le_mul_right _ (by omega)
  have hpl : (preB m ++ (m.log.take k).flatMap entB).length = (preB m).length + ((m.log.take k).flatMap entB).length := List.length_append
  refine GC.region ?_;refine GL.rn 4 ?_;refine GL.pure rfl (p_add rfl rfl (w64 (by omega) (by omega))) ?_;refine GL.rn 1 ?_
  refine GL.nil (?_ : GC _ _ _ _)
  refine GC.co ?_ ?_
  ·intro h7; try simp only [tst_,bi1,bi2,bi4,bi8] at h7
   refine GC.rg 2 ?_;refine GC.ret (Fin.b2 2 3 [] [] ?_)
   have := body_ge' (m := m) (k := k) (by omega)
   rw [List.length_append] at *
   exact .inr ⟨by omega,⟨_,_,_,rfl⟩,rfl,rfl⟩
  intro h7; try simp only [tst_,bi1,bi2,bi4,bi8] at h7
  refine GC.skip (?_ : GC _ _ _ _)
  refine GC.region ?_;refine GL.rn 2 ?_;refine GL.freezeB (i := 0) rfl ?_;refine GL.step rfl (t_appendS (i := 1) (k := 0) rfl el_47 rfl rfl rfl rfl (by (try simp only [List.length_append,List.length_cons,List.length_nil,List.length_map,List.length_take,flZ_length,flI_length,leN_length]); first | omega | (have := opB_len (hr.op (by assumption)); omega) | (have := resB_len (hr.res (by assumption)); omega) | (have := grp_rng (hr.grp (by assumption)); omega) | (have := sttB_len (hr.stt (by assumption)); omega) | (have := log_len hr k; have := entB_len (hr.log _ (gt_elem (l := m.log) (k := k) (by omega))); have : k * 400000 ≤ 100000 * 400000 := Nat.mul_le_mul_right _ (by omega); omega)) (fun _ => rfl)) (GL.ex fun v160 => ?_)
  refine GL.rowIs (i := 1) (m' := ((preB m ++ (m.log.take k).flatMap entB ++ entB (gt m.log (k : Int)))).length) (cs' := ((preB m ++ (m.log.take k).flatMap entB ++ entB (gt m.log (k : Int)))).map u8v) rfl (by first | (simp only [List.length_append,List.length_cons,List.length_nil,List.append_assoc]; done) | (simp only [List.length_append,List.length_cons,List.length_nil,List.append_assoc]; omega) | (simp [leN_length,flI_length,hdB]; done) | (simp [leN_length,flI_length,hdB]; omega) | rfl) (by first | (simp only [List.map_append,List.map_cons,List.map_nil,List.append_assoc]; done) | (simp [leN_length,flI_length,hdB]; done) | rfl) rfl ?_
  refine GL.shape (i := 1) rfl (fun A_b c_b e_b l_b k_b => ?_)
  subst e_b
  refine GL.rn 1 ?_
  refine GL.nil (?_ : GC _ _ _ _)
  refine GC.region ?_;refine GL.pure rfl (p_add rfl rfl (w64 (by omega) (by omega))) ?_;refine GL.rn 1 ?_;refine GL.nil ?_
  exact fun a w h => ⟨(k + 1),(A_b),(c_b),(by omega),⟨by omega,by rw [fm_take (by omega),← List.append_assoc]; exact l_b,k_b⟩,by rw [fm_take (by omega),← List.append_assoc]; exact h.ct [1,1,1] (up 5 11)⟩
 intro h6; try simp only [tst_,bi1,bi2,bi4,bi8] at h6
 refine GC.exit (?_ : GC _ _ _ _)
 refine GC.seq' ?_
 obtain rfl : k = m.log.length := by omega
 rw [List.take_length] at hc1 ⊢
 have hbe : preB m ++ m.log.flatMap entB = bodyB m := rfl
 rw [hbe] at hc1 ⊢
 by_cases hfit : (bodyB m).length ≤ 16777216
 ·skip
  refine GC.region ?_;refine GL.rn 6 ?_
  refine GL.nil (?_ : GC _ _ _ _)
  refine GC.ret (Fin.b2 2 3 [0] [] ?_)
  refine .inl ⟨hfit,_,_,hc1,hc2,?_,rfl,rfl⟩
  exact congrArg (fun b => Value.tuple #[.slice _ _ _,.bool b]) (decide_eq_true (by omega))
 skip
 refine GC.region ?_;refine GL.rn 6 ?_
 refine GL.nil (?_ : GC _ _ _ _)
 refine GC.ret (Fin.b2 2 3 [] [] ?_)
 refine .inr ⟨by omega,⟨A1,(bodyB m).length,c1,?_⟩,rfl,rfl⟩
 exact congrArg (fun b => Value.tuple #[.slice _ _ _,.bool b]) (decide_eq_false (by omega))
theorem stepB_zero {x : BitVec 32} (h : stepB x = 0#32) : x = 0#32 := by
  unfold stepB at h
  apply BitVec.eq_of_toNat_eq
  have hx := x.isLt
  split at h
  · rename_i h0
    have e : x >>> 1 = poly := by
      have := congrArg (· ^^^ poly) h
      simpa [BitVec.xor_assoc] using this
    have e2 := congrArg BitVec.toNat e
    rw [BitVec.toNat_ushiftRight,Nat.shiftRight_eq_div_pow] at e2
    have : poly.toNat = 2197175160 := by decide
    omega
  · rename_i h0
    have e2 := congrArg BitVec.toNat h
    rw [BitVec.toNat_ushiftRight,Nat.shiftRight_eq_div_pow] at e2
    have h0' : x.toNat % 2 = 0 := by
      have : x.getLsbD 0 = x.toNat.testBit 0 := rfl
      rw [this,Nat.testBit_zero] at h0
      simp at h0
      omega
    simp at e2 ⊢
    omega
theorem stepB_inj {x y : BitVec 32} (h : stepB x = stepB y) : x = y := by
  have e : stepB (x ^^^ y) = 0#32 := by rw [stepB_xor,h,BitVec.xor_self]
  have e2 := stepB_zero e
  have := congrArg (· ^^^ y) e2
  simpa [BitVec.xor_assoc] using this
theorem byteB_inj {s t : BitVec 32} {b c : UInt8} (h : byteB s b = byteB t c) : s ^^^ b.toBitVec.zeroExtend 32 = t ^^^ c.toBitVec.zeroExtend 32 := by
  unfold byteB at h
  exact stepB_inj (stepB_inj (stepB_inj (stepB_inj (stepB_inj (stepB_inj (stepB_inj (stepB_inj h)))))))
theorem xor_left {a b c : BitVec 32} (h : a ^^^ b = a ^^^ c) : b = c := by
  have := congrArg (a ^^^ ·) h
  simpa [← BitVec.xor_assoc] using this
theorem xor_right {a b c : BitVec 32} (h : a ^^^ c = b ^^^ c) : a = b := by
  have := congrArg (· ^^^ c) h
  simpa [BitVec.xor_assoc] using this
theorem byteB_byte {s : BitVec 32} {b c : UInt8} (h : byteB s b = byteB s c) : b = c := by
  have e := congrArg BitVec.toNat (xor_left (byteB_inj h))
  simp at e
  have h1 := b.toNat_lt
  have h2 := c.toNat_lt
  exact UInt8.toNat_inj.1 (by omega)
theorem foldB_inj : ∀ (l : List UInt8) {s t : BitVec 32},l.foldl byteB s = l.foldl byteB t → s = t
  | [],_,_,h => h
  | x :: r,_,_,h => xor_right (byteB_inj (foldB_inj r h))
theorem crcB_byte {p q : List UInt8} {b c : UInt8} (h : crcB (p ++ b :: q) = crcB (p ++ c :: q)) : b = c := by
  unfold crcB moreB at h
  have h2 := congrArg (~~~ ·) h
  simp only [BitVec.not_not,List.foldl_append,List.foldl_cons] at h2
  exact byteB_byte (foldB_inj q h2)
theorem leN4_inj {v w : Nat} (hv : v < 4294967296) (hw : w < 4294967296) (h : leN 4 v = leN 4 w) : v = w := by
  simp only [leN4,List.cons.injEq,and_true] at h
  obtain ⟨h1,h2,h3,h4⟩ := h
  have e : ∀ a b : Nat,a < 256 → b < 256 → UInt8.ofNat a = UInt8.ofNat b → a = b := fun a b ha hb h => by
    have := congrArg UInt8.toNat h
    simp at this
    omega
  have e1 := e _ _ (Nat.mod_lt _ (by decide)) (Nat.mod_lt _ (by decide)) h1
  have e2 := e _ _ (Nat.mod_lt _ (by decide)) (Nat.mod_lt _ (by decide)) h2
  have e3 := e _ _ (Nat.mod_lt _ (by decide)) (Nat.mod_lt _ (by decide)) h3
  have e4 := e _ _ (Nat.mod_lt _ (by decide)) (Nat.mod_lt _ (by decide)) h4
  simp only [show (256 : Nat) ^ 1 = 256 from rfl,show (256 : Nat) ^ 2 = 65536 from rfl,show (256 : Nat) ^ 3 = 16777216 from rfl] at e2 e3 e4
  omega
theorem seal_turned {y z : List UInt8} {k : Nat} {c : UInt8} (hk : k < (sealB y).length) (hc : c ≠ gt (sealB y) (k : Int)) (h : (sealB y).set k c = sealB z) : False := by
  have hl : y.length = z.length := by
    have := congrArg List.length h
    rw [List.length_set,sealB_len,sealB_len] at this
    omega
  have hg : gt (sealB y) (k : Int) = (sealB y)[k] := by simp [gt,List.getD_eq_getElem?_getD,hk]
  rw [hg] at hc
  by_cases hky : k < y.length
  · have e : (sealB y).set k c = (y.set k c) ++ leN 4 (crcB y).toNat := by rw [sealB,List.set_append_left _ _ hky]
    rw [e,sealB] at h
    obtain ⟨h1,h2⟩ := List.append_inj h (by rw [List.length_set]; exact hl)
    have h3 := BitVec.eq_of_toNat_eq (leN4_inj (crcB y).isLt (crcB z).isLt h2)
    subst h1
    rw [List.set_eq_take_append_cons_drop,if_pos hky] at h3
    have hy : y = y.take k ++ y[k] :: y.drop (k + 1) := by rw [← List.drop_eq_getElem_cons hky,List.take_append_drop]
    have h4 : crcB (y.take k ++ y[k] :: y.drop (k + 1)) = crcB (y.take k ++ c :: y.drop (k + 1)) := by rw [← hy]; exact h3
    refine hc ?_
    rw [← crcB_byte h4]
    simp [sealB,List.getElem_append_left hky]
  · rw [sealB,sealB,List.set_append_right _ _ (by omega)] at h
    obtain ⟨h1,h2⟩ := List.append_inj h hl
    subst h1
    have hk4 : k - y.length < (leN 4 (crcB y).toNat).length := by rw [sealB_len] at hk; rw [leN_length]; omega
    have e := congrArg (fun l => l[k - y.length]?) h2
    simp only [List.getElem?_set_self hk4,List.getElem?_eq_getElem hk4] at e
    refine hc ?_
    rw [Option.some.inj e]
    simp [sealB,List.getElem_append_right (Nat.le_of_not_lt hky)]
def rdBad (b : List UInt8) : Prop := rdE b ≠ 0 ∨ rdN b + 20 ≠ b.length
theorem rd_zero {b : List UInt8} (h : rdE b = 0) : 16 ≤ b.length ∧ rdN b + 20 ≤ b.length ∧ sealB (seg b 0 (rdN b + 16)) = seg b 0 (rdN b + 20) := by
  unfold rdE at h
  split at h
  · cases h
  · split at h
    · cases h
    · split at h
      · cases h
      · split at h
        · cases h
        · rename_i h1 h2 h3 h4
          exact ⟨by omega,by omega,Classical.not_not.1 h4⟩
theorem valN_leN4 {v : Nat} (h : v < 4294967296) : valN (leN 4 v) = v := by
  rw [leN4]
  simp only [valN]
  simp only [show (256 : Nat) ^ 1 = 256 from rfl,show (256 : Nat) ^ 2 = 65536 from rfl,show (256 : Nat) ^ 3 = 16777216 from rfl]
  have e : ∀ a : Nat,(UInt8.ofNat (a % 256)).toNat = a % 256 := fun a => by simp
  simp only [e]
  omega
theorem rdN_frame {F : List UInt8} {B : List UInt8} (hF : F = frameB B) (hB : B.length ≤ 16777216) {G : List UInt8} (hG : ∀ i : Nat,12 ≤ i → i < 16 → G[i]? = F[i]?) (hl : 16 ≤ G.length) : rdN G = B.length := by
  have e : seg G 12 (12 + 4) = leN 4 B.length := by
    apply List.ext_getElem?
    intro i
    by_cases hi : i < 4
    · rw [seg,List.getElem?_drop,List.getElem?_take,if_pos (by omega),hG _ (by omega) (by omega),hF,frameB,sealB,headB]
      have h12 : ([80,76,4,0] ++ leN 8 0 : List UInt8).length = 12 := by simp [leN_length]
      rw [List.append_assoc,List.append_assoc,List.getElem?_append_right (by omega),h12,show 12 + i - 12 = i by omega,List.getElem?_append_left (by rw [leN_length]; exact hi)]
    · rw [List.getElem?_eq_none (by rw [seg_length (by omega)]; omega),List.getElem?_eq_none (by rw [leN_length]; omega)]
  rw [rdN,e,valN_leN4 (by omega)]
theorem dz_turn {F B : List UInt8} {k : Nat} {x : UInt8} (hF : F = frameB B) (hB : B.length ≤ 16777216) (hk : k < F.length) (hx : x ≠ 0) : rdBad (F.set k (gt F (k : Int) ^^^ x)) := by
  refine Classical.byContradiction fun h => ?_
  have h1 : rdE (F.set k (gt F (k : Int) ^^^ x)) = 0 := Classical.not_not.1 fun g => h (.inl g)
  have h2 : rdN (F.set k (gt F (k : Int) ^^^ x)) + 20 = (F.set k (gt F (k : Int) ^^^ x)).length := Classical.not_not.1 fun g => h (.inr g)
  obtain ⟨_,_,g3⟩ := rd_zero h1
  rw [h2,seg_all] at g3
  subst hF
  refine seal_turned (y := headB B) (k := k) (c := gt (frameB B) (k : Int) ^^^ x) hk (fun e => hx ?_) g3.symm
  have e2 : gt (frameB B) (k : Int) ^^^ x = gt (frameB B) (k : Int) := e
  have := congrArg (gt (frameB B) (k : Int) ^^^ ·) e2
  simpa [← UInt8.xor_assoc] using this
abbrev msgZ : Value := .agg #[.int .u8 0,.int .i64 0,.int .i64 0,.int .i64 0,.int .i64 0,.int .i64 0,.int .i64 0,.int .i64 0,.int .u64 0,.int .i64 0,.int .i64 0,.int .u8 0,.int .i64 0,.int .i64 0,.slice none 0 0,.slice none 0 0,.int .u8 0,.slice none 0 0,.int .i64 0,.slice none 0 0,.int .i64 0,.int .i64 0,.int .i64 0,.slice none 0 0,.slice none 0 0,.int .i64 0,.slice none 0 0,.slice none 0 0]
theorem rdBad_n {b : List UInt8} {k s : Int} {bd : List UInt8} {n : Int} (h : rdBad b) (hr : rdR b k s bd n) (h0 : rdE b = 0) : n ≠ (b.length : Int) := by
  obtain ⟨_,_,_,h4,_⟩ := hr h0
  rcases h with h | h
  · exact absurd h0 h
  · omega
theorem wdec_bad (A : Option Addr) (b : List UInt8) (cp : Nat) (hb : b.length ≤ 200000000000000) (hcp : b.length ≤ cp) (hcp' : cp ≤ 9223372036854775807) (hbad : rdBad b) : Ct Tryz.prog 24 [.slice A b.length cp] [] [Pers.row Kd.u8 A b] (fun u G Q => ∃ e : Int,e ≠ 0 ∧ u = .tuple #[msgZ,.int .i64 e] ∧ G = [] ∧ Q = []) := by
 refine Ct.introD Tryz.func24 rfl rfl rfl (fun c hc hcD => ?_)
 refine GC.sr_ ?_;refine GL.step rfl (t_alloc rfl ze_64) (GL.ex fun b_t2 => ?_);refine GL.step rfl (t_alloc rfl ze_68) (GL.ex fun b_t3 => ?_);refine GL.nr 1 ?_;refine GL.cl Tryz.call47 [] [0] rfl rfl rfl (by exact fread_ct _ b _ hb hcp hcp') ?_
 rintro _ _ _ ⟨k13,s13,A13,bd13,cp13,n13,l13,c13,hr13,rfl,rfl,rfl⟩
 refine GL.rn 4 ?_;refine GL.step rfl (t_alloc rfl ze_121) (GL.ex fun b_t4 => ?_);refine GL.sn_ 0 ?_;refine GL.rz 2 ?_;refine GC.seq' ?_;refine GC.rg 2 ?_;refine GC.co ?_ ?_
 ·intro h1; try simp only [tst_] at h1
  refine GC.sr_ ?_;refine GL.pure rfl (p_build ze_64 of_64 rfl rfl) ?_;refine GL.rn 1 ?_;refine GL.sn_ 2 ?_;refine GL.so_ 1 ?_;refine GL.nl_ ?_;refine GC.ret ?_
  refine fun a w h => FinD.back hcD (rs := [.cell 2 64,.cell 3 68]) (vs := [_,_]) (is := []) (js := []) rfl ⟨⟨2,_,_,_,_,rfl,rfl,.inr ⟨[_,_,_,_,_,_,_,_,_,_,_,_,_,_,_,_,_,_,_,_,_,_,_,_,_,_,_,_],rfl,ag_64,sz_64,⟨rfl,rfl,rfl,rfl,rfl,rfl,rfl,rfl,rfl,rfl,rfl,rfl,rfl,rfl,rfl,rfl,rfl,rfl,rfl,rfl,rfl,rfl,rfl,rfl,rfl,rfl,rfl,rfl,trivial⟩⟩⟩,⟨1,_,_,_,_,rfl,rfl,.inl ⟨ag_68,rfl⟩⟩,trivial⟩ rfl rfl ?_ h
  clear h
  exact ⟨_,by assumption,rfl,rfl,rfl⟩
 intro h1; try simp only [tst_] at h1
 refine GC.skip (?_ : GC _ _ _ _)
 refine GC.seq' ?_;refine GC.rr 5 ?_;refine GL.sp 25 ?_ ?_
 ·intro h2; try simp only [tst_] at h2
  refine GL.rz 9 ?_;refine GC.cond_true rfl ?_;refine GC.sr_ ?_;refine GL.pure rfl (p_build ze_64 of_64 rfl rfl) ?_;refine GL.sn_ 2 ?_;refine GL.so_ 1 ?_;refine GL.nl_ ?_;refine GC.ret ?_
  refine fun a w h => FinD.back hcD (rs := [.cell 2 64,.cell 3 68]) (vs := [_,_]) (is := []) (js := []) rfl ⟨⟨2,_,_,_,_,rfl,rfl,.inr ⟨[_,_,_,_,_,_,_,_,_,_,_,_,_,_,_,_,_,_,_,_,_,_,_,_,_,_,_,_],rfl,ag_64,sz_64,⟨rfl,rfl,rfl,rfl,rfl,rfl,rfl,rfl,rfl,rfl,rfl,rfl,rfl,rfl,rfl,rfl,rfl,rfl,rfl,rfl,rfl,rfl,rfl,rfl,rfl,rfl,rfl,rfl,trivial⟩⟩⟩,⟨1,_,_,_,_,rfl,rfl,.inl ⟨ag_68,rfl⟩⟩,trivial⟩ rfl rfl ?_ h
  clear h
  exact ⟨160,by decide,rfl,rfl,rfl⟩
 intro h2; try simp only [tst_] at h2
 exact absurd h2 (rdBad_n hbad hr13 (by first | assumption | omega))
theorem wbodyo_ok (m : Msg) (s : Lie) (hm : MsgLen m) (hok : msgOk m) (hn : 0 ≤ m.nonce ∧ m.nonce < 18446744073709551616) (hlog : m.log.length < 100000) (hf : (bodyB m).length ≤ 16777216) : Ct Tryz.prog 42 [msgV m s] [] (msgQ m s)
    (fun u G Q => ∃ A cp,(bodyB m).length ≤ cp ∧ cp ≤ 9223372036854775807 ∧ u = .tuple #[.slice A (bodyB m).length cp,.bool true] ∧ G = [rowOf A cp (bodyB m)] ∧ Q = []) :=
  Ct.mono (wbody_all m s hm hok hn hlog) fun u G Q h => h.elim (fun h => h.2) (fun h => by omega)
theorem wbodyo_long (m : Msg) (s : Lie) (hm : MsgLen m) (hok : msgOk m) (hn : 0 ≤ m.nonce ∧ m.nonce < 18446744073709551616) (hlog : m.log.length < 100000) (hf : ¬ (bodyB m).length ≤ 16777216) : Ct Tryz.prog 42 [msgV m s] [] (msgQ m s)
    (fun u G Q => (∃ A n cp,u = .tuple #[.slice A n cp,.bool false]) ∧ G = [] ∧ Q = []) :=
  Ct.mono (wbody_all m s hm hok hn hlog) fun u G Q h => h.elim (fun h => by omega) (fun h => h.2)
theorem wchko_ok (m : Msg) (s : Lie) (hm : MsgLen m) (h : msgOk m) : Ct Tryz.prog 41 [msgV m s] [] (msgQ m s) (fun u G Q => u = .int .i64 0 ∧ G = [] ∧ Q = []) := by
  have := wchk_ct m s hm; rw [msgE_yes h] at this; exact this
theorem wchko_no (m : Msg) (s : Lie) (hm : MsgLen m) (h : ¬ msgOk m) : Ct Tryz.prog 41 [msgV m s] [] (msgQ m s) (fun u G Q => u = .int .i64 160 ∧ G = [] ∧ Q = []) := by
  have := wchk_ct m s hm; rw [msgE_no h] at this; exact this
def encFo (m : Msg) : Int × List UInt8 := if msgOk m then (if (bodyB m).length ≤ 16777216 then (0,frameB (bodyB m)) else (2,[])) else (160,[])
abbrev EncO (e : Int) (F : List UInt8) (u : Value) (G : List Own) (Q : List Pers) : Prop := ∃ A cp,F.length ≤ cp ∧ cp ≤ 9223372036854775807 ∧ u = .tuple #[.slice A F.length cp,.int .i64 e] ∧ G = [rowOf A cp F] ∧ Q = []
theorem wenco_bad (m : Msg) (s : Lie) (hm : MsgLen m) (h : ¬ msgOk m) : Ct Tryz.prog 21 [msgV m s] [] (msgQ m s) (EncO 160 []) := by
 refine Ct.intro Tryz.func21 rfl rfl rfl (fun c hc => ?_)
 refine GC.sr_ ?_;refine GL.step rfl (t_box rfl rfl rfl) (GL.ex fun b_t1 => ?_);refine GL.rz 2 ?_;refine GC.seq' ?_;refine GC.sr_ ?_;refine GL.ln_ 0 28 ?_;refine GL.cl Tryz.call41 [] (up 0 8) rfl rfl rfl (by exact wchko_no m s hm h) ?_
 rintro _ _ _ ⟨rfl,rfl,rfl⟩
 refine GL.rz 1 ?_;refine GC.rg 2 ?_;refine GC.cond_true rfl ?_;refine GC.rg 3 ?_;refine GC.nilrow 5 1 ?_;refine GC.ret (Fin.b2 2 3 [0] [] ?_)
 exact ⟨none,0,by simp,by simp,rfl,rfl,rfl⟩
theorem wenco_ok (m : Msg) (s : Lie) (hm : MsgLen m) (hn : 0 ≤ m.nonce ∧ m.nonce < 18446744073709551616) (hlog : m.log.length < 100000) (h : msgOk m) (hf : (bodyB m).length ≤ 16777216) : Ct Tryz.prog 21 [msgV m s] [] (msgQ m s) (EncO 0 (frameB (bodyB m))) := by
 refine Ct.intro Tryz.func21 rfl rfl rfl (fun c hc => ?_)
 refine GC.sr_ ?_;refine GL.step rfl (t_box rfl rfl rfl) (GL.ex fun b_t1 => ?_);refine GL.rz 2 ?_;refine GC.seq' ?_;refine GC.sr_ ?_;refine GL.ln_ 0 28 ?_;refine GL.cl Tryz.call41 [] (up 0 8) rfl rfl rfl (by exact wchko_ok m s hm h) ?_
 rintro _ _ _ ⟨rfl,rfl,rfl⟩
 refine GL.rz 1 ?_;refine GC.rg 2 ?_;refine GC.cond_false rfl ?_
 refine GC.skip (?_ : GC _ _ _ _)
 refine GC.sr_ ?_;refine GL.ln_ 0 28 ?_;refine GL.cl Tryz.call42 [] (up 0 8) rfl rfl rfl (by exact wbodyo_ok m s hm h hn hlog hf) ?_
 rintro _ _ _ ⟨A14,cp14,l14,k14,rfl,rfl,rfl⟩
 refine GL.rz 5 ?_;refine GC.seq' ?_;refine GC.rg 2 ?_;refine GC.cond_false rfl ?_
 refine GC.skip (?_ : GC _ _ _ _)
 refine GC.sr_ ?_;refine GL.freezeB (i := 0) rfl ?_;refine GL.rn 1 ?_;refine GL.pure rfl (p_build ze_121 of_121 rfl rfl) ?_;refine GL.cl Tryz.call43 [] [0] rfl rfl rfl (by exact fwrite_ct _ (bodyB m) _ hf) ?_
 rintro _ _ _ ⟨A21,cp21,l21,k21,rfl,rfl,rfl⟩
 refine GL.rz 4 ?_;refine GC.ret (Fin.b2 2 3 [0] [] ?_)
 exact ⟨_,_,l21,k21,rfl,rfl,rfl⟩
theorem wenco_long (m : Msg) (s : Lie) (hm : MsgLen m) (hn : 0 ≤ m.nonce ∧ m.nonce < 18446744073709551616) (hlog : m.log.length < 100000) (h : msgOk m) (hf : ¬ (bodyB m).length ≤ 16777216) : Ct Tryz.prog 21 [msgV m s] [] (msgQ m s) (EncO 2 []) := by
 refine Ct.intro Tryz.func21 rfl rfl rfl (fun c hc => ?_)
 refine GC.sr_ ?_;refine GL.step rfl (t_box rfl rfl rfl) (GL.ex fun b_t1 => ?_);refine GL.rz 2 ?_;refine GC.seq' ?_;refine GC.sr_ ?_;refine GL.ln_ 0 28 ?_;refine GL.cl Tryz.call41 [] (up 0 8) rfl rfl rfl (by exact wchko_ok m s hm h) ?_
 rintro _ _ _ ⟨rfl,rfl,rfl⟩
 refine GL.rz 1 ?_;refine GC.rg 2 ?_;refine GC.cond_false rfl ?_
 refine GC.skip (?_ : GC _ _ _ _)
 refine GC.sr_ ?_;refine GL.ln_ 0 28 ?_;refine GL.cl Tryz.call42 [] (up 0 8) rfl rfl rfl (by exact wbodyo_long m s hm h hn hlog hf) ?_
 rintro _ _ _ ⟨⟨A14,n14,cp14,rfl⟩,rfl,rfl⟩
 refine GL.rz 5 ?_;refine GC.seq' ?_;refine GC.rg 2 ?_;refine GC.cond_true rfl ?_;refine GC.rg 2 ?_;refine GC.nilrow 5 1 ?_;refine GC.ret (Fin.b2 2 3 [0] [] ?_)
 exact ⟨none,0,by simp,by simp,rfl,rfl,rfl⟩
theorem wenco_ct (m : Msg) (s : Lie) (hm : MsgLen m) (hn : 0 ≤ m.nonce ∧ m.nonce < 18446744073709551616) (hlog : m.log.length < 100000) : Ct Tryz.prog 21 [msgV m s] [] (msgQ m s) (EncO (encFo m).1 (encFo m).2) := by
  by_cases h : msgOk m
  · by_cases hf : (bodyB m).length ≤ 16777216
    · rw [show encFo m = (0,frameB (bodyB m)) by rw [encFo,if_pos h,if_pos hf]]; exact wenco_ok m s hm hn hlog h hf
    · rw [show encFo m = (2,[]) by rw [encFo,if_pos h,if_neg hf]]; exact wenco_long m s hm hn hlog h hf
  · rw [show encFo m = (160,[]) by rw [encFo,if_neg h]]; exact wenco_bad m s hm h
theorem nonceo_of {m : Msg} (h : okMsg m) : 0 ≤ m.nonce ∧ m.nonce < 18446744073709551616 := by
  have := h.2.2.2.2.2.2.2.2.1
  simp [Lit.wf] at this
  have e1 : IntKind.u64.min = 0 := by decide
  have e2 : IntKind.u64.max = 18446744073709551615 := by decide
  omega
end Go.Proofs.YtliacpkblicnhaaGreat
namespace Go.Proofs.YtliacpkblicnhaaGreat
open Go Go.Sx Go.Proofs
section
variable (p : Nat) (z : Int) (a b : Int)
theorem sendno_ct (P : Value) (d s : Int) (M : Value) (m : Msg) (l : Lie) (hm : MsgLen m) (hn : 0 ≤ m.nonce ∧ m.nonce < 18446744073709551616) (hlog : m.log.length < 100000) (hE : (encFo m).1 ≠ 0) : Ct Tryz.prog 10 [.pointer (some ⟨p,0,none⟩),msgV m l] [netB p d s z P M a b] (msgQ m l) (fun v G Q => v = .int .i64 (encFo m).1 ∧ G = [netB p d s z P M a b] ∧ Q = []) := by
 refine Ct.intro Tryz.func10 rfl rfl rfl (fun c hc => ?_)
 refine GC.sr_ ?_;refine GL.step rfl (t_box rfl rfl rfl) (GL.ex fun b_t3 => ?_);refine GL.rz 1 ?_;refine GC.seq' ?_;refine GC.rr 1 ?_;refine GL.pure rfl (p_pnil_eql Tryz.underlying87 rfl rfl) ?_;refine GL.nl_ ?_;refine GC.cond_false rfl ?_
 refine GC.skip (?_ : GC _ _ _ _)
 refine GC.sr_ ?_;refine GL.ln_ 0 28 ?_;refine GL.cl Tryz.call21 [] (up 0 8) rfl rfl rfl (by exact wenco_ct m l hm hn hlog) ?_
 rintro _ _ _ ⟨A11,cp11,l11,k11,rfl,rfl,rfl⟩
 refine GL.rz 5 ?_;refine GC.seq' ?_;refine GC.rg 2 ?_;refine GC.co ?_ ?_
 ·intro h1; try simp only [tst_] at h1
  refine GC.rg 2 ?_;refine GC.ret (Fin.b1 4 [2] [] ?_)
  exact ⟨rfl,rfl,rfl⟩
 intro h1; try simp only [tst_] at h1
 exfalso; first | exact hE (Decidable.not_not.1 h1) | exact hE h1 | exact hE (by simpa using h1)
end
end Go.Proofs.YtliacpkblicnhaaGreat
namespace Go.Proofs.YtliacpkblicnhaaGreat
open Go Go.Sx Go.Proofs
theorem encFo_inv {m : Msg} (h : (encFo m).1 = 0) : msgOk m ∧ (bodyB m).length ≤ 16777216 ∧ (encFo m).2 = frameB (bodyB m) := by
  unfold encFo at h ⊢
  split at h
  · split at h
    · rename_i h1 h2
      exact ⟨h1,h2,by rw [if_pos h1,if_pos h2]⟩
    · cases h
  · cases h
theorem nomem {q : Int × Int} : decide (q ∈ ([] : List (Int × Int))) = false := by simp
end Go.Proofs.YtliacpkblicnhaaGreat
namespace Go.Proofs.YtliacpkblicnhaaGreat
open Go Go.Sx Go.Proofs
section
variable (p : Nat) (a b : Int)
theorem is0r_ct (z : Int) (P : Value) (s : Int) (m : Nat) (i j : Int) : Ct Tryz.prog 20 [.pointer (some ⟨p,0,none⟩),.int .i64 i,.int .i64 j] [netB p 1 s z P (.map (some m)) a b,.blk m (.map #[] 0)] [] (fun v G Q => v = .bool false ∧ G = [netB p 1 s z P (.map (some m)) a b,.blk m (.map #[] 0)] ∧ Q = []) :=
  Ct.mono (is1_ct p z P a b s m #[] 0 [] i j lk0) fun u G Q h => ⟨h.1.trans (by rw [nomem]),h.2⟩
theorem is1b_ct (z : Int) (P : Value) (s : Int) (m : Nat) (es : Array MapEntry) (ck : Nat) (T : List (Int × Int)) (i j : Int) (hT : LkR T es.toList) (t : Bool) (ht : decide ((i,j) ∈ T) = t) : Ct Tryz.prog 20 [.pointer (some ⟨p,0,none⟩),.int .i64 i,.int .i64 j] [netB p 1 s z P (.map (some m)) a b,.blk m (.map es ck)] [] (fun v G Q => v = .bool t ∧ G = [netB p 1 s z P (.map (some m)) a b,.blk m (.map es ck)] ∧ Q = []) := by
  subst ht; exact is1_ct p z P a b s m es ck T i j hT
theorem send0_lost (m : Msg) (l : Lie) (hm : MsgLen m) (hn : 0 ≤ m.nonce ∧ m.nonce < 18446744073709551616) (hlog : m.log.length < 100000) (hE : (encFo m).1 = 0) (ha : -4611686018427387904 ≤ a ∧ a ≤ 4611686018427387904) (hb : -4611686018427387904 ≤ b ∧ b ≤ 4611686018427387904) (A : Option Addr) (k cp : Nat) (hk : 4096 ≤ k) : Ct Tryz.prog 10 [.pointer (some ⟨p,0,none⟩),msgV m l] [netB p 0 0 0 (.slice A k cp) (.map none) a b] (msgQ m l) (fun v G Q => ∃ mp,v = .int .i64 0 ∧ G = [netB p 1 0 0 (.slice A k cp) (.map (some mp)) (a + 1) (b + 1),.blk mp (.map #[] 0)] ∧ Q = []) := by
 refine Ct.intro Tryz.func10 rfl rfl rfl (fun c hc => ?_)
 refine GC.sr_ ?_;refine GL.step rfl (t_box rfl rfl rfl) (GL.ex fun b_t3 => ?_);refine GL.rz 1 ?_;refine GC.seq' ?_;refine GC.rr 1 ?_;refine GL.pure rfl (p_pnil_eql Tryz.underlying87 rfl rfl) ?_;refine GL.nl_ ?_;refine GC.cond_false rfl ?_
 refine GC.skip (?_ : GC _ _ _ _)
 refine GC.sr_ ?_;refine GL.ln_ 0 28 ?_;refine GL.cl Tryz.call21 [] (up 0 8) rfl rfl rfl (by exact wenco_ct m l hm hn hlog) ?_
 rintro _ _ _ ⟨A11,cp11,l11,k11,rfl,rfl,rfl⟩
 refine GL.rz 5 ?_;refine GC.seq' ?_;refine GC.rg 2 ?_;refine GC.co ?_ ?_
 ·intro h1; try simp only [tst_] at h1
  exfalso; first | exact h1 hE | exact absurd hE h1
 intro h1; try simp only [tst_] at h1
 refine GC.skip (?_ : GC _ _ _ _)
 refine GC.rr 1 ?_;refine GL.cl Tryz.call22 [2] [] rfl rfl rfl (by exact use0_ct _ _ _ _ _ _) ?_
 rintro _ _ _ ⟨m18,rfl,rfl,rfl⟩
 refine GL.rn 2 ?_;refine GL.cl Tryz.call23 [0] [] rfl rfl rfl (by exact addS_ct _ _ _ _ _ _ _ _ ha) ?_
 rintro _ _ _ ⟨rfl,rfl,rfl⟩
 refine GL.nl_ ?_;refine GC.seq' ?_;refine GC.rr 2 ?_;refine GL.ld_ 3 ?_;refine GL.rn 1 ?_;refine GL.ld_ 3 ?_;refine GL.cl Tryz.call20 [0,0] [] rfl rfl rfl (by exact is0r_ct _ _ _ _ _ _ _ _ _) ?_
 rintro _ _ _ ⟨rfl,rfl,rfl⟩
 refine GL.rn 4 ?_;refine GL.dg_ 0 ?_;refine GL.rz 3 ?_;refine GC.co ?_ ?_
 ·intro h2; try simp only [tst_] at h2
  refine GC.rr 3 ?_;refine GL.cl Tryz.call23 [0] [] rfl rfl rfl (by exact addL_ct _ _ _ _ _ _ _ _ hb) ?_
  rintro _ _ _ ⟨rfl,rfl,rfl⟩
  refine GL.nr 1 ?_;refine GL.nl_ ?_;refine GC.ret (Fin.b1 4 [0,0] [] ?_)
  exact ⟨_,rfl,rfl,rfl⟩
 intro h2; try simp only [tst_] at h2
 exfalso; omega
theorem send0_put (m : Msg) (l : Lie) (hm : MsgLen m) (hn : 0 ≤ m.nonce ∧ m.nonce < 18446744073709551616) (hlog : m.log.length < 100000) (hE : (encFo m).1 = 0) (ha : -4611686018427387904 ≤ a ∧ a ≤ 4611686018427387904) (hb : -4611686018427387904 ≤ b ∧ b ≤ 4611686018427387904) (A : Option Addr) (r : List Pk) (cp : Nat) (hk : r.length < 4096) : Ct Tryz.prog 10 [.pointer (some ⟨p,0,none⟩),msgV m l] [netB p 0 0 0 (.slice A r.length cp) (.map none) a b,rowP A cp r] (msgQ m l) (fun v G Q => ∃ mp A' cp' Ae ce,v = .int .i64 0 ∧ G = [netB p 1 0 0 (.slice A' (r.length + 1) cp') (.map (some mp)) (a + 1) b,.blk mp (.map #[] 0),.row (.slice A' (r.length + 1) cp') 102 2 (r.length + 1) (pkC r ++ [.slice Ae (encFo m).2.length ce,.bool false]),rowOf Ae ce (encFo m).2] ∧ Q = []) := by
 refine Ct.intro Tryz.func10 rfl rfl rfl (fun c hc => ?_)
 refine GC.sr_ ?_;refine GL.step rfl (t_box rfl rfl rfl) (GL.ex fun b_t3 => ?_);refine GL.rz 1 ?_;refine GC.seq' ?_;refine GC.rr 1 ?_;refine GL.pure rfl (p_pnil_eql Tryz.underlying87 rfl rfl) ?_;refine GL.nl_ ?_;refine GC.cond_false rfl ?_
 refine GC.skip (?_ : GC _ _ _ _)
 refine GC.sr_ ?_;refine GL.ln_ 0 28 ?_;refine GL.cl Tryz.call21 [] (up 0 8) rfl rfl rfl (by exact wenco_ct m l hm hn hlog) ?_
 rintro _ _ _ ⟨A11,cp11,l11,k11,rfl,rfl,rfl⟩
 refine GL.rz 5 ?_;refine GC.seq' ?_;refine GC.rg 2 ?_;refine GC.co ?_ ?_
 ·intro h1; try simp only [tst_] at h1
  exfalso; first | exact h1 hE | exact absurd hE h1
 intro h1; try simp only [tst_] at h1
 refine GC.skip (?_ : GC _ _ _ _)
 refine GC.rr 1 ?_;refine GL.cl Tryz.call22 [2] [] rfl rfl rfl (by exact use0_ct _ _ _ _ _ _) ?_
 rintro _ _ _ ⟨m18,rfl,rfl,rfl⟩
 refine GL.rn 2 ?_;refine GL.cl Tryz.call23 [0] [] rfl rfl rfl (by exact addS_ct _ _ _ _ _ _ _ _ ha) ?_
 rintro _ _ _ ⟨rfl,rfl,rfl⟩
 refine GL.nl_ ?_;refine GC.seq' ?_;refine GC.rr 2 ?_;refine GL.ld_ 3 ?_;refine GL.rn 1 ?_;refine GL.ld_ 3 ?_;refine GL.cl Tryz.call20 [0,0] [] rfl rfl rfl (by exact is0r_ct _ _ _ _ _ _ _ _ _) ?_
 rintro _ _ _ ⟨rfl,rfl,rfl⟩
 refine GL.rn 4 ?_;refine GL.dg_ 0 ?_;refine GL.rz 3 ?_;refine GC.co ?_ ?_
 ·intro h2; try simp only [tst_] at h2
  exfalso; omega
 intro h2; try simp only [tst_] at h2
 refine GC.skip (?_ : GC _ _ _ _)
 refine GC.rr 4 ?_;refine GL.ld_ 0 ?_;refine GL.rn 1 ?_;refine GL.pure rfl (p_build ze_102 of_102 rfl rfl) ?_;refine GL.step rfl (t_buildSlice rfl Tryz.underlying36 sz_102 ze_102 rfl rfl rfl rfl rfl rfl) (GL.ex fun b_t47 => ?_)
 refine GL.step rfl (t_append (i := 5) (k := 0) rfl el_36 rfl rfl rfl rfl rfl (allOne_mem rfl) (by omega) (fun _ => rfl)) (GL.ex fun v48 => ?_);refine GL.shape (i := 5) rfl (fun A_v48 c_v48 e_v48 l_v48 k_v48 => ?_)
 subst e_v48
 refine GL.rn 2 ?_;refine GL.so_ 1 ?_;refine GL.nr 1 ?_;refine GL.nl_ ?_;refine GC.ret (Fin.b1 4 [1,1,3,1] [] ?_)
 exact ⟨_,_,_,_,_,rfl,rfl,rfl⟩
theorem send1_cut (m : Msg) (l : Lie) (hm : MsgLen m) (hn : 0 ≤ m.nonce ∧ m.nonce < 18446744073709551616) (hlog : m.log.length < 100000) (hE : (encFo m).1 = 0) (ha : -4611686018427387904 ≤ a ∧ a ≤ 4611686018427387904) (hb : -4611686018427387904 ≤ b ∧ b ≤ 4611686018427387904) (P : Value) (mp : Nat) (es : Array MapEntry) (ck : Nat) (T : List (Int × Int)) (hT : LkR T es.toList) (hk : (m.src,m.dst) ∈ T) : Ct Tryz.prog 10 [.pointer (some ⟨p,0,none⟩),msgV m l] [netB p 1 0 0 P (.map (some mp)) a b,.blk mp (.map es ck)] (msgQ m l) (fun v G Q => v = .int .i64 0 ∧ G = [netB p 1 0 0 P (.map (some mp)) (a + 1) (b + 1),.blk mp (.map es ck)] ∧ Q = []) := by
 refine Ct.intro Tryz.func10 rfl rfl rfl (fun c hc => ?_)
 refine GC.sr_ ?_;refine GL.step rfl (t_box rfl rfl rfl) (GL.ex fun b_t3 => ?_);refine GL.rz 1 ?_;refine GC.seq' ?_;refine GC.rr 1 ?_;refine GL.pure rfl (p_pnil_eql Tryz.underlying87 rfl rfl) ?_;refine GL.nl_ ?_;refine GC.cond_false rfl ?_
 refine GC.skip (?_ : GC _ _ _ _)
 refine GC.sr_ ?_;refine GL.ln_ 0 28 ?_;refine GL.cl Tryz.call21 [] (up 0 8) rfl rfl rfl (by exact wenco_ct m l hm hn hlog) ?_
 rintro _ _ _ ⟨A11,cp11,l11,k11,rfl,rfl,rfl⟩
 refine GL.rz 5 ?_;refine GC.seq' ?_;refine GC.rg 2 ?_;refine GC.co ?_ ?_
 ·intro h1; try simp only [tst_] at h1
  exfalso; first | exact h1 hE | exact absurd hE h1
 intro h1; try simp only [tst_] at h1
 refine GC.skip (?_ : GC _ _ _ _)
 refine GC.rr 1 ?_;refine GL.cl Tryz.call22 [2] [] rfl rfl rfl (by exact use1r_ct _ _ _ _ _ _ _) ?_
 rintro _ _ _ ⟨rfl,rfl,rfl⟩
 refine GL.rn 2 ?_;refine GL.cl Tryz.call23 [0] [] rfl rfl rfl (by exact addS_ct _ _ _ _ _ _ _ _ ha) ?_
 rintro _ _ _ ⟨rfl,rfl,rfl⟩
 refine GL.nl_ ?_;refine GC.seq' ?_;refine GC.rr 2 ?_;refine GL.ld_ 2 ?_;refine GL.rn 1 ?_;refine GL.ld_ 2 ?_;refine GL.cl Tryz.call20 [0,2] [] rfl rfl rfl (by exact is1b_ct _ _ _ _ _ _ _ _ _ _ _ _ hT true (decide_eq_true hk)) ?_
 rintro _ _ _ ⟨rfl,rfl,rfl⟩
 refine GL.rz 8 ?_;refine GC.cond_true rfl ?_;refine GC.rr 3 ?_;refine GL.cl Tryz.call23 [0] [] rfl rfl rfl (by exact addL_ct _ _ _ _ _ _ _ _ hb) ?_
 rintro _ _ _ ⟨rfl,rfl,rfl⟩
 refine GL.nr 1 ?_;refine GL.nl_ ?_;refine GC.ret (Fin.b1 4 [0,0] [] ?_)
 exact ⟨rfl,rfl,rfl⟩
theorem send1_lost (m : Msg) (l : Lie) (hm : MsgLen m) (hn : 0 ≤ m.nonce ∧ m.nonce < 18446744073709551616) (hlog : m.log.length < 100000) (hE : (encFo m).1 = 0) (ha : -4611686018427387904 ≤ a ∧ a ≤ 4611686018427387904) (hb : -4611686018427387904 ≤ b ∧ b ≤ 4611686018427387904) (A : Option Addr) (k cp : Nat) (mp : Nat) (es : Array MapEntry) (ck : Nat) (T : List (Int × Int)) (hT : LkR T es.toList) (hx : (m.src,m.dst) ∉ T) (hk : 4096 ≤ k) : Ct Tryz.prog 10 [.pointer (some ⟨p,0,none⟩),msgV m l] [netB p 1 0 0 (.slice A k cp) (.map (some mp)) a b,.blk mp (.map es ck)] (msgQ m l) (fun v G Q => v = .int .i64 0 ∧ G = [netB p 1 0 0 (.slice A k cp) (.map (some mp)) (a + 1) (b + 1),.blk mp (.map es ck)] ∧ Q = []) := by
 refine Ct.intro Tryz.func10 rfl rfl rfl (fun c hc => ?_)
 refine GC.sr_ ?_;refine GL.step rfl (t_box rfl rfl rfl) (GL.ex fun b_t3 => ?_);refine GL.rz 1 ?_;refine GC.seq' ?_;refine GC.rr 1 ?_;refine GL.pure rfl (p_pnil_eql Tryz.underlying87 rfl rfl) ?_;refine GL.nl_ ?_;refine GC.cond_false rfl ?_
 refine GC.skip (?_ : GC _ _ _ _)
 refine GC.sr_ ?_;refine GL.ln_ 0 28 ?_;refine GL.cl Tryz.call21 [] (up 0 8) rfl rfl rfl (by exact wenco_ct m l hm hn hlog) ?_
 rintro _ _ _ ⟨A11,cp11,l11,k11,rfl,rfl,rfl⟩
 refine GL.rz 5 ?_;refine GC.seq' ?_;refine GC.rg 2 ?_;refine GC.co ?_ ?_
 ·intro h1; try simp only [tst_] at h1
  exfalso; first | exact h1 hE | exact absurd hE h1
 intro h1; try simp only [tst_] at h1
 refine GC.skip (?_ : GC _ _ _ _)
 refine GC.rr 1 ?_;refine GL.cl Tryz.call22 [2] [] rfl rfl rfl (by exact use1r_ct _ _ _ _ _ _ _) ?_
 rintro _ _ _ ⟨rfl,rfl,rfl⟩
 refine GL.rn 2 ?_;refine GL.cl Tryz.call23 [0] [] rfl rfl rfl (by exact addS_ct _ _ _ _ _ _ _ _ ha) ?_
 rintro _ _ _ ⟨rfl,rfl,rfl⟩
 refine GL.nl_ ?_;refine GC.seq' ?_;refine GC.rr 2 ?_;refine GL.ld_ 2 ?_;refine GL.rn 1 ?_;refine GL.ld_ 2 ?_;refine GL.cl Tryz.call20 [0,2] [] rfl rfl rfl (by exact is1b_ct _ _ _ _ _ _ _ _ _ _ _ _ hT false (decide_eq_false hx)) ?_
 rintro _ _ _ ⟨rfl,rfl,rfl⟩
 refine GL.rn 4 ?_;refine GL.dg_ 0 ?_;refine GL.rz 3 ?_;refine GC.co ?_ ?_
 ·intro h2; try simp only [tst_] at h2
  refine GC.rr 3 ?_;refine GL.cl Tryz.call23 [0] [] rfl rfl rfl (by exact addL_ct _ _ _ _ _ _ _ _ hb) ?_
  rintro _ _ _ ⟨rfl,rfl,rfl⟩
  refine GL.nr 1 ?_;refine GL.nl_ ?_;refine GC.ret (Fin.b1 4 [0,0] [] ?_)
  exact ⟨rfl,rfl,rfl⟩
 intro h2; try simp only [tst_] at h2
 exfalso; omega
theorem send1_put (m : Msg) (l : Lie) (hm : MsgLen m) (hn : 0 ≤ m.nonce ∧ m.nonce < 18446744073709551616) (hlog : m.log.length < 100000) (hE : (encFo m).1 = 0) (ha : -4611686018427387904 ≤ a ∧ a ≤ 4611686018427387904) (hb : -4611686018427387904 ≤ b ∧ b ≤ 4611686018427387904) (A : Option Addr) (r : List Pk) (cp : Nat) (mp : Nat) (es : Array MapEntry) (ck : Nat) (T : List (Int × Int)) (hT : LkR T es.toList) (hx : (m.src,m.dst) ∉ T) (hk : r.length < 4096) : Ct Tryz.prog 10 [.pointer (some ⟨p,0,none⟩),msgV m l] [netB p 1 0 0 (.slice A r.length cp) (.map (some mp)) a b,.blk mp (.map es ck),rowP A cp r] (msgQ m l) (fun v G Q => ∃ A' cp' Ae ce,v = .int .i64 0 ∧ G = [netB p 1 0 0 (.slice A' (r.length + 1) cp') (.map (some mp)) (a + 1) b,.blk mp (.map es ck),.row (.slice A' (r.length + 1) cp') 102 2 (r.length + 1) (pkC r ++ [.slice Ae (encFo m).2.length ce,.bool false]),rowOf Ae ce (encFo m).2] ∧ Q = []) := by
 refine Ct.intro Tryz.func10 rfl rfl rfl (fun c hc => ?_)
 refine GC.sr_ ?_;refine GL.step rfl (t_box rfl rfl rfl) (GL.ex fun b_t3 => ?_);refine GL.rz 1 ?_;refine GC.seq' ?_;refine GC.rr 1 ?_;refine GL.pure rfl (p_pnil_eql Tryz.underlying87 rfl rfl) ?_;refine GL.nl_ ?_;refine GC.cond_false rfl ?_
 refine GC.skip (?_ : GC _ _ _ _)
 refine GC.sr_ ?_;refine GL.ln_ 0 28 ?_;refine GL.cl Tryz.call21 [] (up 0 8) rfl rfl rfl (by exact wenco_ct m l hm hn hlog) ?_
 rintro _ _ _ ⟨A11,cp11,l11,k11,rfl,rfl,rfl⟩
 refine GL.rz 5 ?_;refine GC.seq' ?_;refine GC.rg 2 ?_;refine GC.co ?_ ?_
 ·intro h1; try simp only [tst_] at h1
  exfalso; first | exact h1 hE | exact absurd hE h1
 intro h1; try simp only [tst_] at h1
 refine GC.skip (?_ : GC _ _ _ _)
 refine GC.rr 1 ?_;refine GL.cl Tryz.call22 [2] [] rfl rfl rfl (by exact use1r_ct _ _ _ _ _ _ _) ?_
 rintro _ _ _ ⟨rfl,rfl,rfl⟩
 refine GL.rn 2 ?_;refine GL.cl Tryz.call23 [0] [] rfl rfl rfl (by exact addS_ct _ _ _ _ _ _ _ _ ha) ?_
 rintro _ _ _ ⟨rfl,rfl,rfl⟩
 refine GL.nl_ ?_;refine GC.seq' ?_;refine GC.rr 2 ?_;refine GL.ld_ 2 ?_;refine GL.rn 1 ?_;refine GL.ld_ 2 ?_;refine GL.cl Tryz.call20 [0,2] [] rfl rfl rfl (by exact is1b_ct _ _ _ _ _ _ _ _ _ _ _ _ hT false (decide_eq_false hx)) ?_
 rintro _ _ _ ⟨rfl,rfl,rfl⟩
 refine GL.rn 4 ?_;refine GL.dg_ 0 ?_;refine GL.rz 3 ?_;refine GC.co ?_ ?_
 ·intro h2; try simp only [tst_] at h2
  exfalso; omega
 intro h2; try simp only [tst_] at h2
 refine GC.skip (?_ : GC _ _ _ _)
 refine GC.rr 4 ?_;refine GL.ld_ 0 ?_;refine GL.rn 1 ?_;refine GL.pure rfl (p_build ze_102 of_102 rfl rfl) ?_;refine GL.step rfl (t_buildSlice rfl Tryz.underlying36 sz_102 ze_102 rfl rfl rfl rfl rfl rfl) (GL.ex fun b_t47 => ?_)
 refine GL.step rfl (t_append (i := 5) (k := 0) rfl el_36 rfl rfl rfl rfl rfl (allOne_mem rfl) (by omega) (fun _ => rfl)) (GL.ex fun v48 => ?_);refine GL.shape (i := 5) rfl (fun A_v48 c_v48 e_v48 l_v48 k_v48 => ?_)
 subst e_v48
 refine GL.rn 2 ?_;refine GL.so_ 1 ?_;refine GL.nr 1 ?_;refine GL.nl_ ?_;refine GC.ret (Fin.b1 4 [1,1,3,1] [] ?_)
 exact ⟨_,_,_,_,rfl,rfl,rfl⟩
end
end Go.Proofs.YtliacpkblicnhaaGreat
namespace Go.Proofs.YtliacpkblicnhaaGreat
open Go Go.Sx Go.Proofs
structure NX where
  ps : List Pkt
  T : List (Int × Int)
  sent : Int
  lost : Int
structure NY where
  d : Int
  A : Option Addr
  cp : Nat
  l : List Pk
  M : Value
  mp : List Own
def LinkS (d : Int) (M : Value) (mp : List Own) (T : List (Int × Int)) : Prop := (d = 0 ∧ M = .map none ∧ mp = [] ∧ T = []) ∨ ∃ m es ck,d = 1 ∧ M = .map (some m) ∧ mp = [.blk m (.map es ck)] ∧ LkR T es.toList
def NY.rel (x : NX) (y : NY) : Prop := y.l.map pkT = x.ps ∧ LinkS y.d y.M y.mp x.T
abbrev NY.G (p : Nat) (x : NX) (y : NY) : List Own := netB p y.d 0 0 (.slice y.A y.l.length y.cp) y.M x.sent x.lost :: (y.mp ++ (rowP y.A y.cp y.l :: y.l.map qO))
def netO (p : Nat) (K : List Nat) (x : NX) : Own := Own.some K (fun y : {y : NY // NY.rel x y} => NY.G p x y.1)
theorem net_open {p : Nat} {K : List Nat} {x : NX} {R : List Own} (w : World) (h : ∀ o ∈ netO p K x :: R,o.holds w) : ∃ y,NY.rel x y ∧ SubK (NY.G p x y ++ R) (netO p K x :: R) ∧ ∀ o ∈ NY.G p x y ++ R,o.holds w := by
  obtain ⟨y,hk,ho⟩ := h _ (List.mem_cons_self ..)
  exact ⟨y.1,y.2,SubK.eq (by rw [keysOf_append,keysOf_cons,hk]; rfl),holds_app.2 ⟨ho,fun o hm => h o (List.mem_cons_of_mem _ hm)⟩⟩
def RG (H' H : List Own) : Prop := SubK H' H ∧ ∀ w,(∀ o ∈ H,o.holds w) → ∀ o ∈ H',o.holds w
theorem RG.perm {H' H L : List Own} (h : H.Perm (H' ++ L)) : RG H' H :=
  ⟨SubK.of (keysOf L) (by rw [← keysOf_append]; exact List.Perm.flatMap_right Own.keys h),fun w ho o hm => ho o (h.mem_iff.2 (List.mem_append_left _ hm))⟩
theorem RG.trans {A B C : List Own} (h : RG A B) (g : RG B C) : RG A C := by
  obtain ⟨⟨l,h1⟩,h2⟩ := h
  obtain ⟨⟨m,g1⟩,g2⟩ := g
  exact ⟨⟨l ++ m,g1.trans (by rw [← List.append_assoc]; exact h1.append (List.Perm.refl _))⟩,fun w ho => h2 w (g2 w ho)⟩
theorem RG.one {o o' : Own} (R : List Own) (hk : o'.keys = o.keys) (hh : ∀ w,o.holds w → o'.holds w) : RG (o' :: R) (o :: R) :=
  ⟨SubK.eq (by rw [keysOf_cons,keysOf_cons,hk]),fun w ho x hx => (List.mem_cons.1 hx).elim (fun e => e ▸ hh w (ho _ (List.mem_cons_self ..))) (fun hx => ho x (List.mem_cons_of_mem _ hx))⟩
theorem RG.cons {A B : List Own} (o : Own) (h : RG A B) : RG (o :: A) (o :: B) := by
  obtain ⟨⟨l,h1⟩,h2⟩ := h
  refine ⟨⟨l,?_⟩,fun w ho x hx => (List.mem_cons.1 hx).elim (fun e => e ▸ ho _ (List.mem_cons_self ..)) (fun hx => h2 w (fun o hm => ho o (List.mem_cons_of_mem _ hm)) x hx)⟩
  rw [keysOf_cons,keysOf_cons,List.append_assoc]
  exact (List.Perm.refl _).append h1
def NetP (p : Nat) (R : Value → NX → List Own → Prop) (v : Value) (H : List Own) (Q : List Pers) : Prop := ∃ x y E,R v x E ∧ NY.rel x y ∧ RG (NY.G p x y ++ E) H ∧ Q = []
theorem Ct.net {P : Program} {f : FuncId} {args : List Value} {Q : List Pers} {p : Nat} {K : List Nat} {x : NX} {R : Value → NX → List Own → Prop} (h : ∀ y,NY.rel x y → Ct P f args (NY.G p x y) Q (NetP p R)) :
    Ct P f args [netO p K x] Q (fun v G Q' => ∃ x' E K',R v x' E ∧ G = netO p K' x' :: E ∧ Q' = []) := by
  refine Ct.regroup (fun w ho => net_open (R := []) w ho) (fun y hy => ?_)
  rw [List.append_nil]
  refine Ct.post (h y hy) ?_
  rintro v H Q' ⟨x',y',E,hR,hy',⟨hk,hh⟩,rfl⟩
  have e : keysOf (netO p (keysOf (NY.G p x' y')) x' :: E) = keysOf (NY.G p x' y' ++ E) := by rw [keysOf_cons,keysOf_append]; rfl
  refine ⟨_,⟨x',E,keysOf (NY.G p x' y'),hR,rfl,rfl⟩,?_,fun w ho o hm => ?_⟩
  · obtain ⟨l,hk⟩ := hk
    exact ⟨l,by rw [e]; exact hk⟩
  · have hw := holds_app.1 (hh w ho)
    rcases List.mem_cons.1 hm with rfl | hm
    · exact ⟨⟨y',hy'⟩,rfl,hw.1⟩
    · exact hw.2 o hm
theorem Ct.permG {P : Program} {f : FuncId} {args : List Value} {G H : List Own} {Q : List Pers} {R : Value → List Own → List Pers → Prop} (hp : G.Perm H) (h : Ct P f args H Q R) : Ct P f args G Q R :=
  Ct.regroup (F := fun _ : Unit => H) (p := fun _ => True) (fun w ho => ⟨(),trivial,SubK.of [] (by rw [List.append_nil]; exact List.Perm.flatMap_right Own.keys hp),fun o hm => ho o (hp.mem_iff.2 hm)⟩) fun _ _ => h
theorem Ct.netF {P : Program} {f : FuncId} {args : List Value} {Q : List Pers} {p : Nat} {G G0 Gr : List Own} {R : Value → NX → List Own → Prop} {R0 : Value → List Own → List Pers → Prop} (hp : G.Perm (G0 ++ Gr)) (h : Ct P f args G0 Q R0)
    (hr : ∀ v H Q',R0 v H Q' → ∃ x y E,R v x E ∧ NY.rel x y ∧ RG (NY.G p x y ++ E) (H ++ Gr) ∧ Q' = []) : Ct P f args G Q (NetP p R) :=
  Ct.permG hp (Ct.mono (Ct.frame h Gr) fun v G' Q' ⟨H,h1,h2⟩ => by subst h2; exact hr v H Q' h1)
def NX.at (x : NX) (i : Int) : Int := if 0 ≤ i ∧ i < x.ps.length then 0 else 5
def NX.drop (x : NX) (i : Int) : NX := if 0 ≤ i ∧ i < x.ps.length then { x with ps := x.ps.eraseIdx i.toNat } else x
def NX.cut (x : NX) (i j : Int) (on : Bool) : NX := { x with T := if on then lkPut x.T (i,j) else x.T.erase (i,j) }
def NX.send (x : NX) (m : Msg) : NX := if (encFo m).1 = 0 then (if (m.src,m.dst) ∈ x.T ∨ 4096 ≤ x.ps.length then { x with sent := x.sent + 1,lost := x.lost + 1 } else { x with ps := x.ps ++ [⟨(encFo m).2,false⟩],sent := x.sent + 1 }) else x
def NX.spoil (x : NX) (i at_ : Int) (mk : UInt8) : Int × NX := if 0 ≤ i ∧ i < x.ps.length ∧ 0 ≤ at_ ∧ at_ < (gt x.ps i).b.length then (if (gt x.ps i).bad then (230,x) else (0,{ x with ps := x.ps.set i.toNat ⟨(gt x.ps i).b.set at_.toNat (gt (gt x.ps i).b at_ ^^^ mk),true⟩ })) else (5,x)
theorem rel_len {x : NX} {y : NY} (h : NY.rel x y) : x.ps.length = y.l.length := by rw [← h.1,List.length_map]
theorem rel_gt {x : NX} {y : NY} (h : NY.rel x y) {i : Int} (h0 : 0 ≤ i) (h1 : i < (y.l.length : Int)) : gt x.ps i = pkT (gt y.l i) := by
  rw [← h.1]
  unfold gt
  have : i.toNat < y.l.length := by omega
  simp [List.getD_eq_getElem?_getD,this]
theorem gt_perm {l : List Pk} {i : Nat} (h : i < l.length) : l.Perm (gt l (i : Int) :: l.eraseIdx i) := by
  have e : gt l (i : Int) = l[i] := by unfold gt; simp [List.getD_eq_getElem?_getD,h]
  rw [e,List.eraseIdx_eq_take_drop_succ]
  refine List.Perm.trans ?_ List.perm_middle
  rw [List.getElem_cons_drop,List.take_append_drop]
end Go.Proofs.YtliacpkblicnhaaGreat
namespace Go.Proofs.YtliacpkblicnhaaGreat
open Go Go.Sx Go.Proofs
section
variable (p : Nat) (K : List Nat) (x : NX)
abbrev NetS (p : Nat) (u : Value) (x : NX) (v : Value) (G : List Own) (Q : List Pers) : Prop := ∃ K,v = u ∧ G = [netO p K x] ∧ Q = []
theorem NetS.of {p : Nat} {u : Value} {x : NX} {v : Value} {G : List Own} {Q : List Pers} (h : ∃ x' E K',(v = u ∧ x' = x ∧ E = []) ∧ G = netO p K' x' :: E ∧ Q = []) : NetS p u x v G Q := by
  obtain ⟨_,_,K',⟨rfl,rfl,rfl⟩,h2,h3⟩ := h; exact ⟨K',rfl,h2,h3⟩
theorem relS {x : NX} {y : NY} (h : NY.rel x y) : RG (NY.G p x y ++ []) (NY.G p x y) := RG.perm (L := []) (by rw [List.append_nil,List.append_nil])
theorem nlen_ct : Ct Tryz.prog 15 [.pointer (some ⟨p,0,none⟩)] [netO p K x] [] (NetS p (.int .i64 x.ps.length) x) :=
  Ct.mono (Ct.net (R := fun v x' E => v = .int .i64 x.ps.length ∧ x' = x ∧ E = []) fun y hy =>
    Ct.netF (G0 := [_]) (List.Perm.refl _) (len_ct p 0 x.sent x.lost y.d 0 y.M y.A y.l.length y.cp) fun v H Q' ⟨h1,h2,h3⟩ => ⟨x,y,[],⟨by rw [h1,rel_len hy],rfl,rfl⟩,hy,by subst h2; exact relS p hy,h3⟩) fun v G Q h => NetS.of h
theorem ncounts_ct : Ct Tryz.prog 16 [.pointer (some ⟨p,0,none⟩)] [netO p K x] [] (NetS p (.tuple #[.int .i64 x.sent,.int .i64 x.lost]) x) :=
  Ct.mono (Ct.net (R := fun v x' E => v = .tuple #[.int .i64 x.sent,.int .i64 x.lost] ∧ x' = x ∧ E = []) fun y hy =>
    Ct.netF (G0 := [_]) (List.Perm.refl _) (counts_ct p 0 _ x.sent x.lost y.d 0 y.M) fun v H Q' ⟨h1,h2,h3⟩ => ⟨x,y,[],⟨h1,rfl,rfl⟩,hy,by subst h2; exact relS p hy,h3⟩) fun v G Q h => NetS.of h
theorem nis_ct (i j : Int) : Ct Tryz.prog 20 [.pointer (some ⟨p,0,none⟩),.int .i64 i,.int .i64 j] [netO p K x] [] (NetS p (.bool (decide ((i,j) ∈ x.T))) x) :=
  Ct.mono (Ct.net (R := fun v x' E => v = .bool (decide ((i,j) ∈ x.T)) ∧ x' = x ∧ E = []) fun y hy => by
    obtain ⟨d,A,cp,l,M,mp⟩ := y
    obtain ⟨hl,hs⟩ := hy
    dsimp only at hl hs
    rcases hs with ⟨rfl,rfl,rfl,e4⟩ | ⟨m,es,ck,rfl,rfl,rfl,hT⟩
    · refine Ct.netF (G0 := [_]) (List.Perm.refl _) (is0_ct p 0 _ x.sent x.lost i j) ?_
      rintro v H Q' ⟨m,rfl,rfl,rfl⟩
      exact ⟨x,⟨1,A,cp,l,.map (some m),[.blk m (.map #[] 0)]⟩,[],⟨by rw [e4,nomem],rfl,rfl⟩,⟨hl,.inr ⟨m,#[],0,rfl,rfl,rfl,by rw [e4]; exact lk0⟩⟩,RG.perm (L := []) (by simp),rfl⟩
    · refine Ct.netF (G0 := [_,_]) (Gr := rowP A cp l :: l.map qO) (List.Perm.refl _) (is1_ct p 0 _ x.sent x.lost 0 m es ck x.T i j hT) ?_
      rintro v H Q' ⟨rfl,rfl,rfl⟩
      exact ⟨x,⟨1,A,cp,l,.map (some m),[.blk m (.map es ck)]⟩,[],⟨rfl,rfl,rfl⟩,⟨hl,.inr ⟨m,es,ck,rfl,rfl,rfl,hT⟩⟩,RG.perm (L := []) (by simp),rfl⟩) fun v G Q h => NetS.of h
theorem ncut_ct (i j : Int) (on : Bool) (hi : 0 ≤ i ∧ i < 64) (hj : 0 ≤ j ∧ j < 64) : Ct Tryz.prog 14 [.pointer (some ⟨p,0,none⟩),.int .i64 i,.int .i64 j,.bool on] [netO p K x] [] (NetS p (.int .i64 0) (x.cut i j on)) :=
  Ct.mono (Ct.net (R := fun v x' E => v = .int .i64 0 ∧ x' = x.cut i j on ∧ E = []) fun y hy => by
    obtain ⟨d,A,cp,l,M,mp⟩ := y
    obtain ⟨hl,hs⟩ := hy
    dsimp only at hl hs
    rcases hs with ⟨rfl,rfl,rfl,e4⟩ | ⟨m,es,ck,rfl,rfl,rfl,hT⟩
    · refine Ct.netF (G0 := [_]) (List.Perm.refl _) (cut0_ct p 0 _ x.sent x.lost i j on hi hj) ?_
      rintro v H Q' ⟨m,es,ck,hT,rfl,rfl,rfl⟩
      refine ⟨x.cut i j on,⟨1,A,cp,l,.map (some m),[.blk m (.map es ck)]⟩,[],⟨rfl,rfl,rfl⟩,⟨hl,.inr ⟨m,es,ck,rfl,rfl,rfl,?_⟩⟩,RG.perm (L := []) (by simp [NX.cut]),rfl⟩
      show LkR (if on then lkPut x.T (i,j) else x.T.erase (i,j)) es.toList
      rw [e4]
      cases on <;> simpa [lkPut] using hT
    · refine Ct.netF (G0 := [_,_]) (Gr := rowP A cp l :: l.map qO) (List.Perm.refl _) (cut1_ct p 0 _ x.sent x.lost 0 m es ck x.T i j on hT hi hj) ?_
      rintro v H Q' ⟨es',ck',hT',rfl,rfl,rfl⟩
      exact ⟨x.cut i j on,⟨1,A,cp,l,.map (some m),[.blk m (.map es' ck')]⟩,[],⟨rfl,rfl,rfl⟩,⟨hl,.inr ⟨m,es',ck',rfl,rfl,rfl,hT'⟩⟩,RG.perm (L := []) (by simp [NX.cut]),rfl⟩) fun v G Q h => NetS.of h
theorem ncutx_ct (i j : Int) (on : Bool) (h : ¬ ((0 ≤ i ∧ i < 64) ∧ 0 ≤ j ∧ j < 64)) : Ct Tryz.prog 14 [.pointer (some ⟨p,0,none⟩),.int .i64 i,.int .i64 j,.bool on] [netO p K x] [] (NetS p (.int .i64 1) x) :=
  Ct.mono (Ct.net (R := fun v x' E => v = .int .i64 1 ∧ x' = x ∧ E = []) fun y hy =>
    Ct.netF (G0 := [_]) (List.Perm.refl _) (cutx_ct p 0 _ x.sent x.lost y.d 0 y.M i j on h) fun v H Q' ⟨h1,h2,h3⟩ => ⟨x,y,[],⟨h1,rfl,rfl⟩,hy,by subst h2; exact relS p hy,h3⟩) fun v G Q h => NetS.of h
end
end Go.Proofs.YtliacpkblicnhaaGreat
namespace Go.Proofs.YtliacpkblicnhaaGreat
open Go Go.Sx Go.Proofs
theorem pkC_snoc (r : List Pk) (q : Pk) : pkC r ++ [pkA q,pkB q] = pkC (r ++ [q]) := (pr_app pkA pkB r [q]).symm
end Go.Proofs.YtliacpkblicnhaaGreat
namespace Go.Proofs.YtliacpkblicnhaaGreat
open Go Go.Sx Go.Proofs
section
variable (p : Nat) (K : List Nat) (x : NX)
theorem ndrop_ct (i : Int) : Ct Tryz.prog 13 [.pointer (some ⟨p,0,none⟩),.int .i64 i] [netO p K x] [] (NetS p (.int .i64 (x.at i)) (x.drop i)) :=
  Ct.mono (Ct.net (R := fun v x' E => v = .int .i64 (x.at i) ∧ x' = x.drop i ∧ E = []) fun y hy => by
    have hl := rel_len hy
    by_cases hi : 0 ≤ i ∧ i < (x.ps.length : Int)
    · obtain ⟨j,rfl⟩ := Int.eq_ofNat_of_zero_le hi.1
      have hj : j < y.l.length := by omega
      obtain ⟨d,A,cp,l,M,mp⟩ := y
      dsimp only at hj
      refine Ct.netF (G0 := [_,_]) (Gr := mp ++ l.map qO) ?_ (ndrop_in p d 0 0 M x.sent x.lost A l cp j hj) ?_
      · exact (List.Perm.cons _ List.perm_middle).trans (List.Perm.swap _ _ _)
      · rintro v H Q' ⟨rfl,rfl,rfl⟩
        refine ⟨x.drop (j : Int),⟨d,A,cp,l.eraseIdx j,M,mp⟩,[],⟨by rw [NX.at,if_pos hi],rfl,rfl⟩,⟨?_,?_⟩,?_,rfl⟩
        · show (l.eraseIdx j).map pkT = (x.drop (j : Int)).ps
          rw [NX.drop,if_pos hi,← hy.1]
          simp [List.eraseIdx_eq_take_drop_succ,List.map_take,List.map_drop]
        · rw [NX.drop,if_pos hi]; exact hy.2
        · rw [NX.drop,if_pos hi]
          refine RG.perm (L := [qO (gt l (j : Int))]) ?_
          simp only [List.append_nil,List.cons_append,List.nil_append,List.append_assoc]
          refine List.Perm.cons _ (List.Perm.trans ?_ List.perm_middle.symm)
          refine List.Perm.cons _ ((List.Perm.refl mp).append ?_)
          exact ((gt_perm hj).map qO).trans (List.perm_append_singleton _ _).symm
    · refine Ct.netF (G0 := [_]) (List.Perm.refl _) (ndrop_out p y.d 0 0 y.M x.sent x.lost y.A y.l.length y.cp i (by omega)) fun v H Q' ⟨h1,h2,h3⟩ => ⟨x,y,[],⟨by rw [h1,NX.at,if_neg hi],by rw [NX.drop,if_neg hi],rfl⟩,hy,by subst h2; exact relS p hy,h3⟩) fun v G Q h => NetS.of h
theorem nbytes_ct (i : Int) (hi : 0 ≤ i ∧ i < (x.ps.length : Int)) (hl : (gt x.ps i).b.length ≤ 140737488355328) : Ct Tryz.prog 18 [.pointer (some ⟨p,0,none⟩),.int .i64 i] [netO p K x] [] (fun v G Q => ∃ K A cp,(gt x.ps i).b.length ≤ cp ∧ cp ≤ 9223372036854775807 ∧ v = .tuple #[.slice A (gt x.ps i).b.length cp,.int .i64 0] ∧ G = [netO p K x,rowOf A cp (gt x.ps i).b] ∧ Q = []) :=
  Ct.mono (Ct.net (R := fun v x' E => ∃ A cp,(gt x.ps i).b.length ≤ cp ∧ cp ≤ 9223372036854775807 ∧ v = .tuple #[.slice A (gt x.ps i).b.length cp,.int .i64 0] ∧ x' = x ∧ E = [rowOf A cp (gt x.ps i).b]) fun y hy => by
    have hn := rel_len hy
    have hg := rel_gt hy hi.1 (by omega)
    obtain ⟨d,A,cp,l,M,mp⟩ := y
    rw [hg] at hl ⊢
    dsimp only at hn
    refine Ct.netF (G0 := [_] ++ (rowP A cp l :: l.map qO)) (Gr := mp) ?_ (nbytes_in p d 0 0 M x.sent x.lost A l cp i hi.1 (by omega) hl) ?_
    · rw [List.append_assoc]
      exact List.Perm.cons _ List.perm_append_comm
    · rintro v H Q' ⟨A',cp',g1,g2,rfl,rfl,rfl⟩
      refine ⟨x,⟨d,A,cp,l,M,mp⟩,_,⟨A',cp',g1,g2,rfl,rfl,rfl⟩,hy,RG.perm (L := []) ?_,rfl⟩
      rw [List.append_nil]
      refine List.Perm.cons _ ?_
      show ([rowOf A' cp' (gt l i).b] ++ ((rowP A cp l :: l.map qO) ++ mp)).Perm ((mp ++ (rowP A cp l :: l.map qO)) ++ [rowOf A' cp' (gt l i).b])
      exact List.perm_append_comm.trans (List.perm_append_comm.append (List.Perm.refl _))) fun v G Q h => by
    obtain ⟨x',E,K',⟨A,cp,g1,g2,g3,rfl,rfl⟩,h2,h3⟩ := h
    exact ⟨K',A,cp,g1,g2,g3,h2,h3⟩
theorem nbytesx_ct (i : Int) (hi : ¬ (0 ≤ i ∧ i < (x.ps.length : Int))) : Ct Tryz.prog 18 [.pointer (some ⟨p,0,none⟩),.int .i64 i] [netO p K x] [] (NetS p (.tuple #[.slice none 0 0,.int .i64 5]) x) :=
  Ct.mono (Ct.net (R := fun v x' E => v = .tuple #[.slice none 0 0,.int .i64 5] ∧ x' = x ∧ E = []) fun y hy =>
    Ct.netF (G0 := [_]) (List.Perm.refl _) (nbytes_out p y.d 0 0 y.M x.sent x.lost y.A y.l.length y.cp i (by have := rel_len hy; omega)) fun v H Q' ⟨h1,h2,h3⟩ => ⟨x,y,[],⟨h1,rfl,rfl⟩,hy,by subst h2; exact relS p hy,h3⟩) fun v G Q h => NetS.of h
theorem nsend_ct (m : Msg) (s : Lie) (hm : MsgLen m) (hn : 0 ≤ m.nonce ∧ m.nonce < 18446744073709551616) (hlog : m.log.length < 100000) (ha : -4611686018427387904 ≤ x.sent ∧ x.sent ≤ 4611686018427387904) (hb : -4611686018427387904 ≤ x.lost ∧ x.lost ≤ 4611686018427387904) : Ct Tryz.prog 10 [.pointer (some ⟨p,0,none⟩),msgV m s] [netO p K x] (msgQ m s) (NetS p (.int .i64 (encFo m).1) (x.send m)) :=
  Ct.mono (Ct.net (R := fun v x' E => v = .int .i64 (encFo m).1 ∧ x' = x.send m ∧ E = []) fun y hy => by
    have hl := rel_len hy
    by_cases hE : (encFo m).1 = 0
    · obtain ⟨d,A,cp,l,M,mp⟩ := y
      obtain ⟨hps,hs⟩ := hy
      dsimp only at hl hps hs
      rw [hE]
      rcases hs with ⟨rfl,rfl,rfl,e4⟩ | ⟨mb,es,ck,rfl,rfl,rfl,hT⟩
      · by_cases hk : 4096 ≤ l.length
        · refine Ct.netF (G0 := [_]) (List.Perm.refl _) (send0_lost p x.sent x.lost m s hm hn hlog hE ha hb A l.length cp hk) ?_
          rintro v H Q' ⟨mb,rfl,rfl,rfl⟩
          have e : x.send m = { x with sent := x.sent + 1,lost := x.lost + 1 } := by rw [NX.send,if_pos hE,if_pos (.inr (by omega))]
          rw [e]
          exact ⟨_,⟨1,A,cp,l,.map (some mb),[.blk mb (.map #[] 0)]⟩,[],⟨rfl,rfl,rfl⟩,⟨hps,.inr ⟨mb,#[],0,rfl,rfl,rfl,by show LkR x.T _; rw [e4]; exact lk0⟩⟩,RG.perm (L := []) (by simp),rfl⟩
        · refine Ct.netF (G0 := [_,_]) (Gr := l.map qO) (List.Perm.refl _) (send0_put p x.sent x.lost m s hm hn hlog hE ha hb A l cp (by omega)) ?_
          rintro v H Q' ⟨mb,A',cp',Ae,ce,rfl,rfl,rfl⟩
          have e : x.send m = { x with ps := x.ps ++ [⟨(encFo m).2,false⟩],sent := x.sent + 1 } := by rw [NX.send,if_pos hE,if_neg (by rw [e4]; simp; omega)]
          rw [e]
          refine ⟨_,⟨1,A',cp',l ++ [⟨Ae,ce,(encFo m).2,false⟩],.map (some mb),[.blk mb (.map #[] 0)]⟩,[],⟨rfl,rfl,rfl⟩,⟨?_,.inr ⟨mb,#[],0,rfl,rfl,rfl,by show LkR x.T _; rw [e4]; exact lk0⟩⟩,RG.perm (L := []) ?_,rfl⟩
          · show (l ++ [_]).map pkT = x.ps ++ [_]
            rw [List.map_append,hps]; rfl
          · rw [pkC_snoc l ⟨Ae,ce,(encFo m).2,false⟩,show l.length + 1 = (l ++ [(⟨Ae,ce,(encFo m).2,false⟩ : Pk)]).length by simp]
            simp only [List.append_nil,List.cons_append,List.nil_append,List.append_assoc,List.map_append,List.map_cons,List.map_nil]
            exact List.Perm.cons _ (List.Perm.cons _ (List.Perm.cons _ (by show (_ :: l.map qO).Perm ((l ++ [_]).map qO); rw [List.map_append]; exact (List.perm_append_singleton _ _).symm)))
      · by_cases hx : (m.src,m.dst) ∈ x.T
        · refine Ct.netF (G0 := [_,_]) (Gr := rowP A cp l :: l.map qO) (List.Perm.refl _) (send1_cut p x.sent x.lost m s hm hn hlog hE ha hb _ mb es ck x.T hT hx) ?_
          rintro v H Q' ⟨rfl,rfl,rfl⟩
          have e : x.send m = { x with sent := x.sent + 1,lost := x.lost + 1 } := by rw [NX.send,if_pos hE,if_pos (.inl hx)]
          rw [e]
          exact ⟨_,⟨1,A,cp,l,.map (some mb),[.blk mb (.map es ck)]⟩,[],⟨rfl,rfl,rfl⟩,⟨hps,.inr ⟨mb,es,ck,rfl,rfl,rfl,hT⟩⟩,RG.perm (L := []) (by simp),rfl⟩
        · by_cases hk : 4096 ≤ l.length
          · refine Ct.netF (G0 := [_,_]) (Gr := rowP A cp l :: l.map qO) (List.Perm.refl _) (send1_lost p x.sent x.lost m s hm hn hlog hE ha hb A l.length cp mb es ck x.T hT hx hk) ?_
            rintro v H Q' ⟨rfl,rfl,rfl⟩
            have e : x.send m = { x with sent := x.sent + 1,lost := x.lost + 1 } := by rw [NX.send,if_pos hE,if_pos (.inr (by omega))]
            rw [e]
            exact ⟨_,⟨1,A,cp,l,.map (some mb),[.blk mb (.map es ck)]⟩,[],⟨rfl,rfl,rfl⟩,⟨hps,.inr ⟨mb,es,ck,rfl,rfl,rfl,hT⟩⟩,RG.perm (L := []) (by simp),rfl⟩
          · refine Ct.netF (G0 := [_,_,_]) (Gr := l.map qO) (List.Perm.refl _) (send1_put p x.sent x.lost m s hm hn hlog hE ha hb A l cp mb es ck x.T hT hx (by omega)) ?_
            rintro v H Q' ⟨A',cp',Ae,ce,rfl,rfl,rfl⟩
            have e : x.send m = { x with ps := x.ps ++ [⟨(encFo m).2,false⟩],sent := x.sent + 1 } := by rw [NX.send,if_pos hE,if_neg (fun h => h.elim hx (by omega))]
            rw [e]
            refine ⟨_,⟨1,A',cp',l ++ [⟨Ae,ce,(encFo m).2,false⟩],.map (some mb),[.blk mb (.map es ck)]⟩,[],⟨rfl,rfl,rfl⟩,⟨?_,.inr ⟨mb,es,ck,rfl,rfl,rfl,hT⟩⟩,RG.perm (L := []) ?_,rfl⟩
            · show (l ++ [_]).map pkT = x.ps ++ [_]
              rw [List.map_append,hps]; rfl
            · rw [pkC_snoc l ⟨Ae,ce,(encFo m).2,false⟩,show l.length + 1 = (l ++ [(⟨Ae,ce,(encFo m).2,false⟩ : Pk)]).length by simp]
              simp only [List.append_nil,List.cons_append,List.nil_append,List.append_assoc,List.map_append,List.map_cons,List.map_nil]
              exact List.Perm.cons _ (List.Perm.cons _ (List.Perm.cons _ (by show (_ :: l.map qO).Perm ((l ++ [_]).map qO); rw [List.map_append]; exact (List.perm_append_singleton _ _).symm)))
    · refine Ct.netF (G0 := [_]) (List.Perm.refl _) (sendno_ct p 0 x.sent x.lost _ y.d 0 y.M m s hm hn hlog hE) fun v H Q' ⟨h1,h2,h3⟩ => ⟨x,y,[],⟨h1,by rw [NX.send,if_neg hE],rfl⟩,hy,by subst h2; exact relS p hy,h3⟩) fun v G Q h => NetS.of h
theorem spoil_rg {d : Int} {b g c cp : Nat} {l : List Pk} {sp sp2 : List Value} {bs : List UInt8} {M : Value} {mp : List Own} {a e : Int} {j : Nat} (hj : j < l.length) (h2 : (pkC (l.set j ⟨some ⟨g,0,none⟩,c,bs,true⟩) ++ sp).length = cp * 2) (h3 : l.length ≤ cp) (h4 : cp ≤ 9223372036854775807) (k2 : (bs.map u8v ++ sp2).length = c) (k3 : bs.length ≤ c) (k4 : c ≤ 9223372036854775807) (L : List Own) :
    RG (netB p d 0 0 (.slice (some ⟨b,0,none⟩) (l.set j ⟨some ⟨g,0,none⟩,c,bs,true⟩).length cp) M a e :: (mp ++ (rowP (some ⟨b,0,none⟩) cp (l.set j ⟨some ⟨g,0,none⟩,c,bs,true⟩) :: (l.set j ⟨some ⟨g,0,none⟩,c,bs,true⟩).map qO)))
      ([netB p d 0 0 (.slice (some ⟨b,0,none⟩) l.length cp) M a e,.cells b (pkC (l.set j ⟨some ⟨g,0,none⟩,c,bs,true⟩) ++ sp) 102,.cells g (bs.map u8v ++ sp2) 5] ++ (mp ++ (l.eraseIdx j).map qO)) := by
  have hs : (l.set j ⟨some ⟨g,0,none⟩,c,bs,true⟩).length = l.length := List.length_set
  have hg := gt_perm (l := l.set j ⟨some ⟨g,0,none⟩,c,bs,true⟩) (i := j) (by omega)
  rw [List.eraseIdx_set_eq] at hg
  have e0 : gt (l.set j ⟨some ⟨g,0,none⟩,c,bs,true⟩) (j : Int) = ⟨some ⟨g,0,none⟩,c,bs,true⟩ := by unfold gt; simp [List.getD_eq_getElem?_getD,hj]
  rw [e0] at hg
  refine RG.trans (B := [netB p d 0 0 (.slice (some ⟨b,0,none⟩) l.length cp) M a e,rowP (some ⟨b,0,none⟩) cp (l.set j ⟨some ⟨g,0,none⟩,c,bs,true⟩),qO ⟨some ⟨g,0,none⟩,c,bs,true⟩] ++ (mp ++ (l.eraseIdx j).map qO)) (RG.perm (L := []) ?_) (RG.cons _ ((RG.cons _ (RG.one _ (by rfl) fun w h => ?_)).trans (RG.one _ (by rfl) (fun w h => rowP_shut h2 (by omega) h4 w h))))
  · rw [hs]
    simp only [List.append_nil,List.cons_append,List.nil_append,List.append_assoc]
    refine List.Perm.cons _ ?_
    refine List.Perm.trans ?_ List.perm_middle.symm
    refine List.Perm.cons _ (List.perm_middle.symm.trans ((List.Perm.refl mp).append ?_))
    exact (hg.map qO).symm
  · exact row_cells (sz := 1) (by simp) (by simpa using k2) k3 k4 w h
end
end Go.Proofs.YtliacpkblicnhaaGreat
namespace Go.Proofs.YtliacpkblicnhaaGreat
open Go Go.Sx Go.Proofs
theorem qO_open {q : Pk} {R : List Own} (hn : q.b ≠ []) (w : World) (h : ∀ o ∈ qO q :: R,o.holds w) : ∃ y : Nat × List Value,(q.A = some ⟨y.1,0,none⟩ ∧ (q.b.map u8v ++ y.2).length = q.cp ∧ q.b.length ≤ q.cp ∧ q.cp ≤ 9223372036854775807) ∧ SubK (.cells y.1 (q.b.map u8v ++ y.2) 5 :: R) (qO q :: R) ∧ ∀ o ∈ Own.cells y.1 (q.b.map u8v ++ y.2) 5 :: R,o.holds w := by
  obtain ⟨A,cp,b,bad⟩ := q
  obtain ⟨t,sp,rfl,g1,g2,g3,g4⟩ := ownsRow_cells (h _ (List.mem_cons_self ..)) (fun e => hn (List.eq_nil_of_length_eq_zero e))
  exact ⟨(t,sp),⟨rfl,by rw [g1,Nat.mul_one],g2,g3⟩,SubK.eq rfl,fun o ho => (List.mem_cons.1 ho).elim (fun e => e ▸ g4) (fun ho => h o (List.mem_cons_of_mem _ ho))⟩
end Go.Proofs.YtliacpkblicnhaaGreat
namespace Go.Proofs.YtliacpkblicnhaaGreat
open Go Go.Sx Go.Proofs
section
variable (p : Nat) (d : Int) (M : Value) (a b : Int)
theorem nspoil_farI (A : Option Addr) (l : List Pk) (cp : Nat) (i : Nat) (at_ mk : Int) (hi : i < l.length) (hf : ¬ (0 ≤ at_ ∧ at_ < ((gt l (i : Int)).b.length : Int))) : Ct Tryz.prog 19 [.pointer (some ⟨p,0,none⟩),.int .i64 (i : Int),.int .i64 at_,.int .u8 mk] [rowP A cp l,netB p d 0 0 (.slice A l.length cp) M a b] [] (fun u G Q => u = .int .i64 5 ∧ G = [rowP A cp l,netB p d 0 0 (.slice A l.length cp) M a b] ∧ Q = []) := by
  refine Ct.regroup (fun w h => rowP_open (fun e => by subst e; simp at hi) w h) (fun y hy => ?_)
  obtain ⟨rfl,h2,h3,h4⟩ := hy
  refine Ct.post (Ct.regroup0 [1,0] rfl (nspoil_far p d 0 0 M a b y.1 l y.2 cp i at_ mk _ _ _ _ rfl hi hf)) ?_
  rintro v H Q' ⟨rfl,rfl,rfl⟩
  exact ⟨_,⟨rfl,rfl,rfl⟩,((RG.one _ (by rfl) (fun w h => rowP_shut h2 h3 h4 w h)).trans (RG.perm (L := []) (List.Perm.swap _ _ _)))⟩
theorem nspoil_badI (A : Option Addr) (l : List Pk) (cp : Nat) (i : Nat) (at_ mk : Int) (hi : i < l.length) (hf : 0 ≤ at_ ∧ at_ < ((gt l (i : Int)).b.length : Int)) (hq : (gt l (i : Int)).bad = true) : Ct Tryz.prog 19 [.pointer (some ⟨p,0,none⟩),.int .i64 (i : Int),.int .i64 at_,.int .u8 mk] [rowP A cp l,netB p d 0 0 (.slice A l.length cp) M a b] [] (fun u G Q => u = .int .i64 230 ∧ G = [rowP A cp l,netB p d 0 0 (.slice A l.length cp) M a b] ∧ Q = []) := by
  refine Ct.regroup (fun w h => rowP_open (fun e => by subst e; simp at hi) w h) (fun y hy => ?_)
  obtain ⟨rfl,h2,h3,h4⟩ := hy
  refine Ct.post (Ct.regroup0 [1,0] rfl (nspoil_bad p d 0 0 M a b y.1 l y.2 cp i at_ mk (gt l (i : Int)).A (gt l (i : Int)).cp (gt l (i : Int)).b (by rw [← hq]) hi hf)) ?_
  rintro v H Q' ⟨rfl,rfl,rfl⟩
  exact ⟨_,⟨rfl,rfl,rfl⟩,((RG.one _ (by rfl) (fun w h => rowP_shut h2 h3 h4 w h)).trans (RG.perm (L := []) (List.Perm.swap _ _ _)))⟩
theorem nspoil_in (A : Option Addr) (l : List Pk) (cp : Nat) (i : Nat) (at_ : Int) (mk : UInt8) (hi : i < l.length) (hf : 0 ≤ at_ ∧ at_ < ((gt l (i : Int)).b.length : Int)) (hq : (gt l (i : Int)).bad = false) : Ct Tryz.prog 19 [.pointer (some ⟨p,0,none⟩),.int .i64 (i : Int),.int .i64 at_,.int .u8 (mk.toNat : Int)] [qO (gt l (i : Int)),rowP A cp l,netB p d 0 0 (.slice A l.length cp) M a b] []
    (fun u G Q => ∃ t g c sp sp2,A = some ⟨t,0,none⟩ ∧ (pkC l ++ sp).length = cp * 2 ∧ l.length ≤ cp ∧ cp ≤ 9223372036854775807 ∧ (((gt l (i : Int)).b.set at_.toNat (gt (gt l (i : Int)).b at_ ^^^ mk)).map u8v ++ sp2).length = c ∧ (gt l (i : Int)).b.length ≤ c ∧ c ≤ 9223372036854775807 ∧ u = .int .i64 0 ∧ G = [netB p d 0 0 (.slice A l.length cp) M a b,.cells t (pkC (l.set i ⟨some ⟨g,0,none⟩,c,(gt l (i : Int)).b.set at_.toNat (gt (gt l (i : Int)).b at_ ^^^ mk),true⟩) ++ sp) 102,.cells g (((gt l (i : Int)).b.set at_.toNat (gt (gt l (i : Int)).b at_ ^^^ mk)).map u8v ++ sp2) 5] ∧ Q = []) := by
  refine Ct.regroup (fun w h => qO_open (fun e => by rw [e] at hf; simp at hf; omega) w h) (fun z hz => ?_)
  obtain ⟨k1,k2,k3,k4⟩ := hz
  refine Ct.regroup0 [1,1,0] rfl ?_
  refine Ct.regroup (fun w h => rowP_open (fun e => by subst e; simp at hi) w h) (fun y hy => ?_)
  obtain ⟨rfl,h2,h3,h4⟩ := hy
  refine Ct.mono (Ct.regroup0 [1,0,0] rfl (nspoil_c p d 0 0 M a b y.1 l y.2 cp i at_ mk z.1 (gt l (i : Int)).cp (gt l (i : Int)).b z.2 (by rw [← hq,← k1]) hi hf)) ?_
  rintro v H Q' ⟨rfl,rfl,rfl⟩
  exact ⟨y.1,z.1,_,y.2,z.2,rfl,h2,h3,h4,by simpa using k2,k3,k4,rfl,rfl,rfl⟩
end
end Go.Proofs.YtliacpkblicnhaaGreat
namespace Go.Proofs.YtliacpkblicnhaaGreat
open Go Go.Sx Go.Proofs
theorem nspoil_ct (p : Nat) (K : List Nat) (x : NX) (i at_ : Int) (mk : UInt8) : Ct Tryz.prog 19 [.pointer (some ⟨p,0,none⟩),.int .i64 i,.int .i64 at_,.int .u8 (mk.toNat : Int)] [netO p K x] [] (NetS p (.int .i64 (x.spoil i at_ mk).1) (x.spoil i at_ mk).2) :=
  Ct.mono (Ct.net (R := fun v x' E => v = .int .i64 (x.spoil i at_ mk).1 ∧ x' = (x.spoil i at_ mk).2 ∧ E = []) fun y hy => by
    have hl := rel_len hy
    by_cases hi : 0 ≤ i ∧ i < (x.ps.length : Int)
    · have hg := rel_gt hy hi.1 (by omega)
      obtain ⟨j,rfl⟩ := Int.eq_ofNat_of_zero_le hi.1
      obtain ⟨d,A,cp,l,M,mp⟩ := y
      dsimp only at hl hg
      have hj : j < l.length := by omega
      have pm : (NY.G p x ⟨d,A,cp,l,M,mp⟩).Perm ([rowP A cp l,netB p d 0 0 (.slice A l.length cp) M x.sent x.lost] ++ (mp ++ l.map qO)) :=
        (List.Perm.cons _ List.perm_middle).trans (List.Perm.swap _ _ _)
      by_cases hf : 0 ≤ at_ ∧ at_ < ((gt l (j : Int)).b.length : Int)
      · by_cases hb : (gt l (j : Int)).bad = true
        · have e : x.spoil (j : Int) at_ mk = (230,x) := by rw [NX.spoil,if_pos ⟨hi.1,hi.2,hf.1,by rw [hg]; exact hf.2⟩,if_pos (by rw [hg]; exact hb)]
          rw [e]
          refine Ct.netF pm (nspoil_badI p d M x.sent x.lost A l cp j at_ _ hj hf hb) ?_
          rintro v H Q' ⟨rfl,rfl,rfl⟩
          exact ⟨x,⟨d,A,cp,l,M,mp⟩,[],⟨rfl,rfl,rfl⟩,hy,by rw [List.append_nil]; exact RG.perm (L := []) (by rw [List.append_nil]; exact pm.symm),rfl⟩
        · have hb' : (gt l (j : Int)).bad = false := by simpa using hb
          have e : x.spoil (j : Int) at_ mk = (0,{ x with ps := x.ps.set j ⟨(gt l (j : Int)).b.set at_.toNat (gt (gt l (j : Int)).b at_ ^^^ mk),true⟩ }) := by rw [NX.spoil,if_pos ⟨hi.1,hi.2,hf.1,by rw [hg]; exact hf.2⟩,if_neg (by rw [hg]; exact hb),hg]; rfl
          rw [e]
          refine Ct.netF (G0 := [_,_,_]) (Gr := mp ++ (l.eraseIdx j).map qO) (pm.trans ?_) (nspoil_in p d M x.sent x.lost A l cp j at_ mk hj hf hb') ?_
          · show (rowP A cp l :: netB p d 0 0 (.slice A l.length cp) M x.sent x.lost :: (mp ++ l.map qO)).Perm (qO (gt l (j : Int)) :: rowP A cp l :: netB p d 0 0 (.slice A l.length cp) M x.sent x.lost :: (mp ++ (l.eraseIdx j).map qO))
            refine List.Perm.trans (List.Perm.cons _ (List.Perm.cons _ (((List.Perm.refl mp).append ((gt_perm hj).map qO)).trans List.perm_middle))) ?_
            exact (List.Perm.cons _ (List.Perm.swap _ _ _)).trans (List.Perm.swap _ _ _)
          · rintro v H Q' ⟨t,g,c,sp,sp2,rfl,g2,g3,g4,k2,k3,k4,rfl,rfl,rfl⟩
            refine ⟨_,⟨d,some ⟨t,0,none⟩,cp,l.set j ⟨some ⟨g,0,none⟩,c,(gt l (j : Int)).b.set at_.toNat (gt (gt l (j : Int)).b at_ ^^^ mk),true⟩,M,mp⟩,[],⟨rfl,rfl,rfl⟩,⟨?_,hy.2⟩,?_,rfl⟩
            · show (l.set j _).map pkT = x.ps.set j _
              rw [← hy.1,List.map_set]
            · rw [List.append_nil]
              exact spoil_rg p hj (by rw [List.length_append,pkC_len,List.length_set,← pkC_len,← List.length_append]; exact g2) g3 g4 k2 (by rw [List.length_set]; exact k3) k4 []
      · have e : x.spoil (j : Int) at_ mk = (5,x) := by rw [NX.spoil,if_neg (by rw [hg]; exact fun h => hf ⟨h.2.2.1,h.2.2.2⟩)]
        rw [e]
        refine Ct.netF pm (nspoil_farI p d M x.sent x.lost A l cp j at_ _ hj hf) ?_
        rintro v H Q' ⟨rfl,rfl,rfl⟩
        exact ⟨x,⟨d,A,cp,l,M,mp⟩,[],⟨rfl,rfl,rfl⟩,hy,by rw [List.append_nil]; exact RG.perm (L := []) (by rw [List.append_nil]; exact pm.symm),rfl⟩
    · have e : x.spoil i at_ mk = (5,x) := by rw [NX.spoil,if_neg (fun h => hi ⟨h.1,h.2.1⟩)]
      rw [e]
      exact Ct.netF (G0 := [_]) (List.Perm.refl _) (nspoil_out p y.d 0 0 y.M x.sent x.lost y.A y.l.length y.cp i at_ _ (by omega)) fun v H Q' ⟨h1,h2,h3⟩ => ⟨x,y,[],⟨h1,rfl,rfl⟩,hy,by subst h2; exact relS p hy,h3⟩) fun v G Q h => NetS.of h
abbrev getE (b : List UInt8) (at_ n : Nat) : Int := if at_ + n ≤ b.length then 0 else 10
abbrev getV (b : List UInt8) (at_ n : Nat) : Nat := if at_ + n ≤ b.length then valN (seg b at_ (at_ + n)) else 0
abbrev getX (b : List UInt8) (at_ n : Nat) : Nat := if at_ + n ≤ b.length then at_ + n else 0
theorem get_all (A : Option Addr) (b : List UInt8) (cp at_ n : Nat) (hn : 1 ≤ n) (hn' : n ≤ 8) (hb : b.length ≤ cp) (hb' : b.length ≤ 140737488355328) (hat : at_ ≤ b.length) : Ct Tryz.prog 72 [.slice A b.length cp,.int .i64 (at_ : Int),.int .i64 (n : Int)] [] [Pers.row Kd.u8 A b]
    (fun u G Q => u = .tuple #[.int .u64 ((getV b at_ n : Nat) : Int),.int .i64 ((getX b at_ n : Nat) : Int),.int .i64 (getE b at_ n)] ∧ G = [] ∧ Q = []) := by
  by_cases h : at_ + n ≤ b.length
  · rw [getV,getX,getE,if_pos h,if_pos h,if_pos h]; exact get_ok A b cp at_ n hn hn' hb (by omega) h
  · rw [getV,getX,getE,if_neg h,if_neg h,if_neg h]; exact get_short A b cp at_ n hn hn' hb' hat (by omega)
theorem valN_rng {b : List UInt8} {l h n : Nat} (hh : h ≤ b.length) (hn : h - l = n) : valN (seg b l h) < 256 ^ n := by
  have := valN_lt (seg b l h)
  rwa [seg_length hh,hn] at this
def txF (b : List UInt8) (at_ : Nat) : List UInt8 × Nat × Int :=
  if at_ + 4 ≤ b.length then
    (if valN (seg b at_ (at_ + 4)) ≤ 16777216 then
      (if at_ + 4 + valN (seg b at_ (at_ + 4)) ≤ b.length then (seg b (at_ + 4) (at_ + 4 + valN (seg b at_ (at_ + 4))),at_ + 4 + valN (seg b at_ (at_ + 4)),0) else ([],0,10))
    else ([],0,2))
  else ([],0,10)
theorem gettext_ct (A : Option Addr) (b : List UInt8) (cp at_ : Nat) (hb : b.length ≤ cp) (hcp' : cp ≤ 9223372036854775807) (hb' : b.length ≤ 10000000000000) (hat : at_ ≤ b.length) : Ct Tryz.prog 205 [.slice A b.length cp,.int .i64 (at_ : Int)] [] [Pers.row Kd.u8 A b]
    (fun u G Q => ∃ x n e A' c',txF b at_ = (x,n,e) ∧ x.length ≤ c' ∧ c' ≤ 9223372036854775807 ∧ u = .tuple #[.slice A' x.length c',.int .i64 ((n : Nat) : Int),.int .i64 e] ∧ G = [] ∧ Q = [Pers.row Kd.u8 A' x]) := by
 by_cases hq4 : at_ + 4 ≤ b.length
 ·have hv := valN_rng (b := b) (l := at_) (h := at_ + 4) (n := 4) hq4 (by omega)
  rw [p256_4] at hv
  have ee : ((at_ + 4 : Nat) : Int) + ((valN (seg b at_ (at_ + 4)) : Nat) : Int) = ((at_ + 4 + valN (seg b at_ (at_ + 4)) : Nat) : Int) := by omega
  have hsl : at_ + 4 + valN (seg b at_ (at_ + 4)) ≤ b.length → (seg b (at_ + 4) (at_ + 4 + valN (seg b at_ (at_ + 4)))).length = valN (seg b at_ (at_ + 4)) := fun h => by rw [seg_length h]; omega
  refine Ct.intro Tryz.func205 rfl rfl rfl (fun c hc => ?_)
  refine GC.rg 3 ?_;refine GC.rr 2 ?_;refine GL.cl Tryz.call72 [] [0] rfl rfl rfl (by exact get_ok _ b _ at_ 4 (by omega) (by omega) hb (by omega) hq4) ?_
  rintro _ _ _ ⟨rfl,rfl,rfl⟩
  refine GL.rz 7 ?_;refine GC.seq' ?_;refine GC.block ?_;refine GC.rg 3 ?_;refine GC.cond_false rfl ?_;refine GC.rg 3 ?_;refine GC.co ?_ ?_
  ·intro h1; try simp only [tst_] at h1
   refine GC.rg 3 ?_;refine GC.know (q := Pers.row Kd.u8 none []) (fun _ _ _ => .inl rfl) ?_;refine GC.ret (Fin.b3 4 5 6 [] [0] ?_)
   exact ⟨[],0,2,none,0,by rw [txF,if_pos hq4,if_neg (by omega)],by simp,by simp,rfl,rfl,rfl⟩
  intro h1; try simp only [tst_] at h1
  refine GC.rr 1 ?_;refine GL.pure rfl (p_convR (t := 45) (r := ((valN (seg b at_ (at_ + 4)) : Nat) : Int)) (by rw [Tryz.underlying45]; simp) Tryz.underlying3 rfl (cvI (by omega) (by omega))) ?_
  refine GL.rn 3 ?_;refine GL.pure rfl (p_sub rfl rfl (w64 (by omega) (by omega))) ?_;refine GL.rz 2 ?_;refine GC.co ?_ ?_
  ·intro h2; try simp only [tst_] at h2
   refine GC.rg 3 ?_;refine GC.know (q := Pers.row Kd.u8 none []) (fun _ _ _ => .inl rfl) ?_;refine GC.ret (Fin.b3 4 5 6 [] [0] ?_)
   exact ⟨[],0,10,none,0,by rw [txF,if_pos hq4,if_pos (by omega),if_neg (by omega)],by simp,by simp,rfl,rfl,rfl⟩
  intro h2; try simp only [tst_] at h2
  refine GC.skip (?_ : GC _ _ _ _)
  refine GC.rr 2 ?_;refine GL.pure rfl (p_convR (t := 45) (r := ((valN (seg b at_ (at_ + 4)) : Nat) : Int)) (by rw [Tryz.underlying45]; simp) Tryz.underlying3 rfl (cvI (by omega) (by omega))) ?_
  refine GL.pure rfl (p_add rfl rfl (w64 (by omega) (by omega))) ?_;refine GL.rz 1 ?_;refine GC.rr 3 ?_;refine GL.step rfl (t_cut_lh (j := 0) rfl rfl rfl rfl rfl Tryz.underlying47 sz_5 (by omega) (by omega) (by omega) (by omega)) ?_
  rw [ee,show (((at_ + 4 : Nat) : Int)).toNat = at_ + 4 from rfl,show (((at_ + 4 + valN (seg b at_ (at_ + 4)) : Nat) : Int)).toNat = at_ + 4 + valN (seg b at_ (at_ + 4)) from rfl]
  refine GL.cl Tryz.call95 [] [0] rfl rfl rfl (by exact bclone_ct _ (seg b (at_ + 4) (at_ + 4 + valN (seg b at_ (at_ + 4)))) _ (by rw [hsl (by omega)]; omega)) ?_
  rintro _ _ _ ⟨A41,cp41,l41,k41,rfl,rfl,rfl⟩
  refine GL.rz 4 ?_;refine GC.freezeB (i := 0) rfl ?_;refine GC.ret (Fin.b3 4 5 6 [] [0] ?_)
  exact ⟨_,_,0,_,_,by rw [txF,if_pos hq4,if_pos (by omega),if_pos (by omega)],l41,k41,rfl,rfl,rfl⟩
 skip
 refine Ct.intro Tryz.func205 rfl rfl rfl (fun c hc => ?_)
 refine GC.rg 3 ?_;refine GC.rr 2 ?_;refine GL.cl Tryz.call72 [] [0] rfl rfl rfl (by exact get_short _ b _ at_ 4 (by omega) (by omega) (by omega) hat (by omega)) ?_
 rintro _ _ _ ⟨rfl,rfl,rfl⟩
 refine GL.rz 7 ?_;refine GC.seq' ?_;refine GC.block ?_;refine GC.rg 3 ?_;refine GC.cond_true rfl ?_;refine GC.rg 4 ?_;refine GC.know (q := Pers.row Kd.u8 none []) (fun _ _ _ => .inl rfl) ?_;refine GC.ret (Fin.b3 4 5 6 [] [0] ?_)
 exact ⟨[],0,10,none,0,by rw [txF,if_neg hq4],by simp,by simp,rfl,rfl,rfl⟩
theorem inj3 {α β γ : Type} {a x : α} {b t : β} {c k : γ} (h : (a,b,c) = (x,t,k)) : a = x ∧ b = t ∧ c = k := ⟨(Prod.mk.inj h).1,(Prod.mk.inj (Prod.mk.inj h).2).1,(Prod.mk.inj (Prod.mk.inj h).2).2⟩
def numS (b : List UInt8) (at_ : Nat) (code : Int) (n : Nat) : Nat × Nat × Int :=
  if code = 0 then (if at_ + n ≤ b.length then (valN (seg b at_ (at_ + n)),at_ + n,0) else (0,at_,10)) else (0,at_,code)
def txS (b : List UInt8) (at_ : Nat) (code : Int) : List UInt8 × Nat × Int :=
  if code = 0 then (if (txF b at_).2.2 = 0 then txF b at_ else ([],at_,if (txF b at_).2.2 = 10 then 10 else 42)) else ([],at_,code)
theorem numS_rng {b : List UInt8} {at_ : Nat} {code : Int} {n v t : Nat} {k : Int} (h : numS b at_ code n = (v,t,k)) (hat : at_ ≤ b.length) : t ≤ b.length ∧ v < 256 ^ n := by
  unfold numS at h
  have hp : 0 < 256 ^ n := Nat.pow_pos (by decide)
  split at h
  · split at h
    · rename_i h2
      obtain ⟨rfl,rfl,rfl⟩ := inj3 h
      exact ⟨h2,valN_rng h2 (by omega)⟩
    · obtain ⟨rfl,rfl,rfl⟩ := inj3 h
      exact ⟨hat,hp⟩
  · obtain ⟨rfl,rfl,rfl⟩ := inj3 h
    exact ⟨hat,hp⟩
theorem txF_rng {b : List UInt8} {at_ : Nat} {x : List UInt8} {t : Nat} {e : Int} (h : txF b at_ = (x,t,e)) (h0 : e = 0) : t ≤ b.length ∧ x.length ≤ 16777216 := by
  unfold txF at h
  split at h
  · split at h
    · split at h
      · rename_i h1 h2 h3
        obtain ⟨rfl,rfl,_⟩ := inj3 h
        exact ⟨h3,by rw [seg_length h3]; omega⟩
      · have := (Prod.mk.inj (Prod.mk.inj h).2).2; omega
    · have := (Prod.mk.inj (Prod.mk.inj h).2).2; omega
  · have := (Prod.mk.inj (Prod.mk.inj h).2).2; omega
theorem txS_rng {b : List UInt8} {at_ : Nat} {code : Int} {x : List UInt8} {t : Nat} {k : Int} (h : txS b at_ code = (x,t,k)) (hat : at_ ≤ b.length) : t ≤ b.length ∧ x.length ≤ 16777216 := by
  unfold txS at h
  split at h
  · split at h
    · rename_i h1 h2
      exact txF_rng h (by rw [h] at h2; exact h2)
    · obtain ⟨rfl,rfl,_⟩ := inj3 h
      exact ⟨hat,by simp⟩
  · obtain ⟨rfl,rfl,_⟩ := inj3 h
    exact ⟨hat,by simp⟩
abbrev bleftG (p e : Nat) (A : Option Addr) (b : List UInt8) (cp at_ : Nat) (code : Int) : List Own := [.cells p [.slice A b.length cp,.int .i64 (at_ : Int),.int .i64 code] e]
theorem bnum_ct (p e_ : Nat) (A : Option Addr) (b : List UInt8) (cp at_ : Nat) (code : Int) (n : Nat) (hn : 1 ≤ n) (hn' : n ≤ 4) (hb : b.length ≤ cp) (hb' : b.length ≤ 10000000000000) (hat : at_ ≤ b.length) : Ct Tryz.prog 162 [.pointer (some ⟨p,0,none⟩),.int .i64 (n : Int)] (bleftG p e_ A b cp at_ code) [Pers.row Kd.u8 A b]
    (fun u G Q => ∃ v t k,numS b at_ code n = (v,t,k) ∧ u = .int .i64 (v : Int) ∧ G = bleftG p e_ A b cp t k ∧ Q = []) := by
 have hp4 : (256 : Nat) ^ n ≤ 4294967296 := by rw [← p256_4]; exact Nat.pow_le_pow_right (by decide) hn'
 have hvr : at_ + n ≤ b.length → valN (seg b at_ (at_ + n)) < 4294967296 := fun h => Nat.lt_of_lt_of_le (valN_rng h (by omega)) hp4
 by_cases hc0 : code = 0
 ·subst hc0
  by_cases hq4 : at_ + n ≤ b.length
  ·have hv := hvr hq4
   refine Ct.intro Tryz.func162 rfl rfl rfl (fun c hc => ?_)
   refine GC.rg 1 ?_;refine GC.seq' ?_;refine GC.rr 3 ?_;refine GL.ld_ 0 ?_;refine GL.rz 1 ?_;refine GC.cond_false rfl ?_
   refine GC.skip (?_ : GC _ _ _ _)
   refine GC.seq' ?_;refine GC.regionQ wide_ (by kernel_rfl) ?_;refine GQ.rn 3 ?_;refine GQ.step rfl (q_mem (m_load (i := 0) rfl rfl ag_47 rfl)) ?_;refine GQ.rn 3 ?_;refine GQ.step rfl (q_mem (m_load (i := 0) rfl rfl ag_3 rfl)) ?_
   refine GQ.rn 1 ?_;refine GQ.step rfl (q_call Tryz.call72 rfl (js := [0]) rfl (by exact get_ok _ b _ at_ n hn (by omega) hb (by omega) hq4)) ?_;refine GQ.rn 7 ?_
   refine GQ.nil (?_ : GC _ _ _ _)
   refine GC.seq' ?_;refine GC.rg 2 ?_;refine GC.cond_false rfl ?_
   refine GC.skip (?_ : GC _ _ _ _)
   refine GC.rr 4 ?_;refine GL.so_ 0 ?_;refine GL.nr 1 ?_;refine GL.pure rfl (p_convR (t := 45) (r := ((valN (seg b at_ (at_ + n)) : Nat) : Int)) (by rw [Tryz.underlying45]; simp) Tryz.underlying3 rfl (cvI (by omega) (by omega))) ?_
   refine GL.rz 1 ?_;refine GC.ret (Fin.b1 4 [0] [] ?_)
   exact ⟨_,_,0,by rw [numS,if_pos rfl,if_pos hq4],rfl,rfl,rfl⟩
  skip
  refine Ct.intro Tryz.func162 rfl rfl rfl (fun c hc => ?_)
  refine GC.rg 1 ?_;refine GC.seq' ?_;refine GC.rr 3 ?_;refine GL.ld_ 0 ?_;refine GL.rz 1 ?_;refine GC.cond_false rfl ?_
  refine GC.skip (?_ : GC _ _ _ _)
  refine GC.seq' ?_;refine GC.regionQ wide_ (by kernel_rfl) ?_;refine GQ.rn 3 ?_;refine GQ.step rfl (q_mem (m_load (i := 0) rfl rfl ag_47 rfl)) ?_;refine GQ.rn 3 ?_;refine GQ.step rfl (q_mem (m_load (i := 0) rfl rfl ag_3 rfl)) ?_
  refine GQ.rn 1 ?_;refine GQ.step rfl (q_call Tryz.call72 rfl (js := [0]) rfl (by exact get_short _ b _ at_ n hn (by omega) (by omega) hat (by omega))) ?_;refine GQ.rn 7 ?_
  refine GQ.nil (?_ : GC _ _ _ _)
  refine GC.seq' ?_;refine GC.rg 2 ?_;refine GC.cond_true rfl ?_;refine GC.rr 4 ?_;refine GL.so_ 0 ?_;refine GL.nr 1 ?_;refine GL.nl_ ?_;refine GC.ret (Fin.b1 4 [0] [] ?_)
  exact ⟨0,_,10,by rw [numS,if_pos rfl,if_neg hq4],rfl,rfl,rfl⟩
 skip
 refine Ct.intro Tryz.func162 rfl rfl rfl (fun c hc => ?_)
 refine GC.rg 1 ?_;refine GC.seq' ?_;refine GC.rr 3 ?_;refine GL.ld_ 0 ?_;refine GL.rz 1 ?_;refine GC.co ?_ ?_
 ·intro h1; try simp only [tst_] at h1
  first
  | (exfalso; first | exact hc0 h1 | exact hc0 (by omega))
  |(skip
    refine GC.rg 1 ?_;refine GC.ret (Fin.b1 4 [0] [] ?_)
    exact ⟨0,_,_,by rw [numS,if_neg hc0],rfl,rfl,rfl⟩)
 intro h1; try simp only [tst_] at h1
 first
 | (exfalso; first | exact hc0 h1 | exact hc0 (by omega))
 |(skip
   refine GC.skip (?_ : GC _ _ _ _)
   refine GC.seq' ?_;refine GC.regionQ wide_ (by kernel_rfl) ?_;refine GQ.rn 3 ?_;refine GQ.step rfl (q_mem (m_load (i := 0) rfl rfl ag_47 rfl)) ?_;refine GQ.rn 3 ?_;refine GQ.step rfl (q_mem (m_load (i := 0) rfl rfl ag_3 rfl)) ?_
   refine GQ.rn 1 ?_;refine GQ.step rfl (q_call Tryz.call72 rfl (js := [0]) rfl (by exact get_short _ b _ at_ n hn (by omega) (by omega) hat (by omega))) ?_;refine GQ.rn 7 ?_
   refine GQ.nil (?_ : GC _ _ _ _)
   refine GC.seq' ?_;refine GC.rg 2 ?_;refine GC.cond_true rfl ?_;refine GC.rr 4 ?_;refine GL.so_ 0 ?_;refine GL.nr 1 ?_;refine GL.nl_ ?_;refine GC.ret (Fin.b1 4 [0] [] ?_)
   skip)
theorem zq46_ {X : Prop} (h : X := by (exact ⟨[],_,_,none,0,by rw [txS,if_pos rfl,hs20,if_neg (by assumption)]; first | rw [if_pos (by omega),show e20 = 10 by omega] | rw [if_neg (by omega)],by simp,by simp,rfl,rfl,rfl⟩)) : X := h
theorem btext_ct (p e_ : Nat) (A : Option Addr) (b : List UInt8) (cp at_ : Nat) (code : Int) (hb : b.length ≤ cp) (hcp' : cp ≤ 9223372036854775807) (hb' : b.length ≤ 10000000000000) (hat : at_ ≤ b.length) : Ct Tryz.prog 163 [.pointer (some ⟨p,0,none⟩)] (bleftG p e_ A b cp at_ code) [Pers.row Kd.u8 A b]
    (fun u G Q => ∃ x t k A' c',txS b at_ code = (x,t,k) ∧ x.length ≤ c' ∧ c' ≤ 9223372036854775807 ∧ u = .slice A' x.length c' ∧ G = bleftG p e_ A b cp t k ∧ Q = [Pers.row Kd.u8 A' x]) := by
 by_cases hc0 : code = 0
 ·subst hc0
  refine Ct.intro Tryz.func163 rfl rfl rfl (fun c hc => ?_)
  refine GC.rg 1 ?_;refine GC.seq' ?_;refine GC.rr 3 ?_;refine GL.ld_ 0 ?_;refine GL.rz 1 ?_;refine GC.cond_false rfl ?_
  refine GC.skip (?_ : GC _ _ _ _)
  refine GC.seq' ?_;refine GC.regionC (m := 16) (is := [0]) (js := [0]) wide_ rfl rfl rfl ?_;refine GA.tk 0 [0] [0] ?_;refine GA.tk 1 [0] [0] ?_;refine GA.tk 2 [0] [0] ?_;refine GA.tp 3 rfl [0] [0] (i_mem (m_load (i := 0) rfl rfl ag_47 rfl)) ?_
  refine GA.tk 4 [0] [0] ?_;refine GA.tk 5 [0] [0] ?_;refine GA.tk 6 [0] [0] ?_;refine GA.tp 7 rfl [0] [0] (i_mem (m_load (i := 0) rfl rfl ag_3 rfl)) ?_;refine GA.al [8] ?_
  refine GAs.cons (i := 8) rfl rfl (t_call rfl Tryz.call205 rfl (is := []) (js := [0]) rfl rfl (by exact gettext_ct _ _ _ _ (by omega) (by omega) (by omega) (by omega))) (by rintro a w ⟨_,_,_,⟨x20,n20,e20,A20,c20,hs20,l20,k20,rfl,rfl,rfl⟩,h⟩; exact h.me [0] [1]) (GA.ret ?_) GAs.nil
  rintro _ _ _ ⟨x20,n20,e20,A20,c20,hs20,l20,k20,rfl,rfl,rfl⟩
  refine GA.tk 9 [0] [1] ?_;refine GA.tk 10 [0] [1] ?_;refine GA.tk 11 [0] [1] ?_;refine GA.tk 12 [0] [1] ?_;refine GA.tk 13 [0] [1] ?_;refine GA.tk 14 [0] [1] ?_;refine GA.tk 15 [0] [1] ?_
  refine GA.done (by kernel_rfl) (?_ : GC _ _ _ _)
  refine GC.seq' ?_;refine GC.rg 2 ?_;refine GC.co ?_ ?_
  ·intro h1; try simp only [tst_] at h1
   refine GC.rr 4 ?_;refine GL.so_ 0 ?_;refine GL.nl_ ?_;refine GC.seq' ?_;refine GC.rg 2 ?_;refine GC.co ?_ ?_
   ·intro h2; try simp only [tst_] at h2
    refine GC.region ?_;refine GL.rn 3 ?_;refine GL.so_ 0 ?_
    refine GL.nil (?_ : GC _ _ _ _)
    refine GC.rg 1 ?_;refine GC.know (q := Pers.row Kd.u8 none []) (fun _ _ _ => .inl rfl) ?_;refine GC.ret (Fin.b1 2 [0] [0] ?_)
    exact zq46_
   intro h2; try simp only [tst_] at h2
   refine GC.skip (?_ : GC _ _ _ _)
   refine GC.rg 1 ?_;refine GC.know (q := Pers.row Kd.u8 none []) (fun _ _ _ => .inl rfl) ?_;refine GC.ret (Fin.b1 2 [0] [0] ?_)
   exact zq46_
  intro h1; try simp only [tst_] at h1
  refine GC.skip (?_ : GC _ _ _ _)
  refine GC.rr 4 ?_;refine GL.so_ 0 ?_;refine GL.nr 2 ?_;refine GL.nl_ ?_;refine GC.ret (Fin.b1 2 [0] [0] ?_)
  exact ⟨_,_,0,_,_,by rw [txS,if_pos rfl,hs20,if_pos (by assumption)]; rw [show e20 = 0 by assumption],l20,k20,rfl,rfl,rfl⟩
 skip
 refine Ct.intro Tryz.func163 rfl rfl rfl (fun c hc => ?_)
 refine GC.rg 1 ?_;refine GC.seq' ?_;refine GC.rr 3 ?_;refine GL.ld_ 0 ?_;refine GL.rz 1 ?_;refine GC.co ?_ ?_
 ·intro h1; try simp only [tst_] at h1
  first
  | (exfalso; first | exact hc0 h1 | exact hc0 (by omega))
  |(skip
    refine GC.rg 1 ?_;refine GC.know (q := Pers.row Kd.u8 none []) (fun _ _ _ => .inl rfl) ?_;refine GC.ret (Fin.b1 2 [0] [0] ?_)
    exact ⟨[],_,_,none,0,by rw [txS,if_neg hc0],by simp,by simp,rfl,rfl,rfl⟩)
 intro h1; try simp only [tst_] at h1
 first
 | (exfalso; first | exact hc0 h1 | exact hc0 (by omega))
 |(skip
   refine GC.skip (?_ : GC _ _ _ _)
   refine GC.seq' ?_;refine GC.regionC (m := 16) (is := [0]) (js := [0]) wide_ rfl rfl rfl ?_;refine GA.tk 0 [0] [0] ?_;refine GA.tk 1 [0] [0] ?_;refine GA.tk 2 [0] [0] ?_;refine GA.tp 3 rfl [0] [0] (i_mem (m_load (i := 0) rfl rfl ag_47 rfl)) ?_
   refine GA.tk 4 [0] [0] ?_;refine GA.tk 5 [0] [0] ?_;refine GA.tk 6 [0] [0] ?_;refine GA.tp 7 rfl [0] [0] (i_mem (m_load (i := 0) rfl rfl ag_3 rfl)) ?_;refine GA.al [8] ?_
   refine GAs.cons (i := 8) rfl rfl (t_call rfl Tryz.call205 rfl (is := []) (js := [0]) rfl rfl (by exact gettext_ct _ _ _ _ (by omega) (by omega) (by omega) (by omega))) (by rintro a w ⟨_,_,_,⟨x20,n20,e20,A20,c20,hs20,l20,k20,rfl,rfl,rfl⟩,h⟩; exact h.me [0] [1]) (GA.ret ?_) ?_
   ·rintro _ _ _ ⟨x20,n20,e20,A20,c20,hs20,l20,k20,rfl,rfl,rfl⟩
    refine GA.tk 9 [0] [1] ?_;refine GA.tk 10 [0] [1] ?_;refine GA.tk 11 [0] [1] ?_;refine GA.tk 12 [0] [1] ?_;refine GA.tk 13 [0] [1] ?_;refine GA.tk 14 [0] [1] ?_;refine GA.tk 15 [0] [1] ?_
    refine GA.done (by kernel_rfl) (?_ : GC _ _ _ _)
    refine GC.seq' ?_;refine GC.rg 2 ?_;refine GC.co ?_ ?_
    ·intro h2; try simp only [tst_] at h2
     first
     | (exfalso; first | exact hc0 h2 | exact hc0 (by omega))
     |(skip
       refine GC.rr 4 ?_;refine GL.so_ 0 ?_;refine GL.nl_ ?_;refine GC.seq' ?_;refine GC.rg 2 ?_;refine GC.co ?_ ?_
       ·intro h3; try simp only [tst_] at h3
        first
        | (exfalso; first | exact hc0 h3 | exact hc0 (by omega))
        |(skip
          refine GC.region ?_;refine GL.rn 3 ?_;refine GL.so_ 0 ?_
          refine GL.nil (?_ : GC _ _ _ _)
          refine GC.rg 1 ?_;refine GC.ret (Fin.b1 2 [] [] ?_)
          skip)
       intro h3; try simp only [tst_] at h3
       first
       | (exfalso; first | exact hc0 h3 | exact hc0 (by omega))
       |(skip
         refine GC.skip (?_ : GC _ _ _ _)
         refine GC.rg 1 ?_;refine GC.ret (Fin.b1 2 [] [] ?_)
         skip))
    intro h2; try simp only [tst_] at h2
    first
    | (exfalso; first | exact hc0 h2 | exact hc0 (by omega))
    |(skip
      refine GC.skip (?_ : GC _ _ _ _)
      refine GC.rr 4 ?_;refine GL.so_ 0 ?_;refine GL.nr 2 ?_;refine GL.nl_ ?_;refine GC.ret (Fin.b1 2 [] [] ?_)
      skip)
   exact GAs.nil)
theorem bend_ct (p e_ : Nat) (A : Option Addr) (b : List UInt8) (cp at_ : Nat) (code may : Int) : Ct Tryz.prog 164 [.pointer (some ⟨p,0,none⟩),.int .i64 may] (bleftG p e_ A b cp at_ code) []
    (fun u G Q => ∃ n e,((e = 0 ↔ code = 0 ∧ may = 0) ∧ (e = 0 → n = (at_ : Int))) ∧ u = .tuple #[.int .i64 n,.int .i64 e] ∧ G = bleftG p e_ A b cp at_ code ∧ Q = []) := by
 refine Ct.intro Tryz.func164 rfl rfl rfl (fun c hc => ?_)
 refine GC.rg 2 ?_;refine GC.seq' ?_;refine GC.rr 4 ?_;refine GL.ld_ 0 ?_;refine GL.rz 1 ?_;refine GC.co ?_ ?_
 ·intro h1; try simp only [tst_] at h1
  refine GC.seq' ?_;refine GC.regionQ wide_ (by kernel_rfl) ?_;refine GQ.rn 4 ?_;refine GQ.step rfl (q_mem (m_load (i := 0) rfl rfl ag_68 rfl)) ?_;refine GQ.rn 2 ?_
  refine GQ.nil (?_ : GC _ _ _ _)
  refine GC.ret (Fin.b2 4 5 [0] [] ?_)
  exact ⟨_,_,⟨by omega,by omega⟩,rfl,rfl,rfl⟩
 intro h1; try simp only [tst_] at h1
 refine GC.skip (?_ : GC _ _ _ _)
 refine GC.seq' ?_;refine GC.rg 2 ?_;refine GC.co ?_ ?_
 ·intro h2; try simp only [tst_] at h2
  refine GC.rg 2 ?_;refine GC.ret (Fin.b2 4 5 [0] [] ?_)
  exact ⟨_,_,⟨by omega,by omega⟩,rfl,rfl,rfl⟩
 intro h2; try simp only [tst_] at h2
 refine GC.skip (?_ : GC _ _ _ _)
 refine GC.rr 4 ?_;refine GL.ld_ 0 ?_;refine GL.rz 2 ?_;refine GC.ret (Fin.b2 4 5 [0] [] ?_)
 exact ⟨_,_,⟨by omega,by omega⟩,rfl,rfl,rfl⟩
def decOpS (b : List UInt8) : OpD × Nat × Int :=
  let x1 := numS b 0 0 1
  let x2 := numS b x1.2.1 x1.2.2 4
  let x3 := numS b x2.2.1 x2.2.2 4
  let x4 := txS b x3.2.1 x3.2.2
  let x5 := txS b x4.2.1 x4.2.2
  (⟨(x1.1 : Int),(x2.1 : Int),(x3.1 : Int),x4.1,x5.1⟩,x5.2)
theorem decOpS_eq {b : List UInt8} {v1 t1 v2 t2 v3 t3 t4 t5 : Nat} {k1 k2 k3 k4 k5 : Int} {x4 x5 : List UInt8} (e1 : numS b 0 0 1 = (v1,t1,k1)) (e2 : numS b t1 k1 4 = (v2,t2,k2)) (e3 : numS b t2 k2 4 = (v3,t3,k3)) (e4 : txS b t3 k3 = (x4,t4,k4)) (e5 : txS b t4 k4 = (x5,t5,k5)) :
    decOpS b = (⟨(v1 : Int),(v2 : Int),(v3 : Int),x4,x5⟩,t5,k5) := by
  simp only [decOpS,e1,e2,e3,e4,e5]
def decOp (b : List UInt8) : Option (OpD × Nat) := if (decOpS b).2.2 = 0 ∧ formE (decOpS b).1.kind (decOpS b).1.at_ (decOpS b).1.n (decOpS b).1.data.length (decOpS b).1.old.length = 0 then some ((decOpS b).1,(decOpS b).2.1) else none
theorem zq47_ {X : Prop} (h : X := by (exact ⟨zop,0,_,none,0,none,0,fun h => by omega,⟨by omega,fun _ => by rw [decOp,hd,if_neg]; intro hh; exact absurd (hn41.1.2 hh) (by assumption)⟩,by simp [zop],by simp,by simp [zop],by simp,rfl,rfl,rfl⟩)) : X := h
theorem zq48_ {X : Prop} (h : X := by (exact ⟨⟨(v16 : Int),(v21 : Int),(v25 : Int),x30,x35⟩,t35,0,_,_,_,_,fun _ => by rw [decOp,hd,if_pos (hn41.1.1 rfl)],⟨ht35,fun h => absurd rfl h⟩,l30,m30,l35,m35,rfl,rfl,rfl⟩)) : X := h
theorem decop_ct (A : Option Addr) (b : List UInt8) (cp : Nat) (hb : b.length ≤ cp) (hcp' : cp ≤ 9223372036854775807) (hb' : b.length ≤ 10000000000000) : Ct Tryz.prog 109 [.slice A b.length cp] [] [Pers.row Kd.u8 A b]
    (fun u G Q => ∃ (o : OpD) (n : Nat) (e : Int) (A1 : Option Addr) (c1 : Nat) (A2 : Option Addr) (c2 : Nat),(e = 0 → decOp b = some (o,n)) ∧ (n ≤ b.length ∧ (e ≠ 0 → decOp b = none)) ∧ o.data.length ≤ c1 ∧ c1 ≤ 9223372036854775807 ∧ o.old.length ≤ c2 ∧ c2 ≤ 9223372036854775807 ∧ u = .tuple #[opD o A1 c1 A2 c2,.int .i64 (n : Int),.int .i64 e] ∧ G = [] ∧ Q = [Pers.row Kd.u8 A1 o.data,Pers.row Kd.u8 A2 o.old]) := by
 have hp1 : (256 : Nat) ^ 1 = 256 := p256_1
 have hp4 : (256 : Nat) ^ 4 = 4294967296 := p256_4
 refine Ct.intro Tryz.func109 rfl rfl rfl (fun c hc => ?_)
 refine GC.sr_ ?_;refine GL.step rfl (t_alloc rfl ze_49) (GL.ex fun b_t2 => ?_);refine GL.rz 2 ?_;refine GC.rr 1 ?_;refine GL.pure rfl (p_build ze_236 of_236 rfl rfl) ?_;refine GL.pure rfl (p_build ze_238 of_238 rfl rfl) ?_
 refine GL.step rfl (t_box rfl rfl rfl) (GL.ex fun b_t12 => ?_);refine GL.rz 1 ?_;refine GC.seq' ?_;refine GC.regionC (m := 16) (is := [1]) (js := [0]) wide_ rfl rfl rfl ?_;refine GA.tk 0 [1] [0] ?_;refine GA.tk 1 [1] [0] ?_
 refine GA.tk 2 [1] [0] ?_;refine GA.tk 5 [1] [0] ?_;refine GA.tk 6 [1] [0] ?_;refine GA.tk 7 [1] [0] ?_;refine GA.tk 9 [1] [0] ?_;refine GA.tk 10 [1] [0] ?_;refine GA.tk 11 [1] [0] ?_;refine GA.al [3,14] ?_
 refine GAs.cons (i := 3) rfl rfl (t_call rfl Tryz.call162 rfl (is := [0]) (js := [0]) rfl rfl (by exact bnum_ct _ _ _ b _ 0 0 1 (by omega) (by omega) (by omega) (by omega) (by omega))) (by rintro a w ⟨_,_,_,⟨v16,t16,k16,hs16,rfl,rfl,rfl⟩,h⟩; exact h.me [1] [0]) (GA.ret ?_) ?_
 ·rintro _ _ _ ⟨v16,t16,k16,hs16,rfl,rfl,rfl⟩
  obtain ⟨ht16,hv16⟩ := numS_rng hs16 (by omega)
  refine GA.tp 4 rfl [1] [0] (i_pure (p_convR (t := 3) (r := ((v16 : Nat) : Int)) (by rw [Tryz.underlying3]; simp) Tryz.underlying46 rfl (by simp [IntKind.wrap,IntKind.bits,IntKind.signed]; omega))) ?_;refine GA.al [8,14] ?_
  refine GAs.cons (i := 8) rfl rfl (t_call rfl Tryz.call162 rfl (is := [0]) (js := [0]) rfl rfl (by exact bnum_ct _ _ _ b _ t16 k16 4 (by omega) (by omega) (by omega) (by omega) (by omega))) (by rintro a w ⟨_,_,_,⟨v21,t21,k21,hs21,rfl,rfl,rfl⟩,h⟩; exact h.me [1] [0]) (GA.ret ?_) ?_
  ·rintro _ _ _ ⟨v21,t21,k21,hs21,rfl,rfl,rfl⟩
   obtain ⟨ht21,hv21⟩ := numS_rng hs21 (by omega)
   refine GA.al [12,14] ?_
   refine GAs.cons (i := 12) rfl rfl (t_call rfl Tryz.call162 rfl (is := [0]) (js := [0]) rfl rfl (by exact bnum_ct _ _ _ b _ t21 k21 4 (by omega) (by omega) (by omega) (by omega) (by omega))) (by rintro a w ⟨_,_,_,⟨v25,t25,k25,hs25,rfl,rfl,rfl⟩,h⟩; exact h.me [1] [0]) (GA.ret ?_) ?_
   ·rintro _ _ _ ⟨v25,t25,k25,hs25,rfl,rfl,rfl⟩
    obtain ⟨ht25,hv25⟩ := numS_rng hs25 (by omega)
    refine GA.tp 13 rfl [1] [0] (i_pure (p_build ze_49 of_49 rfl rfl)) ?_;refine GA.al [14] ?_
    refine GAs.cons (i := 14) rfl rfl (t_alloc rfl ze_49) (by rintro a w ⟨_,h⟩; exact h.me [2] [0]) (GA.ex fun b_t6 => ?_) GAs.nil
    refine GA.al [15] ?_
    refine GAs.cons (i := 15) rfl rfl (t_storeN (i := 0) rfl rfl rfl sz_49 rfl rfl rfl) (by rintro a w h; exact h.me [2] [0]) ?_ GAs.nil
    refine GA.done (by kernel_rfl) (?_ : GC _ _ _ _)
    refine GC.rr 3 ?_;refine GL.cl Tryz.call163 [1] [0] rfl rfl rfl (by exact btext_ct _ _ _ _ _ _ _ (by omega) (by omega) (by omega) (by omega)) ?_
    rintro _ _ _ ⟨x30,t30,k30,A30,c30,hs30,l30,m30,rfl,rfl,rfl⟩
    obtain ⟨ht30,hx30⟩ := txS_rng hs30 (by omega)
    refine GL.rn 1 ?_;refine GL.so_ 1 ?_;refine GL.nr 3 ?_;refine GL.cl Tryz.call163 [0] [1] rfl rfl rfl (by exact btext_ct _ _ _ _ _ _ _ (by omega) (by omega) (by omega) (by omega)) ?_
    rintro _ _ _ ⟨x35,t35,k35,A35,c35,hs35,l35,m35,rfl,rfl,rfl⟩
    obtain ⟨ht35,hx35⟩ := txS_rng hs35 (by omega)
    refine GL.rn 1 ?_;refine GL.so_ 1 ?_;refine GL.nr 1 ?_;refine GL.ln_ 1 5 ?_;refine GL.cl Tryz.call87 [] [] rfl rfl rfl (by exact form_ct (v16 : Int) (v21 : Int) (v25 : Int) _ x30.length _ _ x35.length _) ?_
    rintro _ _ _ ⟨rfl,rfl,rfl⟩
    refine GL.cl Tryz.call164 [0] [] rfl rfl rfl (by exact bend_ct _ _ _ _ _ _ _ _) ?_
    rintro _ _ _ ⟨n41,e41,hn41,rfl,rfl,rfl⟩
    refine GL.rz 5 ?_;refine GC.seq' ?_;refine GC.sr_ ?_
    have hd := decOpS_eq hs16 hs21 hs25 hs30 hs35
    refine GL.rz 2 ?_;refine GC.co ?_ ?_
    ·intro h1; try simp only [tst_] at h1
     refine GC.sr_ ?_;refine GL.pure rfl (p_build ze_49 of_49 rfl rfl) ?_;refine GL.rn 1 ?_;refine GL.sn_ 2 ?_;refine GL.rz 2 ?_;refine GC.know (q := Pers.row Kd.u8 none []) (fun _ _ _ => .inl rfl) ?_;refine GC.ret (Fin.c2 2 49 3 4 2 5 [] [0,0] ?_)
     exact zq47_
    intro h1; try simp only [tst_] at h1
    refine GC.skip (?_ : GC _ _ _ _)
    refine GC.sr_ ?_;refine GL.ln_ 1 5 ?_;refine GL.rn 1 ?_;refine GL.sn_ 2 ?_;refine GL.rz 2 ?_;refine GC.ret (Fin.c2 2 49 3 4 2 5 [] [1,0] ?_)
    have e0 : e41 = 0 := by assumption
    have en := hn41.2 e0
    subst en e0
    exact zq48_
   refine GAs.cons (i := 14) rfl rfl (t_alloc rfl ze_49) (by rintro a w ⟨_,h⟩; exact h.me [2] [0]) (GA.ex fun b_t6 => ?_) GAs.nil
   refine GA.al [12] ?_
   refine GAs.cons (i := 12) rfl rfl (t_call rfl Tryz.call162 rfl (is := [1]) (js := [0]) rfl rfl (by exact bnum_ct _ _ _ b _ t21 k21 4 (by omega) (by omega) (by omega) (by omega) (by omega))) (by rintro a w ⟨_,_,_,⟨v25,t25,k25,hs25,rfl,rfl,rfl⟩,h⟩; exact h.me [2] [0]) (GA.ret ?_) GAs.nil
   rintro _ _ _ ⟨v25,t25,k25,hs25,rfl,rfl,rfl⟩
   obtain ⟨ht25,hv25⟩ := numS_rng hs25 (by omega)
   refine GA.tp 13 rfl [2] [0] (i_pure (p_build ze_49 of_49 rfl rfl)) ?_;refine GA.al [15] ?_
   refine GAs.cons (i := 15) rfl rfl (t_storeN (i := 1) rfl rfl rfl sz_49 rfl rfl rfl) (by rintro a w h; exact h.me [2] [0]) ?_ GAs.nil
   refine GA.done (by kernel_rfl) (?_ : GC _ _ _ _)
   refine GC.rr 3 ?_;refine GL.cl Tryz.call163 [0] [0] rfl rfl rfl (by exact btext_ct _ _ _ _ _ _ _ (by omega) (by omega) (by omega) (by omega)) ?_
   rintro _ _ _ ⟨x30,t30,k30,A30,c30,hs30,l30,m30,rfl,rfl,rfl⟩
   obtain ⟨ht30,hx30⟩ := txS_rng hs30 (by omega)
   refine GL.rn 1 ?_;refine GL.so_ 1 ?_;refine GL.nr 3 ?_;refine GL.cl Tryz.call163 [0] [1] rfl rfl rfl (by exact btext_ct _ _ _ _ _ _ _ (by omega) (by omega) (by omega) (by omega)) ?_
   rintro _ _ _ ⟨x35,t35,k35,A35,c35,hs35,l35,m35,rfl,rfl,rfl⟩
   obtain ⟨ht35,hx35⟩ := txS_rng hs35 (by omega)
   refine GL.rn 1 ?_;refine GL.so_ 1 ?_;refine GL.nr 1 ?_;refine GL.ln_ 1 5 ?_;refine GL.cl Tryz.call87 [] [] rfl rfl rfl (by exact form_ct (v16 : Int) (v21 : Int) (v25 : Int) _ x30.length _ _ x35.length _) ?_
   rintro _ _ _ ⟨rfl,rfl,rfl⟩
   refine GL.cl Tryz.call164 [0] [] rfl rfl rfl (by exact bend_ct _ _ _ _ _ _ _ _) ?_
   rintro _ _ _ ⟨n41,e41,hn41,rfl,rfl,rfl⟩
   refine GL.rz 5 ?_;refine GC.seq' ?_;refine GC.sr_ ?_
   have hd := decOpS_eq hs16 hs21 hs25 hs30 hs35
   refine GL.rz 2 ?_;refine GC.co ?_ ?_
   ·intro h1; try simp only [tst_] at h1
    refine GC.sr_ ?_;refine GL.pure rfl (p_build ze_49 of_49 rfl rfl) ?_;refine GL.rn 1 ?_;refine GL.sn_ 2 ?_;refine GL.rz 2 ?_;refine GC.know (q := Pers.row Kd.u8 none []) (fun _ _ _ => .inl rfl) ?_;refine GC.ret (Fin.c2 2 49 3 4 2 5 [] [0,0] ?_)
    exact zq47_
   intro h1; try simp only [tst_] at h1
   refine GC.skip (?_ : GC _ _ _ _)
   refine GC.sr_ ?_;refine GL.ln_ 1 5 ?_;refine GL.rn 1 ?_;refine GL.sn_ 2 ?_;refine GL.rz 2 ?_;refine GC.ret (Fin.c2 2 49 3 4 2 5 [] [1,0] ?_)
   have e0 : e41 = 0 := by assumption
   have en := hn41.2 e0
   subst en e0
   exact zq48_
  refine GAs.cons (i := 14) rfl rfl (t_alloc rfl ze_49) (by rintro a w ⟨_,h⟩; exact h.me [2] [0]) (GA.ex fun b_t6 => ?_) GAs.nil
  refine GA.al [8] ?_
  refine GAs.cons (i := 8) rfl rfl (t_call rfl Tryz.call162 rfl (is := [1]) (js := [0]) rfl rfl (by exact bnum_ct _ _ _ b _ t16 k16 4 (by omega) (by omega) (by omega) (by omega) (by omega))) (by rintro a w ⟨_,_,_,⟨v21,t21,k21,hs21,rfl,rfl,rfl⟩,h⟩; exact h.me [2] [0]) (GA.ret ?_) GAs.nil
  rintro _ _ _ ⟨v21,t21,k21,hs21,rfl,rfl,rfl⟩
  obtain ⟨ht21,hv21⟩ := numS_rng hs21 (by omega)
  refine GA.al [12] ?_
  refine GAs.cons (i := 12) rfl rfl (t_call rfl Tryz.call162 rfl (is := [0]) (js := [0]) rfl rfl (by exact bnum_ct _ _ _ b _ t21 k21 4 (by omega) (by omega) (by omega) (by omega) (by omega))) (by rintro a w ⟨_,_,_,⟨v25,t25,k25,hs25,rfl,rfl,rfl⟩,h⟩; exact h.me [2] [0]) (GA.ret ?_) GAs.nil
  rintro _ _ _ ⟨v25,t25,k25,hs25,rfl,rfl,rfl⟩
  obtain ⟨ht25,hv25⟩ := numS_rng hs25 (by omega)
  refine GA.tp 13 rfl [2] [0] (i_pure (p_build ze_49 of_49 rfl rfl)) ?_;refine GA.al [15] ?_
  refine GAs.cons (i := 15) rfl rfl (t_storeN (i := 1) rfl rfl rfl sz_49 rfl rfl rfl) (by rintro a w h; exact h.me [2] [0]) ?_ GAs.nil
  refine GA.done (by kernel_rfl) (?_ : GC _ _ _ _)
  refine GC.rr 3 ?_;refine GL.cl Tryz.call163 [0] [0] rfl rfl rfl (by exact btext_ct _ _ _ _ _ _ _ (by omega) (by omega) (by omega) (by omega)) ?_
  rintro _ _ _ ⟨x30,t30,k30,A30,c30,hs30,l30,m30,rfl,rfl,rfl⟩
  obtain ⟨ht30,hx30⟩ := txS_rng hs30 (by omega)
  refine GL.rn 1 ?_;refine GL.so_ 1 ?_;refine GL.nr 3 ?_;refine GL.cl Tryz.call163 [0] [1] rfl rfl rfl (by exact btext_ct _ _ _ _ _ _ _ (by omega) (by omega) (by omega) (by omega)) ?_
  rintro _ _ _ ⟨x35,t35,k35,A35,c35,hs35,l35,m35,rfl,rfl,rfl⟩
  obtain ⟨ht35,hx35⟩ := txS_rng hs35 (by omega)
  refine GL.rn 1 ?_;refine GL.so_ 1 ?_;refine GL.nr 1 ?_;refine GL.ln_ 1 5 ?_;refine GL.cl Tryz.call87 [] [] rfl rfl rfl (by exact form_ct (v16 : Int) (v21 : Int) (v25 : Int) _ x30.length _ _ x35.length _) ?_
  rintro _ _ _ ⟨rfl,rfl,rfl⟩
  refine GL.cl Tryz.call164 [0] [] rfl rfl rfl (by exact bend_ct _ _ _ _ _ _ _ _) ?_
  rintro _ _ _ ⟨n41,e41,hn41,rfl,rfl,rfl⟩
  refine GL.rz 5 ?_;refine GC.seq' ?_;refine GC.sr_ ?_
  have hd := decOpS_eq hs16 hs21 hs25 hs30 hs35
  refine GL.rz 2 ?_;refine GC.co ?_ ?_
  ·intro h1; try simp only [tst_] at h1
   refine GC.sr_ ?_;refine GL.pure rfl (p_build ze_49 of_49 rfl rfl) ?_;refine GL.rn 1 ?_;refine GL.sn_ 2 ?_;refine GL.rz 2 ?_;refine GC.know (q := Pers.row Kd.u8 none []) (fun _ _ _ => .inl rfl) ?_;refine GC.ret (Fin.c2 2 49 3 4 2 5 [] [0,0] ?_)
   exact zq47_
  intro h1; try simp only [tst_] at h1
  refine GC.skip (?_ : GC _ _ _ _)
  refine GC.sr_ ?_;refine GL.ln_ 1 5 ?_;refine GL.rn 1 ?_;refine GL.sn_ 2 ?_;refine GL.rz 2 ?_;refine GC.ret (Fin.c2 2 49 3 4 2 5 [] [1,0] ?_)
  have e0 : e41 = 0 := by assumption
  have en := hn41.2 e0
  subst en e0
  exact zq48_
 refine GAs.cons (i := 14) rfl rfl (t_alloc rfl ze_49) (by rintro a w ⟨_,h⟩; exact h.me [2] [0]) (GA.ex fun b_t6 => ?_) GAs.nil
 refine GA.al [3] ?_
 refine GAs.cons (i := 3) rfl rfl (t_call rfl Tryz.call162 rfl (is := [1]) (js := [0]) rfl rfl (by exact bnum_ct _ _ _ b _ 0 0 1 (by omega) (by omega) (by omega) (by omega) (by omega))) (by rintro a w ⟨_,_,_,⟨v16,t16,k16,hs16,rfl,rfl,rfl⟩,h⟩; exact h.me [2] [0]) (GA.ret ?_) GAs.nil
 rintro _ _ _ ⟨v16,t16,k16,hs16,rfl,rfl,rfl⟩
 obtain ⟨ht16,hv16⟩ := numS_rng hs16 (by omega)
 refine GA.tp 4 rfl [2] [0] (i_pure (p_convR (t := 3) (r := ((v16 : Nat) : Int)) (by rw [Tryz.underlying3]; simp) Tryz.underlying46 rfl (by simp [IntKind.wrap,IntKind.bits,IntKind.signed]; omega))) ?_;refine GA.al [8] ?_
 refine GAs.cons (i := 8) rfl rfl (t_call rfl Tryz.call162 rfl (is := [0]) (js := [0]) rfl rfl (by exact bnum_ct _ _ _ b _ t16 k16 4 (by omega) (by omega) (by omega) (by omega) (by omega))) (by rintro a w ⟨_,_,_,⟨v21,t21,k21,hs21,rfl,rfl,rfl⟩,h⟩; exact h.me [2] [0]) (GA.ret ?_) GAs.nil
 rintro _ _ _ ⟨v21,t21,k21,hs21,rfl,rfl,rfl⟩
 obtain ⟨ht21,hv21⟩ := numS_rng hs21 (by omega)
 refine GA.al [12] ?_
 refine GAs.cons (i := 12) rfl rfl (t_call rfl Tryz.call162 rfl (is := [0]) (js := [0]) rfl rfl (by exact bnum_ct _ _ _ b _ t21 k21 4 (by omega) (by omega) (by omega) (by omega) (by omega))) (by rintro a w ⟨_,_,_,⟨v25,t25,k25,hs25,rfl,rfl,rfl⟩,h⟩; exact h.me [2] [0]) (GA.ret ?_) GAs.nil
 rintro _ _ _ ⟨v25,t25,k25,hs25,rfl,rfl,rfl⟩
 obtain ⟨ht25,hv25⟩ := numS_rng hs25 (by omega)
 refine GA.tp 13 rfl [2] [0] (i_pure (p_build ze_49 of_49 rfl rfl)) ?_;refine GA.al [15] ?_
 refine GAs.cons (i := 15) rfl rfl (t_storeN (i := 1) rfl rfl rfl sz_49 rfl rfl rfl) (by rintro a w h; exact h.me [2] [0]) ?_ GAs.nil
 refine GA.done (by kernel_rfl) (?_ : GC _ _ _ _)
 refine GC.rr 3 ?_;refine GL.cl Tryz.call163 [0] [0] rfl rfl rfl (by exact btext_ct _ _ _ _ _ _ _ (by omega) (by omega) (by omega) (by omega)) ?_
 rintro _ _ _ ⟨x30,t30,k30,A30,c30,hs30,l30,m30,rfl,rfl,rfl⟩
 obtain ⟨ht30,hx30⟩ := txS_rng hs30 (by omega)
 refine GL.rn 1 ?_;refine GL.so_ 1 ?_;refine GL.nr 3 ?_;refine GL.cl Tryz.call163 [0] [1] rfl rfl rfl (by exact btext_ct _ _ _ _ _ _ _ (by omega) (by omega) (by omega) (by omega)) ?_
 rintro _ _ _ ⟨x35,t35,k35,A35,c35,hs35,l35,m35,rfl,rfl,rfl⟩
 obtain ⟨ht35,hx35⟩ := txS_rng hs35 (by omega)
 refine GL.rn 1 ?_;refine GL.so_ 1 ?_;refine GL.nr 1 ?_;refine GL.ln_ 1 5 ?_;refine GL.cl Tryz.call87 [] [] rfl rfl rfl (by exact form_ct (v16 : Int) (v21 : Int) (v25 : Int) _ x30.length _ _ x35.length _) ?_
 rintro _ _ _ ⟨rfl,rfl,rfl⟩
 refine GL.cl Tryz.call164 [0] [] rfl rfl rfl (by exact bend_ct _ _ _ _ _ _ _ _) ?_
 rintro _ _ _ ⟨n41,e41,hn41,rfl,rfl,rfl⟩
 refine GL.rz 5 ?_;refine GC.seq' ?_;refine GC.sr_ ?_
 have hd := decOpS_eq hs16 hs21 hs25 hs30 hs35
 refine GL.rz 2 ?_;refine GC.co ?_ ?_
 ·intro h1; try simp only [tst_] at h1
  refine GC.sr_ ?_;refine GL.pure rfl (p_build ze_49 of_49 rfl rfl) ?_;refine GL.rn 1 ?_;refine GL.sn_ 2 ?_;refine GL.rz 2 ?_;refine GC.know (q := Pers.row Kd.u8 none []) (fun _ _ _ => .inl rfl) ?_;refine GC.ret (Fin.c2 2 49 3 4 2 5 [] [0,0] ?_)
  exact zq47_
 intro h1; try simp only [tst_] at h1
 refine GC.skip (?_ : GC _ _ _ _)
 refine GC.sr_ ?_;refine GL.ln_ 1 5 ?_;refine GL.rn 1 ?_;refine GL.sn_ 2 ?_;refine GL.rz 2 ?_;refine GC.ret (Fin.c2 2 49 3 4 2 5 [] [1,0] ?_)
 have e0 : e41 = 0 := by assumption
 have en := hn41.2 e0
 subst en e0
 exact zq48_
def decResS (b : List UInt8) : Res × Nat × Int :=
  let x1 := numS b 0 0 1
  let x2 := txS b x1.2.1 x1.2.2
  (⟨(x1.1 : Int),x2.1⟩,x2.2)
theorem decResS_eq {b : List UInt8} {v1 t1 t2 : Nat} {k1 k2 : Int} {x2 : List UInt8} (e1 : numS b 0 0 1 = (v1,t1,k1)) (e2 : txS b t1 k1 = (x2,t2,k2)) : decResS b = (⟨(v1 : Int),x2⟩,t2,k2) := by
  simp only [decResS,e1,e2]
def decRes (b : List UInt8) : Option (Res × Nat) := if (decResS b).2.2 = 0 ∧ resOk (decResS b).1.code (decResS b).1.data.length = true then some ((decResS b).1,(decResS b).2.1) else none
theorem decres_ct (A : Option Addr) (b : List UInt8) (cp : Nat) (hb : b.length ≤ cp) (hcp' : cp ≤ 9223372036854775807) (hb' : b.length ≤ 10000000000000) : Ct Tryz.prog 110 [.slice A b.length cp] [] [Pers.row Kd.u8 A b]
    (fun u G Q => ∃ (o : Res) (n : Nat) (e : Int) (A1 : Option Addr) (c1 : Nat),(e = 0 → decRes b = some (o,n)) ∧ (n ≤ b.length ∧ (e ≠ 0 → decRes b = none)) ∧ o.data.length ≤ c1 ∧ c1 ≤ 9223372036854775807 ∧ u = .tuple #[.agg #[.int .u8 o.code,.slice A1 o.data.length c1],.int .i64 (n : Int),.int .i64 e] ∧ G = [] ∧ Q = [Pers.row Kd.u8 A1 o.data]) := by
 have hp1 : (256 : Nat) ^ 1 = 256 := p256_1
 refine Ct.intro Tryz.func110 rfl rfl rfl (fun c hc => ?_)
 refine GC.sr_ ?_;refine GL.step rfl (t_alloc rfl ze_52) (GL.ex fun b_t2 => ?_);refine GL.rz 2 ?_;refine GC.rr 1 ?_;refine GL.pure rfl (p_build ze_236 of_236 rfl rfl) ?_;refine GL.pure rfl (p_build ze_238 of_238 rfl rfl) ?_
 refine GL.step rfl (t_box rfl rfl rfl) (GL.ex fun b_t12 => ?_);refine GL.rz 1 ?_;refine GC.rr 3 ?_;refine GL.cl Tryz.call162 [0] [0] rfl rfl rfl (by exact bnum_ct _ _ _ b _ 0 0 1 (by omega) (by omega) (by omega) (by omega) (by omega)) ?_
 rintro _ _ _ ⟨v16,t16,k16,hs16,rfl,rfl,rfl⟩
 obtain ⟨ht16,hv16⟩ := numS_rng hs16 (by omega)
 refine GL.pure rfl (p_convR (t := 3) (r := ((v16 : Nat) : Int)) (by rw [Tryz.underlying3]; simp) Tryz.underlying50 rfl (by simp [IntKind.wrap,IntKind.bits,IntKind.signed]; omega)) ?_;refine GL.pure rfl (p_build ze_52 of_52 rfl rfl) ?_
 refine GL.step rfl (t_alloc rfl ze_52) (GL.ex fun b_t6 => ?_);refine GL.sn_ 0 ?_;refine GL.nr 3 ?_;refine GL.cl Tryz.call163 [1] [0] rfl rfl rfl (by exact btext_ct _ _ _ _ _ _ _ (by omega) (by omega) (by omega) (by omega)) ?_
 rintro _ _ _ ⟨x22,t22,k22,A22,c22,hs22,l22,m22,rfl,rfl,rfl⟩
 obtain ⟨ht22,hx22⟩ := txS_rng hs22 (by omega)
 refine GL.rn 1 ?_;refine GL.so_ 1 ?_;refine GL.nr 1 ?_;refine GL.ln_ 1 2 ?_;refine GL.cl Tryz.call88 [] [] rfl rfl rfl (by exact bres_ct (v16 : Int) _ x22.length _) ?_
 rintro _ _ _ ⟨rfl,rfl,rfl⟩
 refine GL.cl Tryz.call164 [0] [] rfl rfl rfl (by exact bend_ct _ _ _ _ _ _ _ _) ?_
 rintro _ _ _ ⟨n28,e28,hn28,rfl,rfl,rfl⟩
 refine GL.rz 5 ?_;refine GC.seq' ?_;refine GC.sr_ ?_
 have hd := decResS_eq hs16 hs22
 refine GL.rz 2 ?_;refine GC.co ?_ ?_
 ·intro h1; try simp only [tst_] at h1
  refine GC.sr_ ?_;refine GL.pure rfl (p_build ze_52 of_52 rfl rfl) ?_;refine GL.rn 1 ?_;refine GL.sn_ 2 ?_;refine GL.rz 2 ?_;refine GC.know (q := Pers.row Kd.u8 none []) (fun _ _ _ => .inl rfl) ?_;refine GC.ret (Fin.c2 2 52 3 4 2 2 [] [0] ?_)
  exact ⟨⟨0,[]⟩,0,_,none,0,fun h => by omega,⟨by omega,fun _ => by rw [decRes,hd,if_neg]; intro hh; exact absurd (hn28.1.2 ⟨hh.1,by rw [if_pos hh.2]⟩) (by assumption)⟩,by simp,by simp,rfl,rfl,rfl⟩
 intro h1; try simp only [tst_] at h1
 refine GC.skip (?_ : GC _ _ _ _)
 refine GC.sr_ ?_;refine GL.ln_ 1 2 ?_;refine GL.rn 1 ?_;refine GL.sn_ 2 ?_;refine GL.rz 2 ?_;refine GC.ret (Fin.c2 2 52 3 4 2 2 [] [0] ?_)
 have e0 : e28 = 0 := by assumption
 have en := hn28.2 e0
 subst en e0
 exact ⟨⟨(v16 : Int),x22⟩,t22,0,_,_,fun _ => by rw [decRes,hd,if_pos ⟨(hn28.1.1 rfl).1,Eq.mp (resE_iff _) (hn28.1.1 rfl).2⟩],⟨ht22,fun h => absurd rfl h⟩,l22,m22,rfl,rfl,rfl⟩
abbrev mF (e : Int) : Value := .iface 247 (.agg #[.int .i64 e])
def mFault (v : Value) : Prop := ∃ e : Int,e ≠ 0 ∧ v = mF e
theorem must_ct (e : Int) : CtP Tryz.prog 170 [.int .i64 e] [] [] (fun u G Q => e = 0 ∧ u = .tuple #[] ∧ G = [] ∧ Q = []) (fun v => e ≠ 0 ∧ v = mF e) := by
 refine CtP.intro Tryz.func170 rfl rfl rfl (fun c hc => ?_)
 refine GC.rg 2 ?_;refine GC.co ?_ ?_
 ·intro h1; try simp only [tst_] at h1
  refine GC.region ?_;refine GL.rn 1 ?_;refine GL.pure rfl (p_build ze_247 of_247 rfl rfl) ?_;refine GL.pure rfl (p_mkIface Tryz.underlying247 (fun m h => by cases h) rfl) ?_;refine GL.panicN rfl (fun a w h => ?_)
  exact FinP.panic ⟨by assumption,rfl⟩ h
 intro h1; try simp only [tst_] at h1
 refine GC.skip ?_
 refine fun a w h => FinP.back0 rfl (is := []) (js := []) rfl rfl ?_ h
 clear h
 exact ⟨by omega,rfl,rfl,rfl⟩
theorem getE_zero {b : List UInt8} {at_ n : Nat} (h : getE b at_ n = 0) : at_ + n ≤ b.length := by
  by_cases hq : at_ + n ≤ b.length
  · exact hq
  · rw [getE,if_neg hq] at h; omega
def mnumF (b : List UInt8) (at_ n : Nat) : Option (Int × Nat) := if at_ + n ≤ b.length then some (if (getV b at_ n : Int) > 4611686018427387904 then -1 else (getV b at_ n : Int),getX b at_ n) else none
theorem mnumF_rng {b : List UInt8} {at_ n : Nat} {v : Int} {t : Nat} (h : mnumF b at_ n = some (v,t)) : t ≤ b.length ∧ t = at_ + n ∧ -1 ≤ v ∧ v ≤ 4611686018427387904 ∧ v < (256 ^ n : Nat) := by
  unfold mnumF at h
  split at h
  · rename_i hq
    obtain ⟨h1,h2⟩ := Prod.mk.inj (Option.some.inj h)
    have hv : valN (seg b at_ (at_ + n)) < 256 ^ n := valN_rng hq (by omega)
    have hp : 0 < 256 ^ n := Nat.pow_pos (by decide)
    split at h1 <;> omega
  · cases h
abbrev mleftG (p e : Nat) (A : Option Addr) (b : List UInt8) (cp at_ : Nat) : List Own := [.cells p [.slice A b.length cp,.int .i64 (at_ : Int)] e]
theorem mlnum_ct (p e_ : Nat) (A : Option Addr) (b : List UInt8) (cp at_ : Nat) (n : Nat) (hn : 1 ≤ n) (hn' : n ≤ 8) (hb : b.length ≤ cp) (hb' : b.length ≤ 10000000000000) (hat : at_ ≤ b.length) : CtP Tryz.prog 169 [.pointer (some ⟨p,0,none⟩),.int .i64 (n : Int)] (mleftG p e_ A b cp at_) [Pers.row Kd.u8 A b]
    (fun u G Q => ∃ v t,mnumF b at_ n = some (v,t) ∧ u = .int .i64 v ∧ G = mleftG p e_ A b cp t ∧ Q = []) (fun v => mFault v ∧ mnumF b at_ n = none) := by
 refine CtP.intro Tryz.func169 rfl rfl rfl (fun c hc => ?_)
 refine GC.rg 1 ?_;refine GC.seq' ?_;refine GC.regionQ wide_ (by kernel_rfl) ?_;refine GQ.rn 3 ?_;refine GQ.step rfl (q_mem (m_load (i := 0) rfl rfl ag_47 rfl)) ?_;refine GQ.rn 3 ?_;refine GQ.step rfl (q_mem (m_load (i := 0) rfl rfl ag_3 rfl)) ?_
 refine GQ.rn 1 ?_;refine GQ.step rfl (q_call Tryz.call72 rfl (js := [0]) rfl (by exact get_all _ b _ at_ n hn hn' hb (by omega) hat)) ?_;refine GQ.rn 7 ?_
 refine GQ.nil (?_ : GC _ _ _ _)
 refine GC.rr 1 ?_;refine GL.callP rfl Tryz.call170 rfl (is := []) (js := []) rfl rfl (by exact must_ct _) (fun v a w he h => FinP.panic ⟨⟨_,he⟩,by rw [mnumF,if_neg (fun hq => he.1 (if_pos hq))]⟩ h) (GL.ret ?_)
 rintro _ _ _ ⟨he23,rfl,rfl,rfl⟩
 have hq4 := getE_zero he23
 refine GL.nr 4 ?_;refine GL.so_ 0 ?_;refine GL.nl_ ?_;refine GC.seq' ?_;refine GC.rg 2 ?_;refine GC.co ?_ ?_
 ·intro h1; try simp only [tst_] at h1
  refine GC.rg 1 ?_;refine GC.ret (FinP.b1 4 [0] [] ?_)
  exact ⟨-1,_,by rw [mnumF,if_pos hq4,if_pos (by assumption)],rfl,rfl,rfl⟩
 intro h1; try simp only [tst_] at h1
 refine GC.skip (?_ : GC _ _ _ _)
 refine GC.rr 1 ?_;refine GL.pure rfl (p_convR (t := 45) (r := ((getV b at_ n : Nat) : Int)) (by rw [Tryz.underlying45]; simp) Tryz.underlying3 rfl (cvI (by omega) (by omega))) ?_
 refine GL.rz 1 ?_;refine GC.ret (FinP.b1 4 [0] [] ?_)
 exact ⟨_,_,by rw [mnumF,if_pos hq4,if_neg (by omega)],rfl,rfl,rfl⟩
def mtxF (b : List UInt8) (at_ : Nat) : Option (List UInt8 × Nat) := if (txF b at_).2.2 = 0 then some ((txF b at_).1,(txF b at_).2.1) else none
theorem mtxF_rng {b : List UInt8} {at_ : Nat} {x : List UInt8} {t : Nat} (h : mtxF b at_ = some (x,t)) : t ≤ b.length ∧ x.length ≤ 16777216 := by
  unfold mtxF at h
  split at h
  · rename_i h0
    obtain ⟨h1,h2⟩ := Prod.mk.inj (Option.some.inj h)
    exact txF_rng (b := b) (at_ := at_) (e := (txF b at_).2.2) (by rw [← h1,← h2]) h0
  · cases h
theorem mltext_ct (p e_ : Nat) (A : Option Addr) (b : List UInt8) (cp at_ : Nat) (hb : b.length ≤ cp) (hcp' : cp ≤ 9223372036854775807) (hb' : b.length ≤ 10000000000000) (hat : at_ ≤ b.length) : CtP Tryz.prog 207 [.pointer (some ⟨p,0,none⟩)] (mleftG p e_ A b cp at_) [Pers.row Kd.u8 A b]
    (fun u G Q => ∃ x t A' c',mtxF b at_ = some (x,t) ∧ x.length ≤ c' ∧ c' ≤ 9223372036854775807 ∧ u = .slice A' x.length c' ∧ G = mleftG p e_ A b cp t ∧ Q = [Pers.row Kd.u8 A' x]) (fun v => mFault v ∧ mtxF b at_ = none) := by
 refine CtP.intro Tryz.func207 rfl rfl rfl (fun c hc => ?_)
 refine GC.rg 1 ?_;refine GC.seq' ?_;refine GC.regionC (m := 16) (is := [0]) (js := [0]) wide_ rfl rfl rfl ?_;refine GA.tk 0 [0] [0] ?_;refine GA.tk 1 [0] [0] ?_;refine GA.tk 2 [0] [0] ?_;refine GA.tp 3 rfl [0] [0] (i_mem (m_load (i := 0) rfl rfl ag_47 rfl)) ?_
 refine GA.tk 4 [0] [0] ?_;refine GA.tk 5 [0] [0] ?_;refine GA.tk 6 [0] [0] ?_;refine GA.tp 7 rfl [0] [0] (i_mem (m_load (i := 0) rfl rfl ag_3 rfl)) ?_;refine GA.al [8] ?_
 refine GAs.cons (i := 8) rfl rfl (t_call rfl Tryz.call205 rfl (is := []) (js := [0]) rfl rfl (by exact gettext_ct _ _ _ _ (by omega) (by omega) (by omega) (by omega))) (by rintro a w ⟨_,_,_,⟨x15,n15,e15,A15,c15,hs15,l15,k15,rfl,rfl,rfl⟩,h⟩; exact h.me [0] [1]) (GA.ret ?_) GAs.nil
 rintro _ _ _ ⟨x15,n15,e15,A15,c15,hs15,l15,k15,rfl,rfl,rfl⟩
 refine GA.tk 9 [0] [1] ?_;refine GA.tk 10 [0] [1] ?_;refine GA.tk 11 [0] [1] ?_;refine GA.tk 12 [0] [1] ?_;refine GA.tk 13 [0] [1] ?_;refine GA.tk 14 [0] [1] ?_;refine GA.tk 15 [0] [1] ?_
 refine GA.done (by kernel_rfl) (?_ : GC _ _ _ _)
 refine GC.seq' ?_;refine GC.rr 3 ?_;refine GL.sp 21 ?_ ?_
 ·intro h1; try simp only [tst_] at h1
  first
  | (exfalso; first | omega | (simp at h1; done))
  |(skip
    refine GL.rz 3 ?_;refine GC.co ?_ ?_
    ·intro h2; try simp only [tst_] at h2
     first
     | (exfalso; first | omega | (simp at h2; done))
     |(skip
       refine GC.region ?_;refine GL.rn 1 ?_
       refine GL.nil (?_ : GC _ _ _ _)
       refine GC.rr 1 ?_;refine GL.callP rfl Tryz.call170 rfl (is := []) (js := []) rfl rfl (by exact must_ct _) (fun v a w he h => FinP.panic ⟨⟨_,he⟩,by rw [mtxF,hs15]; exact if_neg (by omega)⟩ h) (GL.ret ?_)
       rintro _ _ _ ⟨he26,rfl,rfl,rfl⟩
       refine GL.nr 4 ?_;refine GL.so_ 0 ?_;refine GL.nr 2 ?_;refine GL.nl_ ?_;refine GC.ret (FinP.b1 2 [0] [0] ?_)
       have e0 : e15 = 0 := by omega
       exact ⟨_,_,_,_,by rw [mtxF,hs15]; exact if_pos e0,l15,k15,rfl,rfl,rfl⟩)
    intro h2; try simp only [tst_] at h2
    first
    | (exfalso; first | omega | (simp at h2; done))
    |(skip
      refine GC.skip (?_ : GC _ _ _ _)
      refine GC.rr 1 ?_;refine GL.callP rfl Tryz.call170 rfl (is := []) (js := []) rfl rfl (by exact must_ct _) (fun v a w he h => FinP.panic ⟨⟨_,he⟩,by rw [mtxF,hs15]; exact if_neg (by omega)⟩ h) (GL.ret ?_)
      rintro _ _ _ ⟨he26,rfl,rfl,rfl⟩
      refine GL.nr 4 ?_;refine GL.so_ 0 ?_;refine GL.nr 2 ?_;refine GL.nl_ ?_;refine GC.ret (FinP.b1 2 [0] [0] ?_)
      have e0 : e15 = 0 := by omega
      exact ⟨_,_,_,_,by rw [mtxF,hs15]; exact if_pos e0,l15,k15,rfl,rfl,rfl⟩))
 intro h1; try simp only [tst_] at h1
 first
 | (exfalso; first | omega | (simp at h1; done))
 |(skip
   refine GL.rz 3 ?_;refine GC.cond_false rfl ?_
   refine GC.skip (?_ : GC _ _ _ _)
   refine GC.rr 1 ?_;refine GL.callP rfl Tryz.call170 rfl (is := []) (js := []) rfl rfl (by exact must_ct _) (fun v a w he h => FinP.panic ⟨⟨_,he⟩,by rw [mtxF,hs15]; exact if_neg (by omega)⟩ h) (GL.ret ?_)
   rintro _ _ _ ⟨he26,rfl,rfl,rfl⟩
   refine GL.nr 4 ?_;refine GL.so_ 0 ?_;refine GL.nr 2 ?_;refine GL.nl_ ?_;refine GC.ret (FinP.b1 2 [0] [0] ?_)
   have e0 : e15 = 0 := by omega
   exact ⟨_,_,_,_,by rw [mtxF,hs15]; exact if_pos e0,l15,k15,rfl,rfl,rfl⟩)
def manyF {α σ : Type} (f : σ → Option (α × σ)) (t : σ) : Nat → Option (List α × σ)
  | 0 => some ([],t)
  | k + 1 => (manyF f t k).bind fun r => (f r.2).map fun x => (r.1 ++ [x.1],x.2)
theorem manyF_none {α σ : Type} {f : σ → Option (α × σ)} {t : σ} {k : Nat} (h : manyF f t k = none) : ∀ {m : Nat},k ≤ m → manyF f t m = none := by
  intro m hm
  induction m with
  | zero => obtain rfl : k = 0 := by omega
            exact h
  | succ m ih =>
    by_cases he : k = m + 1
    · subst he; exact h
    · rw [manyF,ih (by omega)]; rfl
theorem manyF_next {α σ : Type} {f : σ → Option (α × σ)} {t u v : σ} {k : Nat} {xs : List α} {x : α} (h : manyF f t k = some (xs,u)) (hx : f u = some (x,v)) : manyF f t (k + 1) = some (xs ++ [x],v) := by
  rw [manyF,h]; simp [hx]
theorem manyF_fail {α σ : Type} {f : σ → Option (α × σ)} {t u : σ} {k m : Nat} {xs : List α} (h : manyF f t k = some (xs,u)) (hx : f u = none) (hm : k < m) : manyF f t m = none :=
  manyF_none (k := k + 1) (by rw [manyF,h]; simp [hx]) hm
theorem mnumF_pos {b : List UInt8} {at_ n : Nat} {v : Int} {t : Nat} (h : mnumF b at_ n = some (v,t)) (hn : n ≤ 7) : 0 ≤ v := by
  unfold mnumF at h
  split at h
  · rename_i hq
    obtain ⟨h1,h2⟩ := Prod.mk.inj (Option.some.inj h)
    have hv : valN (seg b at_ (at_ + n)) < 256 ^ n := valN_rng hq (by omega)
    have hp : 256 ^ n ≤ 256 ^ 7 := Nat.pow_le_pow_right (by decide) hn
    have h7 : (256 : Nat) ^ 7 = 72057594037927936 := by decide
    split at h1 <;> omega
  · cases h
def mgrpF (b : List UInt8) (at_ : Nat) : Option (Grp × Nat) :=
  (mnumF b at_ 8).bind fun e => (mnumF b e.2 1).bind fun c => (manyF (fun t => mnumF b t 1) c.2 c.1.toNat).map fun r => (⟨e.1,r.1⟩,r.2)
theorem zq49_ {X : Prop} (h : X := by (exact fun a w h => ⟨(k + 1),(xs ++ [v20]),(_),(_),(by omega),⟨⟨by simp; omega,by omega⟩,by omega,manyF_next hk.2.2 hs20⟩,h.cut (is := [1,1,1,1]) (js := [0]) ⟨rfl,rfl,rfl,rfl,rfl,trivial⟩ rfl rfl⟩)) : X := h
theorem mgrp_ct (p e_ : Nat) (A : Option Addr) (b : List UInt8) (cp at_ : Nat) (hb : b.length ≤ cp) (hb' : b.length ≤ 10000000000000) (hat : at_ ≤ b.length) : CtP Tryz.prog 171 [.pointer (some ⟨p,0,none⟩)] (mleftG p e_ A b cp at_) [Pers.row Kd.u8 A b]
    (fun u G Q => ∃ (g : Grp) (t : Nat) (A' : Option Addr) (c' : Nat),mgrpF b at_ = some (g,t) ∧ (t ≤ b.length ∧ g.members.length ≤ 255) ∧ g.members.length ≤ c' ∧ c' ≤ 9223372036854775807 ∧ u = .agg #[.int .i64 g.epoch,.slice A' g.members.length c'] ∧ G = mleftG p e_ A b cp t ∧ Q = [Pers.row kI A' g.members]) (fun v => mFault v ∧ mgrpF b at_ = none) := by
 have hp1 : (256 : Nat) ^ 1 = 256 := p256_1
 refine CtP.intro Tryz.func171 rfl rfl rfl (fun c hc => ?_)
 refine GC.sr_ ?_;refine GL.step rfl (t_alloc rfl ze_55) (GL.ex fun b_t2 => ?_);refine GL.nr 3 ?_;refine GL.callP rfl Tryz.call169 rfl (is := [1]) (js := [0]) rfl rfl (by exact (mlnum_ct _ _ _ b _ at_ 8 (by omega) (by omega) (by omega) (by omega) (by omega)).mono (fun _ _ _ h => h) (fun _ h => ⟨h.1,by simp only [mgrpF,h.2,Option.bind_none]⟩)) (fun v a w he h => FinP.panic he h) (GL.ret ?_)
 rintro _ _ _ ⟨v7,t7,hs7,rfl,rfl,rfl⟩
 obtain ⟨ht7,hu7,hv7,hw7,hx7⟩ := mnumF_rng hs7
 refine GL.pure rfl (p_build ze_55 of_55 rfl rfl) ?_;refine GL.step rfl (t_alloc rfl ze_55) (GL.ex fun b_t3 => ?_);refine GL.sn_ 0 ?_;refine GL.nl_ ?_;refine GC.seq' ?_;refine GC.rr 3 ?_;refine GL.callP rfl Tryz.call169 rfl (is := [1]) (js := [0]) rfl rfl (by exact (mlnum_ct _ _ _ b _ t7 1 (by omega) (by omega) (by omega) (by omega) (by omega)).mono (fun _ _ _ h => h) (fun _ h => ⟨h.1,by simp only [mgrpF,hs7,Option.bind_some,h.2,Option.bind_none]⟩)) (fun v a w he h => FinP.panic he h) (GL.ret ?_)
 rintro _ _ _ ⟨v12,t12,hs12,rfl,rfl,rfl⟩
 obtain ⟨ht12,hu12,hv12,hw12,hx12⟩ := mnumF_rng hs12
 have hpos := mnumF_pos hs12 (by omega)
 refine GL.nilrow 3 1 ?_;refine GL.rz 1 ?_;refine GC.block ?_;refine GC.loopK4 (ks := [0,2,3,12]) (is := [3]) (js := [0]) (fun (k : Nat) (xs : List Int) (U : Value) (t : Nat) => (xs.length = k ∧ t ≤ b.length) ∧ (k : Int) ≤ v12 ∧ manyF (fun t => mnumF b t 1) t12 k = some (xs,t)) (fun (k : Nat) (xs : List Int) (U : Value) (t : Nat) => [(13,.int .i64 (k : Int))]) (fun (k : Nat) (xs : List Int) (U : Value) (t : Nat) => [.cells p [.slice A b.length cp,.int .i64 (t : Int)] e_,.cells b_t3 [.int .i64 v7,U] 55,.row U 3 1 xs.length (xs.map (Value.int .i64))]) (fun (k : Nat) (xs : List Int) (U : Value) (t : Nat) => []) (fun (k : Nat) (xs : List Int) (U : Value) (t : Nat) => v12.toNat - k) (0) ([]) (_) (t12) rfl rfl rfl (fun a w h => ⟨⟨⟨rfl,by omega⟩,by omega,rfl⟩,h.cutK (is := [1,1,0,0]) (js := [0]) (ks := [0,2,3,12]) ⟨rfl,trivial⟩ rfl rfl rfl⟩) ?_
 intro k xs U t hk
 try dsimp only [List.cons_append,List.nil_append] at hk ⊢
 refine GC.rg 1 ?_;refine GC.seq' ?_;refine GC.co ?_ ?_
 ·intro h1; try simp only [tst_] at h1
  refine GC.skip (?_ : GC _ _ _ _)
  refine GC.seq' ?_;refine GC.block ?_;refine GC.regionX (m := 10) (is := [3]) (js := [0]) wide_ rfl rfl rfl (fun _ _ _ hd hp hD => ⟨hd.trans hD,.inr hp⟩) ?_
  refine GX.tk 0 [3] [0] ?_
  refine GX.tk 2 [3] [0] ?_
  refine GX.tk 3 [3] [0] ?_
  refine GX.tk 4 [3] [0] ?_
  refine GX.al [1,5] ?_
  refine GXs.cons (i := 1) rfl rfl (t_mem rfl (m_load (i := 1) rfl rfl ag_53 rfl)) (by rintro a w h; exact h.me [3] [0]) ?_ ?_
  ·refine GX.al [5] ?_
   refine GXs.consP (i := 5) rfl rfl Tryz.call169 rfl (is := [0]) (js := [0]) rfl rfl (by exact (mlnum_ct _ _ _ b _ t 1 (by omega) (by omega) (by omega) (by omega) (by omega)).mono (fun _ _ _ h => h) (fun _ h => ⟨h.1,by simp only [mgrpF,hs7,hs12,Option.bind_some]; rw [manyF_fail hk.2.2 h.2 (by omega)]; rfl⟩)) (by rintro a w ⟨_,_,_,⟨v20,t20,hs20,rfl,rfl,rfl⟩,h⟩; exact h.me [3] [0]) (GX.ret ?_) GXs.nil
   rintro _ _ _ ⟨v20,t20,hs20,rfl,rfl,rfl⟩
   obtain ⟨ht20,hu20,hv20,hw20,hx20⟩ := mnumF_rng hs20
   refine GX.al [6] ?_
   refine GXs.cons (i := 6) rfl rfl (t_buildSlice rfl Tryz.underlying53 sz_3 ze_3 rfl rfl rfl rfl rfl rfl) (by rintro a w ⟨_,h⟩; exact h.me [4] [0]) (GX.ex fun b_t21 => ?_) GXs.nil
   refine GX.al [7] ?_
   refine GXs.cons (i := 7) rfl rfl (t_append (i := 3) (k := 0) rfl el_53 rfl rfl rfl rfl rfl (allOne_mem rfl) (by have := hk.1.1; omega) (fun _ => rfl)) (by rintro a w ⟨_,h⟩; exact h.me [4] [0]) (GX.ex fun v22 => ?_) GXs.nil
   refine GX.shape (i := 3) rfl (fun A_v22 c_v22 e_v22 l_v22 k_v22 => ?_)
   subst e_v22
   refine GX.tk 8 [4] [0] ?_
   refine GX.al [9] ?_
   refine GXs.cons (i := 9) rfl rfl (t_store (i := 2) rfl rfl rfl rfl sz_53 rfl rfl rfl) (by rintro a w h; exact h.me [4] [0]) ?_ GXs.nil
   refine GX.done (by kernel_rfl) (?_ : GC _ _ _ _)
   refine GC.region ?_;refine GL.rowIs (i := 3) (m' := ((xs ++ [v20])).length) (cs' := ((xs ++ [v20])).map (Value.int .i64)) rfl (by first | rfl | (simp; done) | (simp; omega)) (by first | rfl | (simp; done)) rfl ?_
   refine GL.pure rfl (p_add rfl rfl (w64 (by omega) (by omega))) ?_;refine GL.rn 1 ?_;refine GL.nil ?_
   exact zq49_
  refine GXs.consP (i := 5) rfl rfl Tryz.call169 rfl (is := [0]) (js := [0]) rfl rfl (by exact (mlnum_ct _ _ _ b _ t 1 (by omega) (by omega) (by omega) (by omega) (by omega)).mono (fun _ _ _ h => h) (fun _ h => ⟨h.1,by simp only [mgrpF,hs7,hs12,Option.bind_some]; rw [manyF_fail hk.2.2 h.2 (by omega)]; rfl⟩)) (by rintro a w ⟨_,_,_,⟨v20,t20,hs20,rfl,rfl,rfl⟩,h⟩; exact h.me [3] [0]) (GX.ret ?_) GXs.nil
  rintro _ _ _ ⟨v20,t20,hs20,rfl,rfl,rfl⟩
  obtain ⟨ht20,hu20,hv20,hw20,hx20⟩ := mnumF_rng hs20
  refine GX.al [1,6] ?_
  refine GXs.cons (i := 1) rfl rfl (t_mem rfl (m_load (i := 1) rfl rfl ag_53 rfl)) (by rintro a w h; exact h.me [3] [0]) ?_ ?_
  ·refine GX.al [6] ?_
   refine GXs.cons (i := 6) rfl rfl (t_buildSlice rfl Tryz.underlying53 sz_3 ze_3 rfl rfl rfl rfl rfl rfl) (by rintro a w ⟨_,h⟩; exact h.me [4] [0]) (GX.ex fun b_t21 => ?_) GXs.nil
   refine GX.al [7] ?_
   refine GXs.cons (i := 7) rfl rfl (t_append (i := 3) (k := 0) rfl el_53 rfl rfl rfl rfl rfl (allOne_mem rfl) (by have := hk.1.1; omega) (fun _ => rfl)) (by rintro a w ⟨_,h⟩; exact h.me [4] [0]) (GX.ex fun v22 => ?_) GXs.nil
   refine GX.shape (i := 3) rfl (fun A_v22 c_v22 e_v22 l_v22 k_v22 => ?_)
   subst e_v22
   refine GX.tk 8 [4] [0] ?_
   refine GX.al [9] ?_
   refine GXs.cons (i := 9) rfl rfl (t_store (i := 2) rfl rfl rfl rfl sz_53 rfl rfl rfl) (by rintro a w h; exact h.me [4] [0]) ?_ GXs.nil
   refine GX.done (by kernel_rfl) (?_ : GC _ _ _ _)
   refine GC.region ?_;refine GL.rowIs (i := 3) (m' := ((xs ++ [v20])).length) (cs' := ((xs ++ [v20])).map (Value.int .i64)) rfl (by first | rfl | (simp; done) | (simp; omega)) (by first | rfl | (simp; done)) rfl ?_
   refine GL.pure rfl (p_add rfl rfl (w64 (by omega) (by omega))) ?_;refine GL.rn 1 ?_;refine GL.nil ?_
   exact zq49_
  refine GXs.cons (i := 6) rfl rfl (t_buildSlice rfl Tryz.underlying53 sz_3 ze_3 rfl rfl rfl rfl rfl rfl) (by rintro a w ⟨_,h⟩; exact h.me [4] [0]) (GX.ex fun b_t21 => ?_) GXs.nil
  refine GX.al [1] ?_
  refine GXs.cons (i := 1) rfl rfl (t_mem rfl (m_load (i := 2) rfl rfl ag_53 rfl)) (by rintro a w h; exact h.me [4] [0]) ?_ GXs.nil
  refine GX.al [7] ?_
  refine GXs.cons (i := 7) rfl rfl (t_append (i := 3) (k := 0) rfl el_53 rfl rfl rfl rfl rfl (allOne_mem rfl) (by have := hk.1.1; omega) (fun _ => rfl)) (by rintro a w ⟨_,h⟩; exact h.me [4] [0]) (GX.ex fun v22 => ?_) GXs.nil
  refine GX.shape (i := 3) rfl (fun A_v22 c_v22 e_v22 l_v22 k_v22 => ?_)
  subst e_v22
  refine GX.tk 8 [4] [0] ?_
  refine GX.al [9] ?_
  refine GXs.cons (i := 9) rfl rfl (t_store (i := 2) rfl rfl rfl rfl sz_53 rfl rfl rfl) (by rintro a w h; exact h.me [4] [0]) ?_ GXs.nil
  refine GX.done (by kernel_rfl) (?_ : GC _ _ _ _)
  refine GC.region ?_;refine GL.rowIs (i := 3) (m' := ((xs ++ [v20])).length) (cs' := ((xs ++ [v20])).map (Value.int .i64)) rfl (by first | rfl | (simp; done) | (simp; omega)) (by first | rfl | (simp; done)) rfl ?_
  refine GL.pure rfl (p_add rfl rfl (w64 (by omega) (by omega))) ?_;refine GL.rn 1 ?_;refine GL.nil ?_
  exact zq49_
 intro h1; try simp only [tst_] at h1
 refine GC.exit (?_ : GC _ _ _ _)
 refine GC.sr_ ?_;refine GL.shape (i := 2) rfl (fun A_M c_M e_M l_M k_M => ?_)
 subst e_M
 refine GL.freezeI (i := 2) rfl ?_;refine GL.ln_ 1 2 ?_;refine GL.sn_ 2 ?_;refine GL.nl_ ?_;refine GC.ret (FinP.c0 2 55 2 2 [0] [0] ?_)
 exact ⟨⟨v7,xs⟩,_,_,_,by simp only [mgrpF,hs7,hs12,Option.bind_some]; rw [show v12.toNat = k by omega,hk.2.2]; rfl,⟨hk.1.2,by have := hk.1.1; show xs.length ≤ 255; omega⟩,l_M,k_M,rfl,rfl,rfl⟩
def mentB (b : List UInt8) (k n v c s : Int) (t : Nat) : Option (Entry × Nat) :=
  if k = 1 then (decOp (seg b t b.length)).map fun o => (⟨k,n,v,c,s,o.1,zgr⟩,t + o.2)
  else if k = 2 then (mgrpF b t).map fun g => (⟨k,n,v,c,s,zop,g.1⟩,g.2)
  else some (⟨k,n,v,c,s,zop,zgr⟩,t)
def mentC (r : Entry × Nat) : Option (Entry × Nat) := if entE r.1 = 0 then some r else none
def mentF (b : List UInt8) (at_ : Nat) : Option (Entry × Nat) :=
  (mnumF b at_ 1).bind fun k => (mnumF b k.2 8).bind fun n => (mnumF b n.2 8).bind fun v => (mnumF b v.2 8).bind fun c => (mnumF b c.2 8).bind fun s => (mentB b k.1 n.1 v.1 c.1 s.1 s.2).bind mentC
theorem seg_to {b : List UInt8} {t : Nat} (h : t ≤ b.length) : (seg b t b.length).length = b.length - t := seg_length (Nat.le_refl _)
abbrev EntR (e : Entry) (u : Value) (Q : List Pers) : Prop := ∃ A cp B cq C cr,e.op.data.length ≤ cp ∧ cp ≤ 9223372036854775807 ∧ e.op.old.length ≤ cq ∧ cq ≤ 9223372036854775807 ∧ e.grp.members.length ≤ cr ∧ cr ≤ 9223372036854775807 ∧ u = entV e A cp B cq C cr ∧ Q = entQ e A B C
theorem zq50_ {X : Prop} (h : X := by (exact GX.done (by kernel_rfl) (fun a w h => ⟨_,_,_,_,_,_,_,_,_,_,_,⟨hs10,hs15,hs19,hs23,hs27⟩,h.cut (is := [0,0,0]) (js := [0]) ⟨rfl,rfl,rfl,trivial⟩ rfl rfl⟩))) : X := h
theorem zq51_ {X : Prop} (h : X := by (exact GA.done (by kernel_rfl) (fun a w h => ⟨_,_,_,_,_,_,_,_,⟨hs45,hn45,l45,k45,m45,p45⟩,h.cut (is := [1,1,1,0]) (js := [0,1,3]) ⟨rfl,rfl,rfl,rfl,rfl,rfl,trivial⟩ rfl rfl⟩))) : X := h
theorem zq52_ {X : Prop} (h : X := by (exact FinP.panic ⟨⟨42,by decide,rfl⟩,by rw [hMB,mentC]; exact if_neg (by assumption)⟩ h)) : X := h
theorem mentr_ct (p e_ : Nat) (A : Option Addr) (b : List UInt8) (cp at_ : Nat) (hb : b.length ≤ cp) (hcp' : cp ≤ 9223372036854775807) (hb' : b.length ≤ 10000000000000) (hat : at_ ≤ b.length) : CtP Tryz.prog 115 [.pointer (some ⟨p,0,none⟩)] (mleftG p e_ A b cp at_) [Pers.row Kd.u8 A b]
    (fun u G Q => ∃ (e : Entry) (t : Nat),mentF b at_ = some (e,t) ∧ t ≤ b.length ∧ EntR e u Q ∧ G = mleftG p e_ A b cp t) (fun v => mFault v ∧ mentF b at_ = none) := by
 have hp1 : (256 : Nat) ^ 1 = 256 := p256_1
 refine CtP.intro Tryz.func115 rfl rfl rfl (fun c hc => ?_)
 refine GC.sr_ ?_;refine GL.step rfl (t_alloc rfl ze_97) (GL.ex fun b_t2 => ?_);refine GL.nl_ ?_;refine GC.seq' ?_;refine GC.regionXM (m := 24) (M := fun a w => ∃ v10 : Int,∃ t10 : Nat,∃ v15 : Int,∃ t15 : Nat,∃ v19 : Int,∃ t19 : Nat,∃ v23 : Int,∃ t23 : Nat,∃ v27 : Int,∃ t27 : Nat,∃ b_t3 : Nat,(mnumF b at_ 1 = some (v10,t10) ∧ mnumF b t10 8 = some (v15,t15) ∧ mnumF b t15 8 = some (v19,t19) ∧ mnumF b t19 8 = some (v23,t23) ∧ mnumF b t23 8 = some (v27,t27)) ∧ St c 74 [(0,.pointer (some ⟨p,0,none⟩)),(2,.pointer (some ⟨b_t2,0,none⟩)),(3,.pointer (some ⟨b_t3,0,none⟩))] [.cells p [.slice A b.length cp,.int .i64 (t27 : Int)] e_,.cells b_t3 [.int .u8 v10,.int .i64 v15,.int .i64 v19,.int .i64 v23,.int .i64 v27,.int .u8 0,.int .i64 0,.int .i64 0,.slice none 0 0,.slice none 0 0,.int .i64 0,.slice none 0 0] 97,.cells b_t2 [.int .u8 0,.int .i64 0,.int .i64 0,.int .i64 0,.int .i64 0,.int .u8 0,.int .i64 0,.int .i64 0,.slice none 0 0,.slice none 0 0,.int .i64 0,.slice none 0 0] 97] [Pers.row Kd.u8 A b] a w) (is := [0]) (js := [0]) wide_ rfl rfl rfl (fun _ _ _ hd hp hD => ⟨hd.trans hD,.inr hp⟩) ?_ ?_
 ·refine GX.tk 0 [0] [0] ?_
  refine GX.tk 1 [0] [0] ?_
  refine GX.tk 2 [0] [0] ?_
  refine GX.tk 5 [0] [0] ?_
  refine GX.tk 6 [0] [0] ?_
  refine GX.tk 7 [0] [0] ?_
  refine GX.tk 9 [0] [0] ?_
  refine GX.tk 10 [0] [0] ?_
  refine GX.tk 11 [0] [0] ?_
  refine GX.tk 13 [0] [0] ?_
  refine GX.tk 14 [0] [0] ?_
  refine GX.tk 15 [0] [0] ?_
  refine GX.tk 17 [0] [0] ?_
  refine GX.tk 18 [0] [0] ?_
  refine GX.tk 19 [0] [0] ?_
  refine GX.al [3,22] ?_
  refine GXs.consP (i := 3) rfl rfl Tryz.call169 rfl (is := [1]) (js := [0]) rfl rfl (by exact (mlnum_ct _ _ _ b _ at_ 1 (by omega) (by omega) (by omega) (by omega) (by omega)).mono (fun _ _ _ h => h) (fun _ h => ⟨h.1,by simp only [mentF,h.2,Option.bind_none]⟩)) (by rintro a w ⟨_,_,_,⟨v10,t10,hs10,rfl,rfl,rfl⟩,h⟩; exact h.me [1] [0]) (GX.ret ?_) ?_
  ·rintro _ _ _ ⟨v10,t10,hs10,rfl,rfl,rfl⟩
   obtain ⟨ht10,hu10,hv10,hw10,hx10⟩ := mnumF_rng hs10
   refine GX.tp 4 rfl [1] [0] (i_pure (p_convR (t := 3) (r := v10) (by rw [Tryz.underlying3]; simp) Tryz.underlying95 rfl (by have := mnumF_pos hs10 (by omega); simp [IntKind.wrap,IntKind.bits,IntKind.signed]; omega))) ?_
   refine GX.al [8,22] ?_
   refine GXs.consP (i := 8) rfl rfl Tryz.call169 rfl (is := [0]) (js := [0]) rfl rfl (by exact (mlnum_ct _ _ _ b _ t10 8 (by omega) (by omega) (by omega) (by omega) (by omega)).mono (fun _ _ _ h => h) (fun _ h => ⟨h.1,by simp only [mentF,hs10,Option.bind_some,h.2,Option.bind_none]⟩)) (by rintro a w ⟨_,_,_,⟨v15,t15,hs15,rfl,rfl,rfl⟩,h⟩; exact h.me [1] [0]) (GX.ret ?_) ?_
   ·rintro _ _ _ ⟨v15,t15,hs15,rfl,rfl,rfl⟩
    obtain ⟨ht15,hu15,hv15,hw15,hx15⟩ := mnumF_rng hs15
    refine GX.al [12,22] ?_
    refine GXs.consP (i := 12) rfl rfl Tryz.call169 rfl (is := [0]) (js := [0]) rfl rfl (by exact (mlnum_ct _ _ _ b _ t15 8 (by omega) (by omega) (by omega) (by omega) (by omega)).mono (fun _ _ _ h => h) (fun _ h => ⟨h.1,by simp only [mentF,hs10,hs15,Option.bind_some,h.2,Option.bind_none]⟩)) (by rintro a w ⟨_,_,_,⟨v19,t19,hs19,rfl,rfl,rfl⟩,h⟩; exact h.me [1] [0]) (GX.ret ?_) ?_
    ·rintro _ _ _ ⟨v19,t19,hs19,rfl,rfl,rfl⟩
     obtain ⟨ht19,hu19,hv19,hw19,hx19⟩ := mnumF_rng hs19
     refine GX.al [16,22] ?_
     refine GXs.consP (i := 16) rfl rfl Tryz.call169 rfl (is := [0]) (js := [0]) rfl rfl (by exact (mlnum_ct _ _ _ b _ t19 8 (by omega) (by omega) (by omega) (by omega) (by omega)).mono (fun _ _ _ h => h) (fun _ h => ⟨h.1,by simp only [mentF,hs10,hs15,hs19,Option.bind_some,h.2,Option.bind_none]⟩)) (by rintro a w ⟨_,_,_,⟨v23,t23,hs23,rfl,rfl,rfl⟩,h⟩; exact h.me [1] [0]) (GX.ret ?_) ?_
     ·rintro _ _ _ ⟨v23,t23,hs23,rfl,rfl,rfl⟩
      obtain ⟨ht23,hu23,hv23,hw23,hx23⟩ := mnumF_rng hs23
      refine GX.al [20,22] ?_
      refine GXs.consP (i := 20) rfl rfl Tryz.call169 rfl (is := [0]) (js := [0]) rfl rfl (by exact (mlnum_ct _ _ _ b _ t23 8 (by omega) (by omega) (by omega) (by omega) (by omega)).mono (fun _ _ _ h => h) (fun _ h => ⟨h.1,by simp only [mentF,hs10,hs15,hs19,hs23,Option.bind_some,h.2,Option.bind_none]⟩)) (by rintro a w ⟨_,_,_,⟨v27,t27,hs27,rfl,rfl,rfl⟩,h⟩; exact h.me [1] [0]) (GX.ret ?_) ?_
      ·rintro _ _ _ ⟨v27,t27,hs27,rfl,rfl,rfl⟩
       obtain ⟨ht27,hu27,hv27,hw27,hx27⟩ := mnumF_rng hs27
       refine GX.tp 21 rfl [1] [0] (i_pure (p_build ze_97 of_97 rfl rfl)) ?_
       refine GX.al [22] ?_
       refine GXs.cons (i := 22) rfl rfl (t_alloc rfl ze_97) (by rintro a w ⟨_,h⟩; exact h.me [2] [0]) (GX.ex fun b_t3 => ?_) GXs.nil
       refine GX.al [23] ?_
       refine GXs.cons (i := 23) rfl rfl (t_storeN (i := 0) rfl rfl rfl sz_97 rfl rfl rfl) (by rintro a w h; exact h.me [2] [0]) ?_ GXs.nil
       exact GX.done (by kernel_rfl) (fun a w h => ⟨_,_,_,_,_,_,_,_,_,_,_,⟨hs10,hs15,hs19,hs23,hs27⟩,h.cut (is := [1,0,0]) (js := [0]) ⟨rfl,rfl,rfl,trivial⟩ rfl rfl⟩)
      refine GXs.cons (i := 22) rfl rfl (t_alloc rfl ze_97) (by rintro a w ⟨_,h⟩; exact h.me [2] [0]) (GX.ex fun b_t3 => ?_) GXs.nil
      refine GX.al [20] ?_
      refine GXs.consP (i := 20) rfl rfl Tryz.call169 rfl (is := [1]) (js := [0]) rfl rfl (by exact (mlnum_ct _ _ _ b _ t23 8 (by omega) (by omega) (by omega) (by omega) (by omega)).mono (fun _ _ _ h => h) (fun _ h => ⟨h.1,by simp only [mentF,hs10,hs15,hs19,hs23,Option.bind_some,h.2,Option.bind_none]⟩)) (by rintro a w ⟨_,_,_,⟨v27,t27,hs27,rfl,rfl,rfl⟩,h⟩; exact h.me [2] [0]) (GX.ret ?_) GXs.nil
      rintro _ _ _ ⟨v27,t27,hs27,rfl,rfl,rfl⟩
      obtain ⟨ht27,hu27,hv27,hw27,hx27⟩ := mnumF_rng hs27
      refine GX.tp 21 rfl [2] [0] (i_pure (p_build ze_97 of_97 rfl rfl)) ?_
      refine GX.al [23] ?_
      refine GXs.cons (i := 23) rfl rfl (t_storeN (i := 1) rfl rfl rfl sz_97 rfl rfl rfl) (by rintro a w h; exact h.me [2] [0]) ?_ GXs.nil
      exact zq50_
     refine GXs.cons (i := 22) rfl rfl (t_alloc rfl ze_97) (by rintro a w ⟨_,h⟩; exact h.me [2] [0]) (GX.ex fun b_t3 => ?_) GXs.nil
     refine GX.al [16] ?_
     refine GXs.consP (i := 16) rfl rfl Tryz.call169 rfl (is := [1]) (js := [0]) rfl rfl (by exact (mlnum_ct _ _ _ b _ t19 8 (by omega) (by omega) (by omega) (by omega) (by omega)).mono (fun _ _ _ h => h) (fun _ h => ⟨h.1,by simp only [mentF,hs10,hs15,hs19,Option.bind_some,h.2,Option.bind_none]⟩)) (by rintro a w ⟨_,_,_,⟨v23,t23,hs23,rfl,rfl,rfl⟩,h⟩; exact h.me [2] [0]) (GX.ret ?_) GXs.nil
     rintro _ _ _ ⟨v23,t23,hs23,rfl,rfl,rfl⟩
     obtain ⟨ht23,hu23,hv23,hw23,hx23⟩ := mnumF_rng hs23
     refine GX.al [20] ?_
     refine GXs.consP (i := 20) rfl rfl Tryz.call169 rfl (is := [0]) (js := [0]) rfl rfl (by exact (mlnum_ct _ _ _ b _ t23 8 (by omega) (by omega) (by omega) (by omega) (by omega)).mono (fun _ _ _ h => h) (fun _ h => ⟨h.1,by simp only [mentF,hs10,hs15,hs19,hs23,Option.bind_some,h.2,Option.bind_none]⟩)) (by rintro a w ⟨_,_,_,⟨v27,t27,hs27,rfl,rfl,rfl⟩,h⟩; exact h.me [2] [0]) (GX.ret ?_) GXs.nil
     rintro _ _ _ ⟨v27,t27,hs27,rfl,rfl,rfl⟩
     obtain ⟨ht27,hu27,hv27,hw27,hx27⟩ := mnumF_rng hs27
     refine GX.tp 21 rfl [2] [0] (i_pure (p_build ze_97 of_97 rfl rfl)) ?_
     refine GX.al [23] ?_
     refine GXs.cons (i := 23) rfl rfl (t_storeN (i := 1) rfl rfl rfl sz_97 rfl rfl rfl) (by rintro a w h; exact h.me [2] [0]) ?_ GXs.nil
     exact zq50_
    refine GXs.cons (i := 22) rfl rfl (t_alloc rfl ze_97) (by rintro a w ⟨_,h⟩; exact h.me [2] [0]) (GX.ex fun b_t3 => ?_) GXs.nil
    refine GX.al [12] ?_
    refine GXs.consP (i := 12) rfl rfl Tryz.call169 rfl (is := [1]) (js := [0]) rfl rfl (by exact (mlnum_ct _ _ _ b _ t15 8 (by omega) (by omega) (by omega) (by omega) (by omega)).mono (fun _ _ _ h => h) (fun _ h => ⟨h.1,by simp only [mentF,hs10,hs15,Option.bind_some,h.2,Option.bind_none]⟩)) (by rintro a w ⟨_,_,_,⟨v19,t19,hs19,rfl,rfl,rfl⟩,h⟩; exact h.me [2] [0]) (GX.ret ?_) GXs.nil
    rintro _ _ _ ⟨v19,t19,hs19,rfl,rfl,rfl⟩
    obtain ⟨ht19,hu19,hv19,hw19,hx19⟩ := mnumF_rng hs19
    refine GX.al [16] ?_
    refine GXs.consP (i := 16) rfl rfl Tryz.call169 rfl (is := [0]) (js := [0]) rfl rfl (by exact (mlnum_ct _ _ _ b _ t19 8 (by omega) (by omega) (by omega) (by omega) (by omega)).mono (fun _ _ _ h => h) (fun _ h => ⟨h.1,by simp only [mentF,hs10,hs15,hs19,Option.bind_some,h.2,Option.bind_none]⟩)) (by rintro a w ⟨_,_,_,⟨v23,t23,hs23,rfl,rfl,rfl⟩,h⟩; exact h.me [2] [0]) (GX.ret ?_) GXs.nil
    rintro _ _ _ ⟨v23,t23,hs23,rfl,rfl,rfl⟩
    obtain ⟨ht23,hu23,hv23,hw23,hx23⟩ := mnumF_rng hs23
    refine GX.al [20] ?_
    refine GXs.consP (i := 20) rfl rfl Tryz.call169 rfl (is := [0]) (js := [0]) rfl rfl (by exact (mlnum_ct _ _ _ b _ t23 8 (by omega) (by omega) (by omega) (by omega) (by omega)).mono (fun _ _ _ h => h) (fun _ h => ⟨h.1,by simp only [mentF,hs10,hs15,hs19,hs23,Option.bind_some,h.2,Option.bind_none]⟩)) (by rintro a w ⟨_,_,_,⟨v27,t27,hs27,rfl,rfl,rfl⟩,h⟩; exact h.me [2] [0]) (GX.ret ?_) GXs.nil
    rintro _ _ _ ⟨v27,t27,hs27,rfl,rfl,rfl⟩
    obtain ⟨ht27,hu27,hv27,hw27,hx27⟩ := mnumF_rng hs27
    refine GX.tp 21 rfl [2] [0] (i_pure (p_build ze_97 of_97 rfl rfl)) ?_
    refine GX.al [23] ?_
    refine GXs.cons (i := 23) rfl rfl (t_storeN (i := 1) rfl rfl rfl sz_97 rfl rfl rfl) (by rintro a w h; exact h.me [2] [0]) ?_ GXs.nil
    exact zq50_
   refine GXs.cons (i := 22) rfl rfl (t_alloc rfl ze_97) (by rintro a w ⟨_,h⟩; exact h.me [2] [0]) (GX.ex fun b_t3 => ?_) GXs.nil
   refine GX.al [8] ?_
   refine GXs.consP (i := 8) rfl rfl Tryz.call169 rfl (is := [1]) (js := [0]) rfl rfl (by exact (mlnum_ct _ _ _ b _ t10 8 (by omega) (by omega) (by omega) (by omega) (by omega)).mono (fun _ _ _ h => h) (fun _ h => ⟨h.1,by simp only [mentF,hs10,Option.bind_some,h.2,Option.bind_none]⟩)) (by rintro a w ⟨_,_,_,⟨v15,t15,hs15,rfl,rfl,rfl⟩,h⟩; exact h.me [2] [0]) (GX.ret ?_) GXs.nil
   rintro _ _ _ ⟨v15,t15,hs15,rfl,rfl,rfl⟩
   obtain ⟨ht15,hu15,hv15,hw15,hx15⟩ := mnumF_rng hs15
   refine GX.al [12] ?_
   refine GXs.consP (i := 12) rfl rfl Tryz.call169 rfl (is := [0]) (js := [0]) rfl rfl (by exact (mlnum_ct _ _ _ b _ t15 8 (by omega) (by omega) (by omega) (by omega) (by omega)).mono (fun _ _ _ h => h) (fun _ h => ⟨h.1,by simp only [mentF,hs10,hs15,Option.bind_some,h.2,Option.bind_none]⟩)) (by rintro a w ⟨_,_,_,⟨v19,t19,hs19,rfl,rfl,rfl⟩,h⟩; exact h.me [2] [0]) (GX.ret ?_) GXs.nil
   rintro _ _ _ ⟨v19,t19,hs19,rfl,rfl,rfl⟩
   obtain ⟨ht19,hu19,hv19,hw19,hx19⟩ := mnumF_rng hs19
   refine GX.al [16] ?_
   refine GXs.consP (i := 16) rfl rfl Tryz.call169 rfl (is := [0]) (js := [0]) rfl rfl (by exact (mlnum_ct _ _ _ b _ t19 8 (by omega) (by omega) (by omega) (by omega) (by omega)).mono (fun _ _ _ h => h) (fun _ h => ⟨h.1,by simp only [mentF,hs10,hs15,hs19,Option.bind_some,h.2,Option.bind_none]⟩)) (by rintro a w ⟨_,_,_,⟨v23,t23,hs23,rfl,rfl,rfl⟩,h⟩; exact h.me [2] [0]) (GX.ret ?_) GXs.nil
   rintro _ _ _ ⟨v23,t23,hs23,rfl,rfl,rfl⟩
   obtain ⟨ht23,hu23,hv23,hw23,hx23⟩ := mnumF_rng hs23
   refine GX.al [20] ?_
   refine GXs.consP (i := 20) rfl rfl Tryz.call169 rfl (is := [0]) (js := [0]) rfl rfl (by exact (mlnum_ct _ _ _ b _ t23 8 (by omega) (by omega) (by omega) (by omega) (by omega)).mono (fun _ _ _ h => h) (fun _ h => ⟨h.1,by simp only [mentF,hs10,hs15,hs19,hs23,Option.bind_some,h.2,Option.bind_none]⟩)) (by rintro a w ⟨_,_,_,⟨v27,t27,hs27,rfl,rfl,rfl⟩,h⟩; exact h.me [2] [0]) (GX.ret ?_) GXs.nil
   rintro _ _ _ ⟨v27,t27,hs27,rfl,rfl,rfl⟩
   obtain ⟨ht27,hu27,hv27,hw27,hx27⟩ := mnumF_rng hs27
   refine GX.tp 21 rfl [2] [0] (i_pure (p_build ze_97 of_97 rfl rfl)) ?_
   refine GX.al [23] ?_
   refine GXs.cons (i := 23) rfl rfl (t_storeN (i := 1) rfl rfl rfl sz_97 rfl rfl rfl) (by rintro a w h; exact h.me [2] [0]) ?_ GXs.nil
   exact zq50_
  refine GXs.cons (i := 22) rfl rfl (t_alloc rfl ze_97) (by rintro a w ⟨_,h⟩; exact h.me [1] [0]) (GX.ex fun b_t3 => ?_) GXs.nil
  refine GX.al [3] ?_
  refine GXs.consP (i := 3) rfl rfl Tryz.call169 rfl (is := [2]) (js := [0]) rfl rfl (by exact (mlnum_ct _ _ _ b _ at_ 1 (by omega) (by omega) (by omega) (by omega) (by omega)).mono (fun _ _ _ h => h) (fun _ h => ⟨h.1,by simp only [mentF,h.2,Option.bind_none]⟩)) (by rintro a w ⟨_,_,_,⟨v10,t10,hs10,rfl,rfl,rfl⟩,h⟩; exact h.me [2] [0]) (GX.ret ?_) GXs.nil
  rintro _ _ _ ⟨v10,t10,hs10,rfl,rfl,rfl⟩
  obtain ⟨ht10,hu10,hv10,hw10,hx10⟩ := mnumF_rng hs10
  refine GX.tp 4 rfl [2] [0] (i_pure (p_convR (t := 3) (r := v10) (by rw [Tryz.underlying3]; simp) Tryz.underlying95 rfl (by have := mnumF_pos hs10 (by omega); simp [IntKind.wrap,IntKind.bits,IntKind.signed]; omega))) ?_
  refine GX.al [8] ?_
  refine GXs.consP (i := 8) rfl rfl Tryz.call169 rfl (is := [0]) (js := [0]) rfl rfl (by exact (mlnum_ct _ _ _ b _ t10 8 (by omega) (by omega) (by omega) (by omega) (by omega)).mono (fun _ _ _ h => h) (fun _ h => ⟨h.1,by simp only [mentF,hs10,Option.bind_some,h.2,Option.bind_none]⟩)) (by rintro a w ⟨_,_,_,⟨v15,t15,hs15,rfl,rfl,rfl⟩,h⟩; exact h.me [2] [0]) (GX.ret ?_) GXs.nil
  rintro _ _ _ ⟨v15,t15,hs15,rfl,rfl,rfl⟩
  obtain ⟨ht15,hu15,hv15,hw15,hx15⟩ := mnumF_rng hs15
  refine GX.al [12] ?_
  refine GXs.consP (i := 12) rfl rfl Tryz.call169 rfl (is := [0]) (js := [0]) rfl rfl (by exact (mlnum_ct _ _ _ b _ t15 8 (by omega) (by omega) (by omega) (by omega) (by omega)).mono (fun _ _ _ h => h) (fun _ h => ⟨h.1,by simp only [mentF,hs10,hs15,Option.bind_some,h.2,Option.bind_none]⟩)) (by rintro a w ⟨_,_,_,⟨v19,t19,hs19,rfl,rfl,rfl⟩,h⟩; exact h.me [2] [0]) (GX.ret ?_) GXs.nil
  rintro _ _ _ ⟨v19,t19,hs19,rfl,rfl,rfl⟩
  obtain ⟨ht19,hu19,hv19,hw19,hx19⟩ := mnumF_rng hs19
  refine GX.al [16] ?_
  refine GXs.consP (i := 16) rfl rfl Tryz.call169 rfl (is := [0]) (js := [0]) rfl rfl (by exact (mlnum_ct _ _ _ b _ t19 8 (by omega) (by omega) (by omega) (by omega) (by omega)).mono (fun _ _ _ h => h) (fun _ h => ⟨h.1,by simp only [mentF,hs10,hs15,hs19,Option.bind_some,h.2,Option.bind_none]⟩)) (by rintro a w ⟨_,_,_,⟨v23,t23,hs23,rfl,rfl,rfl⟩,h⟩; exact h.me [2] [0]) (GX.ret ?_) GXs.nil
  rintro _ _ _ ⟨v23,t23,hs23,rfl,rfl,rfl⟩
  obtain ⟨ht23,hu23,hv23,hw23,hx23⟩ := mnumF_rng hs23
  refine GX.al [20] ?_
  refine GXs.consP (i := 20) rfl rfl Tryz.call169 rfl (is := [0]) (js := [0]) rfl rfl (by exact (mlnum_ct _ _ _ b _ t23 8 (by omega) (by omega) (by omega) (by omega) (by omega)).mono (fun _ _ _ h => h) (fun _ h => ⟨h.1,by simp only [mentF,hs10,hs15,hs19,hs23,Option.bind_some,h.2,Option.bind_none]⟩)) (by rintro a w ⟨_,_,_,⟨v27,t27,hs27,rfl,rfl,rfl⟩,h⟩; exact h.me [2] [0]) (GX.ret ?_) GXs.nil
  rintro _ _ _ ⟨v27,t27,hs27,rfl,rfl,rfl⟩
  obtain ⟨ht27,hu27,hv27,hw27,hx27⟩ := mnumF_rng hs27
  refine GX.tp 21 rfl [2] [0] (i_pure (p_build ze_97 of_97 rfl rfl)) ?_
  refine GX.al [23] ?_
  refine GXs.cons (i := 23) rfl rfl (t_storeN (i := 1) rfl rfl rfl sz_97 rfl rfl rfl) (by rintro a w h; exact h.me [2] [0]) ?_ GXs.nil
  exact zq50_
 refine (?_ : GC _ _ _ _)
 refine GC.ex fun v10 => GC.ex fun t10 => GC.ex fun v15 => GC.ex fun t15 => GC.ex fun v19 => GC.ex fun t19 => GC.ex fun v23 => GC.ex fun t23 => GC.ex fun v27 => GC.ex fun t27 => GC.ex fun b_t3 => GC.and fun ⟨hs10,hs15,hs19,hs23,hs27⟩ => ?_
 refine GC.seq' ?_;refine GC.sr_ ?_
 obtain ⟨ht10,hu10,hv10,hw10,hx10⟩ := mnumF_rng hs10
 obtain ⟨ht15,hu15,hv15,hw15,hx15⟩ := mnumF_rng hs15
 obtain ⟨ht19,hu19,hv19,hw19,hx19⟩ := mnumF_rng hs19
 obtain ⟨ht23,hu23,hv23,hw23,hx23⟩ := mnumF_rng hs23
 obtain ⟨ht27,hu27,hv27,hw27,hx27⟩ := mnumF_rng hs27
 have hM : mentF b at_ = (mentB b v10 v15 v19 v23 v27 t27).bind mentC := by simp only [mentF,hs10,hs15,hs19,hs23,hs27,Option.bind_some]
 have hv0 := mnumF_pos hs10 (by omega)
 refine GL.rn 1 ?_;refine GL.ld_ 1 ?_;refine GL.nl_ ?_;refine GC.block ?_;refine GC.rg 2 ?_;refine GC.co ?_ ?_
 ·intro h1; try simp only [tst_] at h1
  refine GC.seq' ?_;refine GC.regionM (m := 20) (M := fun a w => ∃ o45 : OpD,∃ n45 : Nat,∃ e45 : Int,∃ A45 : Option Addr,∃ c45 : Nat,∃ B45 : Option Addr,∃ d45 : Nat,∃ b_t4 : Nat,((e45 = 0 → decOp (seg b t27 b.length) = some (o45,n45)) ∧ (n45 ≤ (seg b t27 b.length).length ∧ (e45 ≠ 0 → decOp (seg b t27 b.length) = none)) ∧ o45.data.length ≤ c45 ∧ c45 ≤ 9223372036854775807 ∧ o45.old.length ≤ d45 ∧ d45 ≤ 9223372036854775807) ∧ St c 74 [(0,.pointer (some ⟨p,0,none⟩)),(2,.pointer (some ⟨b_t2,0,none⟩)),(3,.pointer (some ⟨b_t3,0,none⟩)),(4,.pointer (some ⟨b_t4,0,none⟩)),(5,.int .i64 (n45 : Int)),(6,.int .i64 e45)] [.cells p [.slice A b.length cp,.int .i64 (t27 : Int)] e_,.cells b_t3 [.int .u8 v10,.int .i64 v15,.int .i64 v19,.int .i64 v23,.int .i64 v27,.int .u8 0,.int .i64 0,.int .i64 0,.slice none 0 0,.slice none 0 0,.int .i64 0,.slice none 0 0] 97,.cells b_t2 [.int .u8 0,.int .i64 0,.int .i64 0,.int .i64 0,.int .i64 0,.int .u8 0,.int .i64 0,.int .i64 0,.slice none 0 0,.slice none 0 0,.int .i64 0,.slice none 0 0] 97,.cells b_t4 [.int .u8 o45.kind,.int .i64 o45.at_,.int .i64 o45.n,.slice A45 o45.data.length c45,.slice B45 o45.old.length d45] 49] [Pers.row Kd.u8 A45 o45.data,Pers.row Kd.u8 B45 o45.old,Pers.row Kd.u8 A b] a w) (is := [0,0,0]) (js := [0]) wide_ rfl rfl rfl ?_ ?_
  ·refine GA.tk 0 [0,0,0] [0] ?_;refine GA.tk 1 [0,0,0] [0] ?_;refine GA.tk 2 [0,0,0] [0] ?_;refine GA.tk 3 [0,0,0] [0] ?_;refine GA.tp 4 rfl [0,0,0] [0] (i_mem (m_load (i := 0) rfl rfl ag_47 rfl)) ?_;refine GA.tk 5 [0,0,0] [0] ?_
   refine GA.tk 6 [0,0,0] [0] ?_;refine GA.tk 7 [0,0,0] [0] ?_;refine GA.tk 8 [0,0,0] [0] ?_;refine GA.tp 9 rfl [0,0,0] [0] (i_mem (m_load (i := 0) rfl rfl ag_3 rfl)) ?_;refine GA.al [10,16] ?_
   refine GAs.cons (i := 10) rfl rfl (t_cut_l (j := 0) rfl rfl rfl rfl Tryz.underlying47 sz_5 (by omega) (by omega) (by omega)) (by rintro a w h; exact h.me [0,0,0] [1]) ?_ ?_
   ·refine GA.al [11,16] ?_
    refine GAs.cons (i := 11) rfl rfl (t_call rfl Tryz.call109 rfl (is := []) (js := [0]) rfl rfl (by exact decop_ct _ (seg b t27 b.length) _ (by rw [seg_to (by omega)]; omega) (by omega) (by rw [seg_to (by omega)]; omega))) (by rintro a w ⟨_,_,_,⟨o45,n45,e45,A45,c45,B45,d45,hs45,hn45,l45,k45,m45,p45,rfl,rfl,rfl⟩,h⟩; exact h.me [0,0,0] [3]) (GA.ret ?_) ?_
    ·rintro _ _ _ ⟨o45,n45,e45,A45,c45,B45,d45,hs45,hn45,l45,k45,m45,p45,rfl,rfl,rfl⟩
     have hq45 := hn45.1
     rw [seg_to (by omega)] at hq45
     refine GA.tk 12 [0,0,0] [3] ?_;refine GA.tk 13 [0,0,0] [3] ?_;refine GA.tk 14 [0,0,0] [3] ?_;refine GA.tk 15 [0,0,0] [3] ?_;refine GA.al [16] ?_
     refine GAs.cons (i := 16) rfl rfl (t_alloc rfl ze_49) (by rintro a w ⟨_,h⟩; exact h.me [1,1,1] [3]) (GA.ex fun b_t4 => ?_) GAs.nil
     refine GA.al [17] ?_
     refine GAs.cons (i := 17) rfl rfl (t_storeN (i := 0) rfl rfl rfl sz_49 rfl rfl rfl) (by rintro a w h; exact h.me [1,1,1] [3]) ?_ GAs.nil
     refine GA.tk 18 [1,1,1] [3] ?_;refine GA.tk 19 [1,1,1] [3] ?_
     exact zq51_
    refine GAs.cons (i := 16) rfl rfl (t_alloc rfl ze_49) (by rintro a w ⟨_,h⟩; exact h.me [1,1,1] [1]) (GA.ex fun b_t4 => ?_) GAs.nil
    refine GA.al [11] ?_
    refine GAs.cons (i := 11) rfl rfl (t_call rfl Tryz.call109 rfl (is := []) (js := [0]) rfl rfl (by exact decop_ct _ (seg b t27 b.length) _ (by rw [seg_to (by omega)]; omega) (by omega) (by rw [seg_to (by omega)]; omega))) (by rintro a w ⟨_,_,_,⟨o45,n45,e45,A45,c45,B45,d45,hs45,hn45,l45,k45,m45,p45,rfl,rfl,rfl⟩,h⟩; exact h.me [1,1,1] [3]) (GA.ret ?_) GAs.nil
    rintro _ _ _ ⟨o45,n45,e45,A45,c45,B45,d45,hs45,hn45,l45,k45,m45,p45,rfl,rfl,rfl⟩
    have hq45 := hn45.1
    rw [seg_to (by omega)] at hq45
    refine GA.tk 12 [1,1,1] [3] ?_;refine GA.tk 13 [1,1,1] [3] ?_;refine GA.tk 14 [1,1,1] [3] ?_;refine GA.tk 15 [1,1,1] [3] ?_;refine GA.al [17] ?_
    refine GAs.cons (i := 17) rfl rfl (t_storeN (i := 0) rfl rfl rfl sz_49 rfl rfl rfl) (by rintro a w h; exact h.me [1,1,1] [3]) ?_ GAs.nil
    refine GA.tk 18 [1,1,1] [3] ?_;refine GA.tk 19 [1,1,1] [3] ?_
    exact zq51_
   refine GAs.cons (i := 16) rfl rfl (t_alloc rfl ze_49) (by rintro a w ⟨_,h⟩; exact h.me [1,1,1] [0]) (GA.ex fun b_t4 => ?_) GAs.nil
   refine GA.al [10] ?_
   refine GAs.cons (i := 10) rfl rfl (t_cut_l (j := 0) rfl rfl rfl rfl Tryz.underlying47 sz_5 (by omega) (by omega) (by omega)) (by rintro a w h; exact h.me [1,1,1] [1]) ?_ GAs.nil
   refine GA.al [11] ?_
   refine GAs.cons (i := 11) rfl rfl (t_call rfl Tryz.call109 rfl (is := []) (js := [0]) rfl rfl (by exact decop_ct _ (seg b t27 b.length) _ (by rw [seg_to (by omega)]; omega) (by omega) (by rw [seg_to (by omega)]; omega))) (by rintro a w ⟨_,_,_,⟨o45,n45,e45,A45,c45,B45,d45,hs45,hn45,l45,k45,m45,p45,rfl,rfl,rfl⟩,h⟩; exact h.me [1,1,1] [3]) (GA.ret ?_) GAs.nil
   rintro _ _ _ ⟨o45,n45,e45,A45,c45,B45,d45,hs45,hn45,l45,k45,m45,p45,rfl,rfl,rfl⟩
   have hq45 := hn45.1
   rw [seg_to (by omega)] at hq45
   refine GA.tk 12 [1,1,1] [3] ?_;refine GA.tk 13 [1,1,1] [3] ?_;refine GA.tk 14 [1,1,1] [3] ?_;refine GA.tk 15 [1,1,1] [3] ?_;refine GA.al [17] ?_
   refine GAs.cons (i := 17) rfl rfl (t_storeN (i := 0) rfl rfl rfl sz_49 rfl rfl rfl) (by rintro a w h; exact h.me [1,1,1] [3]) ?_ GAs.nil
   refine GA.tk 18 [1,1,1] [3] ?_;refine GA.tk 19 [1,1,1] [3] ?_
   exact zq51_
  refine (?_ : GC _ _ _ _)
  refine GC.ex fun o45 => GC.ex fun n45 => GC.ex fun e45 => GC.ex fun A45 => GC.ex fun c45 => GC.ex fun B45 => GC.ex fun d45 => GC.ex fun b_t4 => GC.and fun ⟨hs45,hn45,l45,k45,m45,p45⟩ => ?_;refine GC.sr_ ?_
  have hq45 := hn45.1
  rw [seg_to (by omega)] at hq45
  refine GL.rn 1 ?_;refine GL.callP rfl Tryz.call170 rfl (is := []) (js := []) rfl rfl (by exact (must_ct _).mono (fun _ _ _ h => h) (fun _ h => ⟨⟨_,h⟩,by rw [hM,mentB,if_pos (by assumption),hn45.2 h.1]; rfl⟩)) (fun v a w he h => FinP.panic he h) (GL.ret ?_)
  rintro _ _ _ ⟨he50,rfl,rfl,rfl⟩
  have hd45 := hs45 he50
  refine GL.nl_ ?_;refine GC.sr_ ?_;refine GL.ln_ 3 5 ?_;refine GL.rn 1 ?_;refine GL.sn_ 1 ?_;refine GL.nl_ ?_;refine GC.region ?_;refine GL.rn 4 ?_;refine GL.ld_ 0 ?_;refine GL.rn 1 ?_;refine GL.pure rfl (p_add rfl rfl (w64 (by omega) (by omega))) ?_
  refine GL.rn 3 ?_;refine GL.so_ 0 ?_
  refine GL.nil (?_ : GC _ _ _ _)
  refine GC.seq' ?_;refine GC.sr_ ?_;refine GL.know (q := Pers.row Kd.u8 none []) (fun _ _ _ => .inl rfl) ?_;refine GL.know (q := Pers.row kI none []) (fun _ _ _ => .inl rfl) ?_;refine GL.ln_ 1 12 ?_
  have hBX : mentB b v10 v15 v19 v23 v27 t27 = some ((⟨v10,v15,v19,v23,v27,o45,zgr⟩ : Entry),t27 + n45) := by rw [mentB,if_pos (by assumption),hd45]; rfl
  have hMB := hM
  rw [hBX,Option.bind_some] at hMB
  refine GL.cl Tryz.call101 [] [2,3,0] rfl rfl rfl (by exact ment_ct (⟨v10,v15,v19,v23,v27,o45,zgr⟩ : Entry) _ _ _ _ _ _ (by simp [zgr])) ?_
  rintro _ _ _ ⟨rfl,rfl,rfl⟩
  refine GL.rz 1 ?_;refine GC.co ?_ ?_
  ·intro h2; try simp only [tst_] at h2
   refine GC.region ?_;refine GL.pure rfl (p_build ze_247 of_247 rfl rfl) ?_;refine GL.pure rfl (p_mkIface Tryz.underlying247 (fun m h => by cases h) rfl) ?_;refine GL.panicN rfl (fun a w h => ?_)
   exact zq52_
  intro h2; try simp only [tst_] at h2
  refine GC.skip (?_ : GC _ _ _ _)
  refine GC.sr_ ?_;refine GL.ln_ 1 12 ?_;refine GL.sn_ 2 ?_;refine GL.nl_ ?_;refine GC.ret (FinP.c0 2 97 2 12 [0] [2,3,0] ?_)
  exact ⟨_,_,by rw [hMB,mentC]; exact if_pos (by assumption),by omega,⟨A45,c45,B45,d45,none,0,l45,k45,m45,p45,by simp [zgr],by omega,rfl,rfl⟩,rfl⟩
 intro h1; try simp only [tst_] at h1
 refine GC.rg 2 ?_;refine GC.co ?_ ?_
 ·intro h3; try simp only [tst_] at h3
  refine GC.region ?_;refine GL.rn 1 ?_;refine GL.callP rfl Tryz.call171 rfl (is := [0]) (js := [0]) rfl rfl (by exact (mgrp_ct _ _ _ b _ t27 (by omega) (by omega) (by omega)).mono (fun _ _ _ h => h) (fun _ h => ⟨h.1,by rw [hM,mentB,if_neg (by omega),if_pos (by assumption),h.2]; rfl⟩)) (fun v a w he h => FinP.panic he h) (GL.ret ?_)
  rintro _ _ _ ⟨g66,t66,A66,c66,hs66,ht66,l66,m66,rfl,rfl,rfl⟩
  refine GL.rn 1 ?_;refine GL.sn_ 1 ?_
  refine GL.nil (?_ : GC _ _ _ _)
  refine GC.seq' ?_;refine GC.sr_ ?_;refine GL.know (q := Pers.row Kd.u8 none []) (fun _ _ _ => .inl rfl) ?_;refine GL.know (q := Pers.row kI none []) (fun _ _ _ => .inl rfl) ?_;refine GL.ln_ 1 12 ?_
  have hBX : mentB b v10 v15 v19 v23 v27 t27 = some ((⟨v10,v15,v19,v23,v27,zop,g66⟩ : Entry),t66) := by rw [mentB,if_neg (by omega),if_pos (by assumption),hs66]; rfl
  have hMB := hM
  rw [hBX,Option.bind_some] at hMB
  refine GL.cl Tryz.call101 [] [1,1,2] rfl rfl rfl (by exact ment_ct (⟨v10,v15,v19,v23,v27,zop,g66⟩ : Entry) _ _ _ _ _ _ (by show g66.members.length ≤ 140737488355328; omega)) ?_
  rintro _ _ _ ⟨rfl,rfl,rfl⟩
  refine GL.rz 1 ?_;refine GC.co ?_ ?_
  ·intro h4; try simp only [tst_] at h4
   refine GC.region ?_;refine GL.pure rfl (p_build ze_247 of_247 rfl rfl) ?_;refine GL.pure rfl (p_mkIface Tryz.underlying247 (fun m h => by cases h) rfl) ?_;refine GL.panicN rfl (fun a w h => ?_)
   exact zq52_
  intro h4; try simp only [tst_] at h4
  refine GC.skip (?_ : GC _ _ _ _)
  refine GC.sr_ ?_;refine GL.ln_ 1 12 ?_;refine GL.sn_ 2 ?_;refine GL.nl_ ?_;refine GC.ret (FinP.c0 2 97 2 12 [0] [1,1,2] ?_)
  exact ⟨_,_,by rw [hMB,mentC]; exact if_pos (by assumption),by omega,⟨none,0,none,0,A66,c66,by simp [zop],by omega,by simp [zop],by omega,l66,m66,rfl,rfl⟩,rfl⟩
 intro h3; try simp only [tst_] at h3
 refine GC.skip (?_ : GC _ _ _ _)
 refine GC.seq' ?_;refine GC.sr_ ?_;refine GL.know (q := Pers.row Kd.u8 none []) (fun _ _ _ => .inl rfl) ?_;refine GL.know (q := Pers.row kI none []) (fun _ _ _ => .inl rfl) ?_;refine GL.ln_ 1 12 ?_
 have hBX : mentB b v10 v15 v19 v23 v27 t27 = some ((⟨v10,v15,v19,v23,v27,zop,zgr⟩ : Entry),t27) := by rw [mentB,if_neg (by omega),if_neg (by omega)]
 have hMB := hM
 rw [hBX,Option.bind_some] at hMB
 refine GL.cl Tryz.call101 [] [1,1,0] rfl rfl rfl (by exact ment_ct (⟨v10,v15,v19,v23,v27,zop,zgr⟩ : Entry) _ _ _ _ _ _ (by simp [zgr])) ?_
 rintro _ _ _ ⟨rfl,rfl,rfl⟩
 refine GL.rz 1 ?_;refine GC.co ?_ ?_
 ·intro h5; try simp only [tst_] at h5
  refine GC.region ?_;refine GL.pure rfl (p_build ze_247 of_247 rfl rfl) ?_;refine GL.pure rfl (p_mkIface Tryz.underlying247 (fun m h => by cases h) rfl) ?_;refine GL.panicN rfl (fun a w h => ?_)
  exact zq52_
 intro h5; try simp only [tst_] at h5
 refine GC.skip (?_ : GC _ _ _ _)
 refine GC.sr_ ?_;refine GL.ln_ 1 12 ?_;refine GL.sn_ 2 ?_;refine GL.nl_ ?_;refine GC.ret (FinP.c0 2 97 2 12 [0] [1,1,0] ?_)
 exact ⟨_,_,by rw [hMB,mentC]; exact if_pos (by assumption),by omega,⟨none,0,none,0,none,0,by simp [zop],by omega,by simp [zop],by omega,by simp [zgr],by omega,rfl,rfl⟩,rfl⟩
def mpgF (b : List UInt8) (t : Nat) : Option (Page × Nat) := (mnumF b t 4).bind fun a => (mnumF b a.2 8).bind fun v => (mtxF b v.2).map fun d => (⟨a.1,v.1,d.1⟩,d.2)
def mrowF (b : List UInt8) (t : Nat) : Option (Row × Nat) := (mnumF b t 8).bind fun c => (mnumF b c.2 8).bind fun s => (decRes (seg b s.2 b.length)).map fun r => (⟨c.1,s.1,r.1⟩,s.2 + r.2)
def mstC (r : Stt × Nat) : Option (Stt × Nat) := if heldOk r.1 ∧ r.2 ≤ 33554432 then some r else none
def mstF (b : List UInt8) (at_ : Nat) : Option (Stt × Nat) :=
  (mnumF b at_ 8).bind fun n => (mnumF b n.2 4).bind fun bl => (mnumF b bl.2 4).bind fun sz => (mnumF b sz.2 4).bind fun pc => (manyF (mpgF b) pc.2 pc.1.toNat).bind fun ps => (mnumF b ps.2 1).bind fun rc => (manyF (mrowF b) rc.2 rc.1.toNat).bind fun rs => (mgrpF b rs.2).bind fun g => mstC (⟨n.1,⟨bl.1,sz.1⟩,ps.1,rs.1,g.1⟩,g.2)
theorem decRes_len {b : List UInt8} {o : Res} {n : Nat} (h : decRes b = some (o,n)) : o.data.length ≤ 262144 := by
  unfold decRes at h
  split at h
  · rename_i hh
    rw [← (Prod.mk.inj (Option.some.inj h)).1]
    exact (res_rng hh.2).2.2
  · cases h
abbrev SttR (s : Stt) (u : Value) (Q : List Pers) : Prop := ∃ A cp B cq C cr,s.pages.length ≤ cp ∧ cp ≤ 9223372036854775807 ∧ s.rows.length ≤ cq ∧ cq ≤ 9223372036854775807 ∧ s.grp.members.length ≤ cr ∧ cr ≤ 9223372036854775807 ∧ u = sttV s A cp B cq C cr ∧ Q = sttQ s A B C
theorem zq53_ {X : Prop} (h : X := by (exact GX.done (by kernel_rfl) (fun a w h => ⟨_,_,_,_,_,_,_,⟨hs13,hs17,hs21⟩,h.cut (is := [0,0,0]) (js := [0]) ⟨rfl,rfl,rfl,trivial⟩ rfl rfl⟩))) : X := h
theorem zq54_ {X : Prop} (h : X := by (exact fun a w h => ⟨(k + 1),(ps ++ [(⟨v35,v39,x43⟩ : Page)]),(_),(_),(_),(by omega),⟨⟨by simp; omega,by omega⟩,by omega,manyF_next hk.2.2.1 (show mpgF b t = some _ from by simp only [mpgF,hs35,hs39,Option.bind_some,hs43,Option.map_some]),fun p hp => by rcases List.mem_append.1 hp with hp | hp; exact hk.2.2.2 p hp; rw [List.mem_singleton.1 hp]; exact hx43⟩,by rw [List.length_append]; exact h.cut (is := [1,1,1,1]) (js := [0,3]) ⟨rfl,rfl,rfl,rfl,rfl,trivial⟩ rfl rfl⟩)) : X := h
theorem zq55_ {X : Prop} (h : X := by (exact GX.done (by kernel_rfl) (fun a w h => ⟨_,_,_,_,_,⟨hs58,hs62⟩,h.cut (is := [0,1,2,1,0]) (js := [0,1,2]) ⟨rfl,rfl,rfl,rfl,rfl,rfl,trivial⟩ rfl rfl⟩))) : X := h
theorem zq56_ {X : Prop} (h : X := by (exact GA.done (by kernel_rfl) (fun a w h => ⟨_,_,_,_,_,_,⟨hs76,hn76,l76,k76⟩,h.cut (is := [1,1,1,1,1,0]) (js := [0,2,3,4]) ⟨rfl,rfl,rfl,rfl,rfl,rfl,rfl,rfl,rfl,trivial⟩ rfl rfl⟩))) : X := h
theorem zq57_ {X : Prop} (h : X := by (exact FinP.panic ⟨⟨_,by decide,rfl⟩,by rw [hM,mstC]; exact if_neg (fun hh => by first | exact absurd hh.1 (by assumption) | (have h2 : t102 ≤ 33554432 := hh.2; omega))⟩ h)) : X := h
theorem mstr_ct (p e_ : Nat) (A : Option Addr) (b : List UInt8) (cp at_ : Nat) (hb : b.length ≤ cp) (hcp' : cp ≤ 9223372036854775807) (hb' : b.length ≤ 10000000000000) (hat : at_ ≤ b.length) : CtP Tryz.prog 167 [.pointer (some ⟨p,0,none⟩)] (mleftG p e_ A b cp at_) [Pers.row Kd.u8 A b]
    (fun u G Q => ∃ (s : Stt) (t : Nat),mstF b at_ = some (s,t) ∧ t ≤ b.length ∧ SttLen s ∧ SttR s u Q ∧ G = mleftG p e_ A b cp t) (fun v => mFault v ∧ mstF b at_ = none) := by
 have hp1 : (256 : Nat) ^ 1 = 256 := p256_1
 have hp4 : (256 : Nat) ^ 4 = 4294967296 := p256_4
 refine CtP.intro Tryz.func167 rfl rfl rfl (fun c hc => ?_)
 refine GC.sr_ ?_;refine GL.step rfl (t_alloc rfl ze_61) (GL.ex fun b_t2 => ?_);refine GL.nl_ ?_;refine GC.seq' ?_;refine GC.regionXM (m := 16) (M := fun a w => ∃ v13 : Int,∃ t13 : Nat,∃ v17 : Int,∃ t17 : Nat,∃ v21 : Int,∃ t21 : Nat,∃ b_t3 : Nat,(mnumF b at_ 8 = some (v13,t13) ∧ mnumF b t13 4 = some (v17,t17) ∧ mnumF b t17 4 = some (v21,t21)) ∧ St c 122 [(0,.pointer (some ⟨p,0,none⟩)),(2,.pointer (some ⟨b_t2,0,none⟩)),(3,.pointer (some ⟨b_t3,0,none⟩))] [.cells p [.slice A b.length cp,.int .i64 (t21 : Int)] e_,.cells b_t3 [.int .i64 v13,.int .i64 v17,.int .i64 v21,.slice none 0 0,.slice none 0 0,.int .i64 0,.slice none 0 0] 61,.cells b_t2 [.int .i64 0,.int .i64 0,.int .i64 0,.slice none 0 0,.slice none 0 0,.int .i64 0,.slice none 0 0] 61] [Pers.row Kd.u8 A b] a w) (is := [0]) (js := [0]) wide_ rfl rfl rfl (fun _ _ _ hd hp hD => ⟨hd.trans hD,.inr hp⟩) ?_ ?_
 ·refine GX.tk 0 [0] [0] ?_
  refine GX.tk 1 [0] [0] ?_
  refine GX.tk 2 [0] [0] ?_
  refine GX.tk 4 [0] [0] ?_
  refine GX.tk 5 [0] [0] ?_
  refine GX.tk 6 [0] [0] ?_
  refine GX.tk 8 [0] [0] ?_
  refine GX.tk 9 [0] [0] ?_
  refine GX.tk 10 [0] [0] ?_
  refine GX.al [3,14] ?_
  refine GXs.consP (i := 3) rfl rfl Tryz.call169 rfl (is := [1]) (js := [0]) rfl rfl (by exact (mlnum_ct _ _ _ b _ at_ 8 (by omega) (by omega) (by omega) (by omega) (by omega)).mono (fun _ _ _ h => h) (fun _ h => ⟨h.1,by simp only [mstF,h.2,Option.bind_none]⟩)) (by rintro a w ⟨_,_,_,⟨v13,t13,hs13,rfl,rfl,rfl⟩,h⟩; exact h.me [1] [0]) (GX.ret ?_) ?_
  ·rintro _ _ _ ⟨v13,t13,hs13,rfl,rfl,rfl⟩
   obtain ⟨ht13,hu13,hv13,hw13,hx13⟩ := mnumF_rng hs13
   refine GX.al [7,14] ?_
   refine GXs.consP (i := 7) rfl rfl Tryz.call169 rfl (is := [0]) (js := [0]) rfl rfl (by exact (mlnum_ct _ _ _ b _ t13 4 (by omega) (by omega) (by omega) (by omega) (by omega)).mono (fun _ _ _ h => h) (fun _ h => ⟨h.1,by simp only [mstF,hs13,Option.bind_some,h.2,Option.bind_none]⟩)) (by rintro a w ⟨_,_,_,⟨v17,t17,hs17,rfl,rfl,rfl⟩,h⟩; exact h.me [1] [0]) (GX.ret ?_) ?_
   ·rintro _ _ _ ⟨v17,t17,hs17,rfl,rfl,rfl⟩
    obtain ⟨ht17,hu17,hv17,hw17,hx17⟩ := mnumF_rng hs17
    refine GX.al [11,14] ?_
    refine GXs.consP (i := 11) rfl rfl Tryz.call169 rfl (is := [0]) (js := [0]) rfl rfl (by exact (mlnum_ct _ _ _ b _ t17 4 (by omega) (by omega) (by omega) (by omega) (by omega)).mono (fun _ _ _ h => h) (fun _ h => ⟨h.1,by simp only [mstF,hs13,hs17,Option.bind_some,h.2,Option.bind_none]⟩)) (by rintro a w ⟨_,_,_,⟨v21,t21,hs21,rfl,rfl,rfl⟩,h⟩; exact h.me [1] [0]) (GX.ret ?_) ?_
    ·rintro _ _ _ ⟨v21,t21,hs21,rfl,rfl,rfl⟩
     obtain ⟨ht21,hu21,hv21,hw21,hx21⟩ := mnumF_rng hs21
     refine GX.tp 12 rfl [1] [0] (i_pure (p_build ze_57 of_57 rfl rfl)) ?_
     refine GX.tp 13 rfl [1] [0] (i_pure (p_build ze_61 of_61 rfl rfl)) ?_
     refine GX.al [14] ?_
     refine GXs.cons (i := 14) rfl rfl (t_alloc rfl ze_61) (by rintro a w ⟨_,h⟩; exact h.me [2] [0]) (GX.ex fun b_t3 => ?_) GXs.nil
     refine GX.al [15] ?_
     refine GXs.cons (i := 15) rfl rfl (t_storeN (i := 0) rfl rfl rfl sz_61 rfl rfl rfl) (by rintro a w h; exact h.me [2] [0]) ?_ GXs.nil
     exact GX.done (by kernel_rfl) (fun a w h => ⟨_,_,_,_,_,_,_,⟨hs13,hs17,hs21⟩,h.cut (is := [1,0,0]) (js := [0]) ⟨rfl,rfl,rfl,trivial⟩ rfl rfl⟩)
    refine GXs.cons (i := 14) rfl rfl (t_alloc rfl ze_61) (by rintro a w ⟨_,h⟩; exact h.me [2] [0]) (GX.ex fun b_t3 => ?_) GXs.nil
    refine GX.al [11] ?_
    refine GXs.consP (i := 11) rfl rfl Tryz.call169 rfl (is := [1]) (js := [0]) rfl rfl (by exact (mlnum_ct _ _ _ b _ t17 4 (by omega) (by omega) (by omega) (by omega) (by omega)).mono (fun _ _ _ h => h) (fun _ h => ⟨h.1,by simp only [mstF,hs13,hs17,Option.bind_some,h.2,Option.bind_none]⟩)) (by rintro a w ⟨_,_,_,⟨v21,t21,hs21,rfl,rfl,rfl⟩,h⟩; exact h.me [2] [0]) (GX.ret ?_) GXs.nil
    rintro _ _ _ ⟨v21,t21,hs21,rfl,rfl,rfl⟩
    obtain ⟨ht21,hu21,hv21,hw21,hx21⟩ := mnumF_rng hs21
    refine GX.tp 12 rfl [2] [0] (i_pure (p_build ze_57 of_57 rfl rfl)) ?_
    refine GX.tp 13 rfl [2] [0] (i_pure (p_build ze_61 of_61 rfl rfl)) ?_
    refine GX.al [15] ?_
    refine GXs.cons (i := 15) rfl rfl (t_storeN (i := 1) rfl rfl rfl sz_61 rfl rfl rfl) (by rintro a w h; exact h.me [2] [0]) ?_ GXs.nil
    exact zq53_
   refine GXs.cons (i := 14) rfl rfl (t_alloc rfl ze_61) (by rintro a w ⟨_,h⟩; exact h.me [2] [0]) (GX.ex fun b_t3 => ?_) GXs.nil
   refine GX.al [7] ?_
   refine GXs.consP (i := 7) rfl rfl Tryz.call169 rfl (is := [1]) (js := [0]) rfl rfl (by exact (mlnum_ct _ _ _ b _ t13 4 (by omega) (by omega) (by omega) (by omega) (by omega)).mono (fun _ _ _ h => h) (fun _ h => ⟨h.1,by simp only [mstF,hs13,Option.bind_some,h.2,Option.bind_none]⟩)) (by rintro a w ⟨_,_,_,⟨v17,t17,hs17,rfl,rfl,rfl⟩,h⟩; exact h.me [2] [0]) (GX.ret ?_) GXs.nil
   rintro _ _ _ ⟨v17,t17,hs17,rfl,rfl,rfl⟩
   obtain ⟨ht17,hu17,hv17,hw17,hx17⟩ := mnumF_rng hs17
   refine GX.al [11] ?_
   refine GXs.consP (i := 11) rfl rfl Tryz.call169 rfl (is := [0]) (js := [0]) rfl rfl (by exact (mlnum_ct _ _ _ b _ t17 4 (by omega) (by omega) (by omega) (by omega) (by omega)).mono (fun _ _ _ h => h) (fun _ h => ⟨h.1,by simp only [mstF,hs13,hs17,Option.bind_some,h.2,Option.bind_none]⟩)) (by rintro a w ⟨_,_,_,⟨v21,t21,hs21,rfl,rfl,rfl⟩,h⟩; exact h.me [2] [0]) (GX.ret ?_) GXs.nil
   rintro _ _ _ ⟨v21,t21,hs21,rfl,rfl,rfl⟩
   obtain ⟨ht21,hu21,hv21,hw21,hx21⟩ := mnumF_rng hs21
   refine GX.tp 12 rfl [2] [0] (i_pure (p_build ze_57 of_57 rfl rfl)) ?_
   refine GX.tp 13 rfl [2] [0] (i_pure (p_build ze_61 of_61 rfl rfl)) ?_
   refine GX.al [15] ?_
   refine GXs.cons (i := 15) rfl rfl (t_storeN (i := 1) rfl rfl rfl sz_61 rfl rfl rfl) (by rintro a w h; exact h.me [2] [0]) ?_ GXs.nil
   exact zq53_
  refine GXs.cons (i := 14) rfl rfl (t_alloc rfl ze_61) (by rintro a w ⟨_,h⟩; exact h.me [1] [0]) (GX.ex fun b_t3 => ?_) GXs.nil
  refine GX.al [3] ?_
  refine GXs.consP (i := 3) rfl rfl Tryz.call169 rfl (is := [2]) (js := [0]) rfl rfl (by exact (mlnum_ct _ _ _ b _ at_ 8 (by omega) (by omega) (by omega) (by omega) (by omega)).mono (fun _ _ _ h => h) (fun _ h => ⟨h.1,by simp only [mstF,h.2,Option.bind_none]⟩)) (by rintro a w ⟨_,_,_,⟨v13,t13,hs13,rfl,rfl,rfl⟩,h⟩; exact h.me [2] [0]) (GX.ret ?_) GXs.nil
  rintro _ _ _ ⟨v13,t13,hs13,rfl,rfl,rfl⟩
  obtain ⟨ht13,hu13,hv13,hw13,hx13⟩ := mnumF_rng hs13
  refine GX.al [7] ?_
  refine GXs.consP (i := 7) rfl rfl Tryz.call169 rfl (is := [0]) (js := [0]) rfl rfl (by exact (mlnum_ct _ _ _ b _ t13 4 (by omega) (by omega) (by omega) (by omega) (by omega)).mono (fun _ _ _ h => h) (fun _ h => ⟨h.1,by simp only [mstF,hs13,Option.bind_some,h.2,Option.bind_none]⟩)) (by rintro a w ⟨_,_,_,⟨v17,t17,hs17,rfl,rfl,rfl⟩,h⟩; exact h.me [2] [0]) (GX.ret ?_) GXs.nil
  rintro _ _ _ ⟨v17,t17,hs17,rfl,rfl,rfl⟩
  obtain ⟨ht17,hu17,hv17,hw17,hx17⟩ := mnumF_rng hs17
  refine GX.al [11] ?_
  refine GXs.consP (i := 11) rfl rfl Tryz.call169 rfl (is := [0]) (js := [0]) rfl rfl (by exact (mlnum_ct _ _ _ b _ t17 4 (by omega) (by omega) (by omega) (by omega) (by omega)).mono (fun _ _ _ h => h) (fun _ h => ⟨h.1,by simp only [mstF,hs13,hs17,Option.bind_some,h.2,Option.bind_none]⟩)) (by rintro a w ⟨_,_,_,⟨v21,t21,hs21,rfl,rfl,rfl⟩,h⟩; exact h.me [2] [0]) (GX.ret ?_) GXs.nil
  rintro _ _ _ ⟨v21,t21,hs21,rfl,rfl,rfl⟩
  obtain ⟨ht21,hu21,hv21,hw21,hx21⟩ := mnumF_rng hs21
  refine GX.tp 12 rfl [2] [0] (i_pure (p_build ze_57 of_57 rfl rfl)) ?_
  refine GX.tp 13 rfl [2] [0] (i_pure (p_build ze_61 of_61 rfl rfl)) ?_
  refine GX.al [15] ?_
  refine GXs.cons (i := 15) rfl rfl (t_storeN (i := 1) rfl rfl rfl sz_61 rfl rfl rfl) (by rintro a w h; exact h.me [2] [0]) ?_ GXs.nil
  exact zq53_
 refine (?_ : GC _ _ _ _)
 refine GC.ex fun v13 => GC.ex fun t13 => GC.ex fun v17 => GC.ex fun t17 => GC.ex fun v21 => GC.ex fun t21 => GC.ex fun b_t3 => GC.and fun ⟨hs13,hs17,hs21⟩ => ?_;refine GC.seq' ?_;refine GC.sr_ ?_
 obtain ⟨ht13,hu13,hv13,hw13,hx13⟩ := mnumF_rng hs13
 obtain ⟨ht17,hu17,hv17,hw17,hx17⟩ := mnumF_rng hs17
 obtain ⟨ht21,hu21,hv21,hw21,hx21⟩ := mnumF_rng hs21
 refine GL.rn 3 ?_;refine GL.callP rfl Tryz.call169 rfl (is := [0]) (js := [0]) rfl rfl (by exact (mlnum_ct _ _ _ b _ t21 4 (by omega) (by omega) (by omega) (by omega) (by omega)).mono (fun _ _ _ h => h) (fun _ h => ⟨h.1,by simp only [mstF,hs13,hs17,hs21,Option.bind_some,h.2,Option.bind_none]⟩)) (fun v a w he h => FinP.panic he h) (GL.ret ?_)
 rintro _ _ _ ⟨v27,t27,hs27,rfl,rfl,rfl⟩
 obtain ⟨ht27,hu27,hv27,hw27,hx27⟩ := mnumF_rng hs27
 have hpos := mnumF_pos hs27 (by omega)
 refine GL.nilrow 164 3 ?_;refine GL.know (q := Pers.reps kPage [] []) (fun _ _ _ => rfl) ?_;refine GL.rz 1 ?_;refine GC.block ?_;refine GC.loopK5 (ks := [0,2,3,27]) (is := [3]) (js := [1]) (fun (k : Nat) (ps : List Page) (V : Value) (cs : List Value) (t : Nat) => (ps.length = k ∧ t ≤ b.length) ∧ (k : Int) ≤ v27 ∧ manyF (mpgF b) t27 k = some (ps,t) ∧ ∀ p ∈ ps,p.data.length ≤ 16777216) (fun (k : Nat) (ps : List Page) (V : Value) (cs : List Value) (t : Nat) => [(28,.int .i64 (k : Int))]) (fun (k : Nat) (ps : List Page) (V : Value) (cs : List Value) (t : Nat) => [.cells p [.slice A b.length cp,.int .i64 (t : Int)] e_,.cells b_t3 [.int .i64 v13,.int .i64 v17,.int .i64 v21,V,.slice none 0 0,.int .i64 0,.slice none 0 0] 61,.row V 164 3 ps.length cs]) (fun (k : Nat) (ps : List Page) (V : Value) (cs : List Value) (t : Nat) => [Pers.reps kPage ps cs]) (fun (k : Nat) (ps : List Page) (V : Value) (cs : List Value) (t : Nat) => v27.toNat - k) (0) ([]) (_) ([]) (t27) rfl rfl rfl (fun a w h => ⟨⟨⟨rfl,by omega⟩,by omega,rfl,by simp⟩,h.cutK (is := [1,1,0,0]) (js := [0,1]) (ks := [0,2,3,27]) ⟨rfl,trivial⟩ rfl rfl rfl⟩) ?_
 intro k ps V cs t hk
 try dsimp only [List.cons_append,List.nil_append] at hk ⊢
 refine GC.rg 1 ?_;refine GC.seq' ?_;refine GC.co ?_ ?_
 ·intro h1; try simp only [tst_] at h1
  refine GC.skip (?_ : GC _ _ _ _)
  refine GC.seq' ?_;refine GC.block ?_;refine GC.regionX (m := 19) (is := [3]) (js := [0,1]) wide_ rfl rfl rfl (fun _ _ _ hd hp hD => ⟨hd.trans hD,.inr hp⟩) ?_
  refine GX.tk 0 [3] [0,1] ?_
  refine GX.tk 2 [3] [0,1] ?_
  refine GX.tk 3 [3] [0,1] ?_
  refine GX.tk 4 [3] [0,1] ?_
  refine GX.tk 6 [3] [0,1] ?_
  refine GX.tk 7 [3] [0,1] ?_
  refine GX.tk 8 [3] [0,1] ?_
  refine GX.tk 10 [3] [0,1] ?_
  refine GX.tk 11 [3] [0,1] ?_
  refine GX.tk 12 [3] [0,1] ?_
  refine GX.al [1,5] ?_
  refine GXs.cons (i := 1) rfl rfl (t_mem rfl (m_load (i := 1) rfl rfl ag_58 rfl)) (by rintro a w h; exact h.me [3] [0,1]) ?_ ?_
  ·refine GX.al [5] ?_
   refine GXs.consP (i := 5) rfl rfl Tryz.call169 rfl (is := [0]) (js := [1]) rfl rfl (by exact (mlnum_ct _ _ _ b _ t 4 (by omega) (by omega) (by omega) (by omega) (by omega)).mono (fun _ _ _ h => h) (fun _ h => ⟨h.1,by simp only [mstF,hs13,hs17,hs21,hs27,Option.bind_some]; rw [manyF_fail hk.2.2.1 (show mpgF b t = none from by simp only [mpgF,h.2,Option.bind_none]) (by omega)]; rfl⟩)) (by rintro a w ⟨_,_,_,⟨v35,t35,hs35,rfl,rfl,rfl⟩,h⟩; exact h.me [3] [0,1]) (GX.ret ?_) GXs.nil
   rintro _ _ _ ⟨v35,t35,hs35,rfl,rfl,rfl⟩
   obtain ⟨ht35,hu35,hv35,hw35,hx35⟩ := mnumF_rng hs35
   refine GX.al [9] ?_
   refine GXs.consP (i := 9) rfl rfl Tryz.call169 rfl (is := [0]) (js := [1]) rfl rfl (by exact (mlnum_ct _ _ _ b _ t35 8 (by omega) (by omega) (by omega) (by omega) (by omega)).mono (fun _ _ _ h => h) (fun _ h => ⟨h.1,by simp only [mstF,hs13,hs17,hs21,hs27,Option.bind_some]; rw [manyF_fail hk.2.2.1 (show mpgF b t = none from by simp only [mpgF,hs35,Option.bind_some,h.2,Option.bind_none]) (by omega)]; rfl⟩)) (by rintro a w ⟨_,_,_,⟨v39,t39,hs39,rfl,rfl,rfl⟩,h⟩; exact h.me [3] [0,1]) (GX.ret ?_) GXs.nil
   rintro _ _ _ ⟨v39,t39,hs39,rfl,rfl,rfl⟩
   obtain ⟨ht39,hu39,hv39,hw39,hx39⟩ := mnumF_rng hs39
   refine GX.al [13] ?_
   refine GXs.consP (i := 13) rfl rfl Tryz.call207 rfl (is := [0]) (js := [1]) rfl rfl (by exact (mltext_ct _ _ _ b _ t39 (by omega) (by omega) (by omega) (by omega)).mono (fun _ _ _ h => h) (fun _ h => ⟨h.1,by simp only [mstF,hs13,hs17,hs21,hs27,Option.bind_some]; rw [manyF_fail hk.2.2.1 (show mpgF b t = none from by simp only [mpgF,hs35,hs39,Option.bind_some,h.2,Option.map_none]) (by omega)]; rfl⟩)) (by rintro a w ⟨_,_,_,⟨x43,t43,A43,c43,hs43,l43,m43,rfl,rfl,rfl⟩,h⟩; exact h.me [3] [1,2]) (GX.ret ?_) GXs.nil
   rintro _ _ _ ⟨x43,t43,A43,c43,hs43,l43,m43,rfl,rfl,rfl⟩
   obtain ⟨ht43,hx43⟩ := mtxF_rng hs43
   refine GX.tp 14 rfl [3] [1,2] (i_pure (p_build ze_164 of_164 rfl rfl)) ?_
   refine GX.al [15] ?_
   refine GXs.cons (i := 15) rfl rfl (t_buildSlice rfl Tryz.underlying58 sz_164 ze_164 rfl rfl rfl rfl rfl rfl) (by rintro a w ⟨_,h⟩; exact h.me [4] [1,2]) (GX.ex fun b_t45 => ?_) GXs.nil
   refine GX.al [16] ?_
   refine GXs.cons (i := 16) rfl rfl (t_append (i := 3) (k := 0) rfl el_58 rfl rfl rfl rfl rfl (allOne_mem rfl) (by first | (have := hk.1.1; omega) | (have := hj.1.1; omega)) (fun _ => rfl)) (by rintro a w ⟨_,h⟩; exact h.me [4] [1,2]) (GX.ex fun v46 => ?_) GXs.nil
   refine GX.shape (i := 3) rfl (fun A_v46 c_v46 e_v46 l_v46 k_v46 => ?_)
   subst e_v46
   refine GX.tk 17 [4] [1,2] ?_
   refine GX.snoc (j := 1) (js := [0]) (⟨v35,v39,x43⟩ : Page) ((),((),(A43,c43))) rfl rfl ⟨trivial,trivial,l43,m43⟩ ?_
   refine GX.al [18] ?_
   refine GXs.cons (i := 18) rfl rfl (t_store (i := 2) rfl rfl rfl rfl sz_58 rfl rfl rfl) (by rintro a w h; exact h.me [4] [2,3]) ?_ GXs.nil
   refine GX.done (by kernel_rfl) (?_ : GC _ _ _ _)
   refine GC.region ?_;refine GL.pure rfl (p_add rfl rfl (w64 (by omega) (by omega))) ?_;refine GL.rn 1 ?_;refine GL.nil ?_
   exact zq54_
  refine GXs.consP (i := 5) rfl rfl Tryz.call169 rfl (is := [0]) (js := [1]) rfl rfl (by exact (mlnum_ct _ _ _ b _ t 4 (by omega) (by omega) (by omega) (by omega) (by omega)).mono (fun _ _ _ h => h) (fun _ h => ⟨h.1,by simp only [mstF,hs13,hs17,hs21,hs27,Option.bind_some]; rw [manyF_fail hk.2.2.1 (show mpgF b t = none from by simp only [mpgF,h.2,Option.bind_none]) (by omega)]; rfl⟩)) (by rintro a w ⟨_,_,_,⟨v35,t35,hs35,rfl,rfl,rfl⟩,h⟩; exact h.me [3] [0,1]) (GX.ret ?_) GXs.nil
  rintro _ _ _ ⟨v35,t35,hs35,rfl,rfl,rfl⟩
  obtain ⟨ht35,hu35,hv35,hw35,hx35⟩ := mnumF_rng hs35
  refine GX.al [1,9] ?_
  refine GXs.cons (i := 1) rfl rfl (t_mem rfl (m_load (i := 1) rfl rfl ag_58 rfl)) (by rintro a w h; exact h.me [3] [0,1]) ?_ ?_
  ·refine GX.al [9] ?_
   refine GXs.consP (i := 9) rfl rfl Tryz.call169 rfl (is := [0]) (js := [1]) rfl rfl (by exact (mlnum_ct _ _ _ b _ t35 8 (by omega) (by omega) (by omega) (by omega) (by omega)).mono (fun _ _ _ h => h) (fun _ h => ⟨h.1,by simp only [mstF,hs13,hs17,hs21,hs27,Option.bind_some]; rw [manyF_fail hk.2.2.1 (show mpgF b t = none from by simp only [mpgF,hs35,Option.bind_some,h.2,Option.bind_none]) (by omega)]; rfl⟩)) (by rintro a w ⟨_,_,_,⟨v39,t39,hs39,rfl,rfl,rfl⟩,h⟩; exact h.me [3] [0,1]) (GX.ret ?_) GXs.nil
   rintro _ _ _ ⟨v39,t39,hs39,rfl,rfl,rfl⟩
   obtain ⟨ht39,hu39,hv39,hw39,hx39⟩ := mnumF_rng hs39
   refine GX.al [13] ?_
   refine GXs.consP (i := 13) rfl rfl Tryz.call207 rfl (is := [0]) (js := [1]) rfl rfl (by exact (mltext_ct _ _ _ b _ t39 (by omega) (by omega) (by omega) (by omega)).mono (fun _ _ _ h => h) (fun _ h => ⟨h.1,by simp only [mstF,hs13,hs17,hs21,hs27,Option.bind_some]; rw [manyF_fail hk.2.2.1 (show mpgF b t = none from by simp only [mpgF,hs35,hs39,Option.bind_some,h.2,Option.map_none]) (by omega)]; rfl⟩)) (by rintro a w ⟨_,_,_,⟨x43,t43,A43,c43,hs43,l43,m43,rfl,rfl,rfl⟩,h⟩; exact h.me [3] [1,2]) (GX.ret ?_) GXs.nil
   rintro _ _ _ ⟨x43,t43,A43,c43,hs43,l43,m43,rfl,rfl,rfl⟩
   obtain ⟨ht43,hx43⟩ := mtxF_rng hs43
   refine GX.tp 14 rfl [3] [1,2] (i_pure (p_build ze_164 of_164 rfl rfl)) ?_
   refine GX.al [15] ?_
   refine GXs.cons (i := 15) rfl rfl (t_buildSlice rfl Tryz.underlying58 sz_164 ze_164 rfl rfl rfl rfl rfl rfl) (by rintro a w ⟨_,h⟩; exact h.me [4] [1,2]) (GX.ex fun b_t45 => ?_) GXs.nil
   refine GX.al [16] ?_
   refine GXs.cons (i := 16) rfl rfl (t_append (i := 3) (k := 0) rfl el_58 rfl rfl rfl rfl rfl (allOne_mem rfl) (by first | (have := hk.1.1; omega) | (have := hj.1.1; omega)) (fun _ => rfl)) (by rintro a w ⟨_,h⟩; exact h.me [4] [1,2]) (GX.ex fun v46 => ?_) GXs.nil
   refine GX.shape (i := 3) rfl (fun A_v46 c_v46 e_v46 l_v46 k_v46 => ?_)
   subst e_v46
   refine GX.tk 17 [4] [1,2] ?_
   refine GX.snoc (j := 1) (js := [0]) (⟨v35,v39,x43⟩ : Page) ((),((),(A43,c43))) rfl rfl ⟨trivial,trivial,l43,m43⟩ ?_
   refine GX.al [18] ?_
   refine GXs.cons (i := 18) rfl rfl (t_store (i := 2) rfl rfl rfl rfl sz_58 rfl rfl rfl) (by rintro a w h; exact h.me [4] [2,3]) ?_ GXs.nil
   refine GX.done (by kernel_rfl) (?_ : GC _ _ _ _)
   refine GC.region ?_;refine GL.pure rfl (p_add rfl rfl (w64 (by omega) (by omega))) ?_;refine GL.rn 1 ?_;refine GL.nil ?_
   exact zq54_
  refine GXs.consP (i := 9) rfl rfl Tryz.call169 rfl (is := [0]) (js := [1]) rfl rfl (by exact (mlnum_ct _ _ _ b _ t35 8 (by omega) (by omega) (by omega) (by omega) (by omega)).mono (fun _ _ _ h => h) (fun _ h => ⟨h.1,by simp only [mstF,hs13,hs17,hs21,hs27,Option.bind_some]; rw [manyF_fail hk.2.2.1 (show mpgF b t = none from by simp only [mpgF,hs35,Option.bind_some,h.2,Option.bind_none]) (by omega)]; rfl⟩)) (by rintro a w ⟨_,_,_,⟨v39,t39,hs39,rfl,rfl,rfl⟩,h⟩; exact h.me [3] [0,1]) (GX.ret ?_) GXs.nil
  rintro _ _ _ ⟨v39,t39,hs39,rfl,rfl,rfl⟩
  obtain ⟨ht39,hu39,hv39,hw39,hx39⟩ := mnumF_rng hs39
  refine GX.al [1,13] ?_
  refine GXs.cons (i := 1) rfl rfl (t_mem rfl (m_load (i := 1) rfl rfl ag_58 rfl)) (by rintro a w h; exact h.me [3] [0,1]) ?_ ?_
  ·refine GX.al [13] ?_
   refine GXs.consP (i := 13) rfl rfl Tryz.call207 rfl (is := [0]) (js := [1]) rfl rfl (by exact (mltext_ct _ _ _ b _ t39 (by omega) (by omega) (by omega) (by omega)).mono (fun _ _ _ h => h) (fun _ h => ⟨h.1,by simp only [mstF,hs13,hs17,hs21,hs27,Option.bind_some]; rw [manyF_fail hk.2.2.1 (show mpgF b t = none from by simp only [mpgF,hs35,hs39,Option.bind_some,h.2,Option.map_none]) (by omega)]; rfl⟩)) (by rintro a w ⟨_,_,_,⟨x43,t43,A43,c43,hs43,l43,m43,rfl,rfl,rfl⟩,h⟩; exact h.me [3] [1,2]) (GX.ret ?_) GXs.nil
   rintro _ _ _ ⟨x43,t43,A43,c43,hs43,l43,m43,rfl,rfl,rfl⟩
   obtain ⟨ht43,hx43⟩ := mtxF_rng hs43
   refine GX.tp 14 rfl [3] [1,2] (i_pure (p_build ze_164 of_164 rfl rfl)) ?_
   refine GX.al [15] ?_
   refine GXs.cons (i := 15) rfl rfl (t_buildSlice rfl Tryz.underlying58 sz_164 ze_164 rfl rfl rfl rfl rfl rfl) (by rintro a w ⟨_,h⟩; exact h.me [4] [1,2]) (GX.ex fun b_t45 => ?_) GXs.nil
   refine GX.al [16] ?_
   refine GXs.cons (i := 16) rfl rfl (t_append (i := 3) (k := 0) rfl el_58 rfl rfl rfl rfl rfl (allOne_mem rfl) (by first | (have := hk.1.1; omega) | (have := hj.1.1; omega)) (fun _ => rfl)) (by rintro a w ⟨_,h⟩; exact h.me [4] [1,2]) (GX.ex fun v46 => ?_) GXs.nil
   refine GX.shape (i := 3) rfl (fun A_v46 c_v46 e_v46 l_v46 k_v46 => ?_)
   subst e_v46
   refine GX.tk 17 [4] [1,2] ?_
   refine GX.snoc (j := 1) (js := [0]) (⟨v35,v39,x43⟩ : Page) ((),((),(A43,c43))) rfl rfl ⟨trivial,trivial,l43,m43⟩ ?_
   refine GX.al [18] ?_
   refine GXs.cons (i := 18) rfl rfl (t_store (i := 2) rfl rfl rfl rfl sz_58 rfl rfl rfl) (by rintro a w h; exact h.me [4] [2,3]) ?_ GXs.nil
   refine GX.done (by kernel_rfl) (?_ : GC _ _ _ _)
   refine GC.region ?_;refine GL.pure rfl (p_add rfl rfl (w64 (by omega) (by omega))) ?_;refine GL.rn 1 ?_;refine GL.nil ?_
   exact zq54_
  refine GXs.consP (i := 13) rfl rfl Tryz.call207 rfl (is := [0]) (js := [1]) rfl rfl (by exact (mltext_ct _ _ _ b _ t39 (by omega) (by omega) (by omega) (by omega)).mono (fun _ _ _ h => h) (fun _ h => ⟨h.1,by simp only [mstF,hs13,hs17,hs21,hs27,Option.bind_some]; rw [manyF_fail hk.2.2.1 (show mpgF b t = none from by simp only [mpgF,hs35,hs39,Option.bind_some,h.2,Option.map_none]) (by omega)]; rfl⟩)) (by rintro a w ⟨_,_,_,⟨x43,t43,A43,c43,hs43,l43,m43,rfl,rfl,rfl⟩,h⟩; exact h.me [3] [1,2]) (GX.ret ?_) GXs.nil
  rintro _ _ _ ⟨x43,t43,A43,c43,hs43,l43,m43,rfl,rfl,rfl⟩
  obtain ⟨ht43,hx43⟩ := mtxF_rng hs43
  refine GX.tp 14 rfl [3] [1,2] (i_pure (p_build ze_164 of_164 rfl rfl)) ?_
  refine GX.al [1,15] ?_
  refine GXs.cons (i := 1) rfl rfl (t_mem rfl (m_load (i := 1) rfl rfl ag_58 rfl)) (by rintro a w h; exact h.me [3] [1,2]) ?_ ?_
  ·refine GX.al [15] ?_
   refine GXs.cons (i := 15) rfl rfl (t_buildSlice rfl Tryz.underlying58 sz_164 ze_164 rfl rfl rfl rfl rfl rfl) (by rintro a w ⟨_,h⟩; exact h.me [4] [1,2]) (GX.ex fun b_t45 => ?_) GXs.nil
   refine GX.al [16] ?_
   refine GXs.cons (i := 16) rfl rfl (t_append (i := 3) (k := 0) rfl el_58 rfl rfl rfl rfl rfl (allOne_mem rfl) (by first | (have := hk.1.1; omega) | (have := hj.1.1; omega)) (fun _ => rfl)) (by rintro a w ⟨_,h⟩; exact h.me [4] [1,2]) (GX.ex fun v46 => ?_) GXs.nil
   refine GX.shape (i := 3) rfl (fun A_v46 c_v46 e_v46 l_v46 k_v46 => ?_)
   subst e_v46
   refine GX.tk 17 [4] [1,2] ?_
   refine GX.snoc (j := 1) (js := [0]) (⟨v35,v39,x43⟩ : Page) ((),((),(A43,c43))) rfl rfl ⟨trivial,trivial,l43,m43⟩ ?_
   refine GX.al [18] ?_
   refine GXs.cons (i := 18) rfl rfl (t_store (i := 2) rfl rfl rfl rfl sz_58 rfl rfl rfl) (by rintro a w h; exact h.me [4] [2,3]) ?_ GXs.nil
   refine GX.done (by kernel_rfl) (?_ : GC _ _ _ _)
   refine GC.region ?_;refine GL.pure rfl (p_add rfl rfl (w64 (by omega) (by omega))) ?_;refine GL.rn 1 ?_;refine GL.nil ?_
   exact zq54_
  refine GXs.cons (i := 15) rfl rfl (t_buildSlice rfl Tryz.underlying58 sz_164 ze_164 rfl rfl rfl rfl rfl rfl) (by rintro a w ⟨_,h⟩; exact h.me [4] [1,2]) (GX.ex fun b_t45 => ?_) GXs.nil
  refine GX.al [1] ?_
  refine GXs.cons (i := 1) rfl rfl (t_mem rfl (m_load (i := 2) rfl rfl ag_58 rfl)) (by rintro a w h; exact h.me [4] [1,2]) ?_ GXs.nil
  refine GX.al [16] ?_
  refine GXs.cons (i := 16) rfl rfl (t_append (i := 3) (k := 0) rfl el_58 rfl rfl rfl rfl rfl (allOne_mem rfl) (by first | (have := hk.1.1; omega) | (have := hj.1.1; omega)) (fun _ => rfl)) (by rintro a w ⟨_,h⟩; exact h.me [4] [1,2]) (GX.ex fun v46 => ?_) GXs.nil
  refine GX.shape (i := 3) rfl (fun A_v46 c_v46 e_v46 l_v46 k_v46 => ?_)
  subst e_v46
  refine GX.tk 17 [4] [1,2] ?_
  refine GX.snoc (j := 1) (js := [0]) (⟨v35,v39,x43⟩ : Page) ((),((),(A43,c43))) rfl rfl ⟨trivial,trivial,l43,m43⟩ ?_
  refine GX.al [18] ?_
  refine GXs.cons (i := 18) rfl rfl (t_store (i := 2) rfl rfl rfl rfl sz_58 rfl rfl rfl) (by rintro a w h; exact h.me [4] [2,3]) ?_ GXs.nil
  refine GX.done (by kernel_rfl) (?_ : GC _ _ _ _)
  refine GC.region ?_;refine GL.pure rfl (p_add rfl rfl (w64 (by omega) (by omega))) ?_;refine GL.rn 1 ?_;refine GL.nil ?_
  exact zq54_
 intro h1; try simp only [tst_] at h1
 refine GC.exit (?_ : GC _ _ _ _)
 refine GC.seq' ?_;refine GC.sr_ ?_
 obtain ⟨tP,htP⟩ : ∃ tP,tP = t := ⟨t,rfl⟩
 have hkP : manyF (mpgF b) t27 v27.toNat = some (ps,tP) := by rw [show v27.toNat = k by omega,htP]; exact hk.2.2.1
 have htP' : tP ≤ b.length := by omega
 subst htP
 refine GL.shape (i := 2) rfl (fun A_PG c_PG e_PG l_PG k_PG => ?_)
 subst e_PG
 refine GL.freezeR (i := 2) (j := 0) rfl rfl (by decide) ?_;refine GL.rn 3 ?_;refine GL.callP rfl Tryz.call169 rfl (is := [0]) (js := [2]) rfl rfl (by exact (mlnum_ct _ _ _ b _ tP 1 (by omega) (by omega) (by omega) (by omega) (by omega)).mono (fun _ _ _ h => h) (fun _ h => ⟨h.1,by simp only [mstF,hs13,hs17,hs21,hs27,hkP,Option.bind_some,h.2,Option.bind_none]⟩)) (fun v a w he h => FinP.panic he h) (GL.ret ?_)
 rintro _ _ _ ⟨v52,t52,hs52,rfl,rfl,rfl⟩
 obtain ⟨ht52,hu52,hv52,hw52,hx52⟩ := mnumF_rng hs52
 have hpos2 := mnumF_pos hs52 (by omega)
 refine GL.nilrow 166 4 ?_;refine GL.know (q := Pers.reps kRow [] []) (fun _ _ _ => rfl) ?_;refine GL.rz 1 ?_;refine GC.block ?_;refine GC.loopK5 (ks := [0,2,3,52]) (is := [3]) (js := [1,3]) (fun (k : Nat) (rs : List Row) (V : Value) (cs : List Value) (t : Nat) => (rs.length = k ∧ t ≤ b.length) ∧ (k : Int) ≤ v52 ∧ manyF (mrowF b) t52 k = some (rs,t) ∧ ∀ r ∈ rs,r.result.data.length ≤ 262144) (fun (k : Nat) (rs : List Row) (V : Value) (cs : List Value) (t : Nat) => [(53,.int .i64 (k : Int))]) (fun (k : Nat) (rs : List Row) (V : Value) (cs : List Value) (t : Nat) => [.cells p [.slice A b.length cp,.int .i64 (t : Int)] e_,.cells b_t3 [.int .i64 v13,.int .i64 v17,.int .i64 v21,.slice A_PG ps.length c_PG,V,.int .i64 0,.slice none 0 0] 61,.row V 166 4 rs.length cs]) (fun (k : Nat) (rs : List Row) (V : Value) (cs : List Value) (t : Nat) => [Pers.reps kRow rs cs]) (fun (k : Nat) (rs : List Row) (V : Value) (cs : List Value) (t : Nat) => v52.toNat - k) (0) ([]) (_) ([]) (t52) rfl rfl rfl (fun a w h => ⟨⟨⟨rfl,by omega⟩,by omega,rfl,by simp⟩,h.cutK (is := [1,1,0,0]) (js := [0,1,3]) (ks := [0,2,3,52]) ⟨rfl,trivial⟩ rfl rfl rfl⟩) ?_
 intro k rs V cs t hj
 try dsimp only [List.cons_append,List.nil_append] at hj ⊢
 refine GC.rg 1 ?_;refine GC.seq' ?_;refine GC.co ?_ ?_
 ·intro h2; try simp only [tst_] at h2
  refine GC.skip (?_ : GC _ _ _ _)
  refine GC.seq' ?_;refine GC.block ?_;refine GC.seq' ?_;refine GC.regionXM (m := 11) (M := fun a w => ∃ v58 : Int,∃ t58 : Nat,∃ v62 : Int,∃ t62 : Nat,∃ b_t4 : Nat,(mnumF b t 8 = some (v58,t58) ∧ mnumF b t58 8 = some (v62,t62)) ∧ St c 122 [(0,.pointer (some ⟨p,0,none⟩)),(2,.pointer (some ⟨b_t2,0,none⟩)),(3,.pointer (some ⟨b_t3,0,none⟩)),(4,.pointer (some ⟨b_t4,0,none⟩)),(52,.int .i64 v52),(53,.int .i64 (k : Int))] [.cells p [.slice A b.length cp,.int .i64 (t62 : Int)] e_,.cells b_t3 [.int .i64 v13,.int .i64 v17,.int .i64 v21,.slice A_PG ps.length c_PG,V,.int .i64 0,.slice none 0 0] 61,.cells b_t2 [.int .i64 0,.int .i64 0,.int .i64 0,.slice none 0 0,.slice none 0 0,.int .i64 0,.slice none 0 0] 61,.row V 166 4 rs.length cs,.cells b_t4 [.int .i64 v58,.int .i64 v62,.int .u8 0,.slice none 0 0] 166] [Pers.reps kRow rs cs,Pers.row kPage A_PG ps,Pers.row Kd.u8 A b] a w) (is := [1,1,1]) (js := [0,1,2]) wide_ rfl rfl rfl (fun _ _ _ hd hp hD => ⟨hd.trans hD,.inr hp⟩) ?_ ?_
  ·refine GX.tk 0 [1,1,1] [0,1,2] ?_
   refine GX.tk 1 [1,1,1] [0,1,2] ?_
   refine GX.tk 2 [1,1,1] [0,1,2] ?_
   refine GX.tk 4 [1,1,1] [0,1,2] ?_
   refine GX.tk 5 [1,1,1] [0,1,2] ?_
   refine GX.tk 6 [1,1,1] [0,1,2] ?_
   refine GX.al [3,9] ?_
   refine GXs.consP (i := 3) rfl rfl Tryz.call169 rfl (is := [0]) (js := [2]) rfl rfl (by exact (mlnum_ct _ _ _ b _ t 8 (by omega) (by omega) (by omega) (by omega) (by omega)).mono (fun _ _ _ h => h) (fun _ h => ⟨h.1,by simp only [mstF,hs13,hs17,hs21,hs27,hkP,hs52,Option.bind_some]; rw [manyF_fail hj.2.2.1 (show mrowF b t = none from by simp only [mrowF,h.2,Option.bind_none]) (by omega)]; rfl⟩)) (by rintro a w ⟨_,_,_,⟨v58,t58,hs58,rfl,rfl,rfl⟩,h⟩; exact h.me [1,1,1] [0,1,2]) (GX.ret ?_) ?_
   ·rintro _ _ _ ⟨v58,t58,hs58,rfl,rfl,rfl⟩
    obtain ⟨ht58,hu58,hv58,hw58,hx58⟩ := mnumF_rng hs58
    refine GX.al [7,9] ?_
    refine GXs.consP (i := 7) rfl rfl Tryz.call169 rfl (is := [0]) (js := [2]) rfl rfl (by exact (mlnum_ct _ _ _ b _ t58 8 (by omega) (by omega) (by omega) (by omega) (by omega)).mono (fun _ _ _ h => h) (fun _ h => ⟨h.1,by simp only [mstF,hs13,hs17,hs21,hs27,hkP,hs52,Option.bind_some]; rw [manyF_fail hj.2.2.1 (show mrowF b t = none from by simp only [mrowF,hs58,Option.bind_some,h.2,Option.bind_none]) (by omega)]; rfl⟩)) (by rintro a w ⟨_,_,_,⟨v62,t62,hs62,rfl,rfl,rfl⟩,h⟩; exact h.me [1,1,1] [0,1,2]) (GX.ret ?_) ?_
    ·rintro _ _ _ ⟨v62,t62,hs62,rfl,rfl,rfl⟩
     obtain ⟨ht62,hu62,hv62,hw62,hx62⟩ := mnumF_rng hs62
     refine GX.tp 8 rfl [1,1,1] [0,1,2] (i_pure (p_build ze_166 of_166 rfl rfl)) ?_
     refine GX.al [9] ?_
     refine GXs.cons (i := 9) rfl rfl (t_alloc rfl ze_166) (by rintro a w ⟨_,h⟩; exact h.me [2,2,2] [0,1,2]) (GX.ex fun b_t4 => ?_) GXs.nil
     refine GX.al [10] ?_
     refine GXs.cons (i := 10) rfl rfl (t_storeN (i := 0) rfl rfl rfl sz_166 rfl rfl rfl) (by rintro a w h; exact h.me [2,2,2] [0,1,2]) ?_ GXs.nil
     exact GX.done (by kernel_rfl) (fun a w h => ⟨_,_,_,_,_,⟨hs58,hs62⟩,h.cut (is := [1,1,2,1,0]) (js := [0,1,2]) ⟨rfl,rfl,rfl,rfl,rfl,rfl,trivial⟩ rfl rfl⟩)
    refine GXs.cons (i := 9) rfl rfl (t_alloc rfl ze_166) (by rintro a w ⟨_,h⟩; exact h.me [2,2,2] [0,1,2]) (GX.ex fun b_t4 => ?_) GXs.nil
    refine GX.al [7] ?_
    refine GXs.consP (i := 7) rfl rfl Tryz.call169 rfl (is := [1]) (js := [2]) rfl rfl (by exact (mlnum_ct _ _ _ b _ t58 8 (by omega) (by omega) (by omega) (by omega) (by omega)).mono (fun _ _ _ h => h) (fun _ h => ⟨h.1,by simp only [mstF,hs13,hs17,hs21,hs27,hkP,hs52,Option.bind_some]; rw [manyF_fail hj.2.2.1 (show mrowF b t = none from by simp only [mrowF,hs58,Option.bind_some,h.2,Option.bind_none]) (by omega)]; rfl⟩)) (by rintro a w ⟨_,_,_,⟨v62,t62,hs62,rfl,rfl,rfl⟩,h⟩; exact h.me [2,2,2] [0,1,2]) (GX.ret ?_) GXs.nil
    rintro _ _ _ ⟨v62,t62,hs62,rfl,rfl,rfl⟩
    obtain ⟨ht62,hu62,hv62,hw62,hx62⟩ := mnumF_rng hs62
    refine GX.tp 8 rfl [2,2,2] [0,1,2] (i_pure (p_build ze_166 of_166 rfl rfl)) ?_
    refine GX.al [10] ?_
    refine GXs.cons (i := 10) rfl rfl (t_storeN (i := 1) rfl rfl rfl sz_166 rfl rfl rfl) (by rintro a w h; exact h.me [2,2,2] [0,1,2]) ?_ GXs.nil
    exact zq55_
   refine GXs.cons (i := 9) rfl rfl (t_alloc rfl ze_166) (by rintro a w ⟨_,h⟩; exact h.me [2,2,2] [0,1,2]) (GX.ex fun b_t4 => ?_) GXs.nil
   refine GX.al [3] ?_
   refine GXs.consP (i := 3) rfl rfl Tryz.call169 rfl (is := [1]) (js := [2]) rfl rfl (by exact (mlnum_ct _ _ _ b _ t 8 (by omega) (by omega) (by omega) (by omega) (by omega)).mono (fun _ _ _ h => h) (fun _ h => ⟨h.1,by simp only [mstF,hs13,hs17,hs21,hs27,hkP,hs52,Option.bind_some]; rw [manyF_fail hj.2.2.1 (show mrowF b t = none from by simp only [mrowF,h.2,Option.bind_none]) (by omega)]; rfl⟩)) (by rintro a w ⟨_,_,_,⟨v58,t58,hs58,rfl,rfl,rfl⟩,h⟩; exact h.me [2,2,2] [0,1,2]) (GX.ret ?_) GXs.nil
   rintro _ _ _ ⟨v58,t58,hs58,rfl,rfl,rfl⟩
   obtain ⟨ht58,hu58,hv58,hw58,hx58⟩ := mnumF_rng hs58
   refine GX.al [7] ?_
   refine GXs.consP (i := 7) rfl rfl Tryz.call169 rfl (is := [0]) (js := [2]) rfl rfl (by exact (mlnum_ct _ _ _ b _ t58 8 (by omega) (by omega) (by omega) (by omega) (by omega)).mono (fun _ _ _ h => h) (fun _ h => ⟨h.1,by simp only [mstF,hs13,hs17,hs21,hs27,hkP,hs52,Option.bind_some]; rw [manyF_fail hj.2.2.1 (show mrowF b t = none from by simp only [mrowF,hs58,Option.bind_some,h.2,Option.bind_none]) (by omega)]; rfl⟩)) (by rintro a w ⟨_,_,_,⟨v62,t62,hs62,rfl,rfl,rfl⟩,h⟩; exact h.me [2,2,2] [0,1,2]) (GX.ret ?_) GXs.nil
   rintro _ _ _ ⟨v62,t62,hs62,rfl,rfl,rfl⟩
   obtain ⟨ht62,hu62,hv62,hw62,hx62⟩ := mnumF_rng hs62
   refine GX.tp 8 rfl [2,2,2] [0,1,2] (i_pure (p_build ze_166 of_166 rfl rfl)) ?_
   refine GX.al [10] ?_
   refine GXs.cons (i := 10) rfl rfl (t_storeN (i := 1) rfl rfl rfl sz_166 rfl rfl rfl) (by rintro a w h; exact h.me [2,2,2] [0,1,2]) ?_ GXs.nil
   exact zq55_
  refine (?_ : GC _ _ _ _)
  refine GC.ex fun v58 => GC.ex fun t58 => GC.ex fun v62 => GC.ex fun t62 => GC.ex fun b_t4 => GC.and fun ⟨hs58,hs62⟩ => ?_;refine GC.seq' ?_
  obtain ⟨ht58,hu58,hv58,hw58,hx58⟩ := mnumF_rng hs58
  obtain ⟨ht62,hu62,hv62,hw62,hx62⟩ := mnumF_rng hs62
  refine GC.regionM (m := 20) (M := fun a w => ∃ o76 : Res,∃ n76 : Nat,∃ e76 : Int,∃ A76 : Option Addr,∃ c76 : Nat,∃ b_t5 : Nat,((e76 = 0 → decRes (seg b t62 b.length) = some (o76,n76)) ∧ (n76 ≤ (seg b t62 b.length).length ∧ (e76 ≠ 0 → decRes (seg b t62 b.length) = none)) ∧ o76.data.length ≤ c76 ∧ c76 ≤ 9223372036854775807) ∧ St c 122 [(0,.pointer (some ⟨p,0,none⟩)),(2,.pointer (some ⟨b_t2,0,none⟩)),(3,.pointer (some ⟨b_t3,0,none⟩)),(4,.pointer (some ⟨b_t4,0,none⟩)),(5,.pointer (some ⟨b_t5,0,none⟩)),(6,.int .i64 (n76 : Int)),(7,.int .i64 e76),(52,.int .i64 v52),(53,.int .i64 (k : Int))] [.cells p [.slice A b.length cp,.int .i64 (t62 : Int)] e_,.cells b_t3 [.int .i64 v13,.int .i64 v17,.int .i64 v21,.slice A_PG ps.length c_PG,V,.int .i64 0,.slice none 0 0] 61,.cells b_t2 [.int .i64 0,.int .i64 0,.int .i64 0,.slice none 0 0,.slice none 0 0,.int .i64 0,.slice none 0 0] 61,.row V 166 4 rs.length cs,.cells b_t4 [.int .i64 v58,.int .i64 v62,.int .u8 0,.slice none 0 0] 166,.cells b_t5 [.int .u8 o76.code,.slice A76 o76.data.length c76] 52] [Pers.row Kd.u8 A76 o76.data,Pers.reps kRow rs cs,Pers.row kPage A_PG ps,Pers.row Kd.u8 A b] a w) (is := (zs 5)) (js := [0,1,2]) wide_ rfl rfl rfl ?_ ?_
  ·refine GA.tk 0 (zs 5) [0,1,2] ?_;refine GA.tk 1 (zs 5) [0,1,2] ?_;refine GA.tk 2 (zs 5) [0,1,2] ?_;refine GA.tk 3 (zs 5) [0,1,2] ?_;refine GA.tp 4 rfl (zs 5) [0,1,2] (i_mem (m_load (i := 0) rfl rfl ag_47 rfl)) ?_
   refine GA.tk 5 (zs 5) [0,1,2] ?_;refine GA.tk 6 (zs 5) [0,1,2] ?_;refine GA.tk 7 (zs 5) [0,1,2] ?_;refine GA.tk 8 (zs 5) [0,1,2] ?_;refine GA.tp 9 rfl (zs 5) [0,1,2] (i_mem (m_load (i := 0) rfl rfl ag_3 rfl)) ?_
   refine GA.al [10,16] ?_
   refine GAs.cons (i := 10) rfl rfl (t_cut_l (j := 2) rfl rfl rfl rfl Tryz.underlying47 sz_5 (by omega) (by omega) (by omega)) (by rintro a w h; exact h.me (zs 5) [1,2,3]) ?_ ?_
   ·refine GA.al [11,16] ?_
    refine GAs.cons (i := 11) rfl rfl (t_call rfl Tryz.call110 rfl (is := []) (js := [0]) rfl rfl (by exact decres_ct _ (seg b t62 b.length) _ (by rw [seg_to (by omega)]; omega) (by omega) (by rw [seg_to (by omega)]; omega))) (by rintro a w ⟨_,_,_,⟨o76,n76,e76,A76,c76,hs76,hn76,l76,k76,rfl,rfl,rfl⟩,h⟩; exact h.me (zs 5) [2,3,4]) (GA.ret ?_) ?_
    ·rintro _ _ _ ⟨o76,n76,e76,A76,c76,hs76,hn76,l76,k76,rfl,rfl,rfl⟩
     refine GA.tk 12 (zs 5) [2,3,4] ?_;refine GA.tk 13 (zs 5) [2,3,4] ?_;refine GA.tk 14 (zs 5) [2,3,4] ?_;refine GA.tk 15 (zs 5) [2,3,4] ?_;refine GA.al [16] ?_
     refine GAs.cons (i := 16) rfl rfl (t_alloc rfl ze_52) (by rintro a w ⟨_,h⟩; exact h.me [1,1,1,1,1] [2,3,4]) (GA.ex fun b_t5 => ?_) GAs.nil
     refine GA.al [17] ?_
     refine GAs.cons (i := 17) rfl rfl (t_storeN (i := 0) rfl rfl rfl sz_52 rfl rfl rfl) (by rintro a w h; exact h.me [1,1,1,1,1] [2,3,4]) ?_ GAs.nil
     refine GA.tk 18 [1,1,1,1,1] [2,3,4] ?_;refine GA.tk 19 [1,1,1,1,1] [2,3,4] ?_
     exact zq56_
    refine GAs.cons (i := 16) rfl rfl (t_alloc rfl ze_52) (by rintro a w ⟨_,h⟩; exact h.me [1,1,1,1,1] [1,2,3]) (GA.ex fun b_t5 => ?_) GAs.nil
    refine GA.al [11] ?_
    refine GAs.cons (i := 11) rfl rfl (t_call rfl Tryz.call110 rfl (is := []) (js := [0]) rfl rfl (by exact decres_ct _ (seg b t62 b.length) _ (by rw [seg_to (by omega)]; omega) (by omega) (by rw [seg_to (by omega)]; omega))) (by rintro a w ⟨_,_,_,⟨o76,n76,e76,A76,c76,hs76,hn76,l76,k76,rfl,rfl,rfl⟩,h⟩; exact h.me [1,1,1,1,1] [2,3,4]) (GA.ret ?_) GAs.nil
    rintro _ _ _ ⟨o76,n76,e76,A76,c76,hs76,hn76,l76,k76,rfl,rfl,rfl⟩
    refine GA.tk 12 [1,1,1,1,1] [2,3,4] ?_;refine GA.tk 13 [1,1,1,1,1] [2,3,4] ?_;refine GA.tk 14 [1,1,1,1,1] [2,3,4] ?_;refine GA.tk 15 [1,1,1,1,1] [2,3,4] ?_;refine GA.al [17] ?_
    refine GAs.cons (i := 17) rfl rfl (t_storeN (i := 0) rfl rfl rfl sz_52 rfl rfl rfl) (by rintro a w h; exact h.me [1,1,1,1,1] [2,3,4]) ?_ GAs.nil
    refine GA.tk 18 [1,1,1,1,1] [2,3,4] ?_;refine GA.tk 19 [1,1,1,1,1] [2,3,4] ?_
    exact zq56_
   refine GAs.cons (i := 16) rfl rfl (t_alloc rfl ze_52) (by rintro a w ⟨_,h⟩; exact h.me [1,1,1,1,1] [0,1,2]) (GA.ex fun b_t5 => ?_) GAs.nil
   refine GA.al [10] ?_
   refine GAs.cons (i := 10) rfl rfl (t_cut_l (j := 2) rfl rfl rfl rfl Tryz.underlying47 sz_5 (by omega) (by omega) (by omega)) (by rintro a w h; exact h.me [1,1,1,1,1] [1,2,3]) ?_ GAs.nil
   refine GA.al [11] ?_
   refine GAs.cons (i := 11) rfl rfl (t_call rfl Tryz.call110 rfl (is := []) (js := [0]) rfl rfl (by exact decres_ct _ (seg b t62 b.length) _ (by rw [seg_to (by omega)]; omega) (by omega) (by rw [seg_to (by omega)]; omega))) (by rintro a w ⟨_,_,_,⟨o76,n76,e76,A76,c76,hs76,hn76,l76,k76,rfl,rfl,rfl⟩,h⟩; exact h.me [1,1,1,1,1] [2,3,4]) (GA.ret ?_) GAs.nil
   rintro _ _ _ ⟨o76,n76,e76,A76,c76,hs76,hn76,l76,k76,rfl,rfl,rfl⟩
   refine GA.tk 12 [1,1,1,1,1] [2,3,4] ?_;refine GA.tk 13 [1,1,1,1,1] [2,3,4] ?_;refine GA.tk 14 [1,1,1,1,1] [2,3,4] ?_;refine GA.tk 15 [1,1,1,1,1] [2,3,4] ?_;refine GA.al [17] ?_
   refine GAs.cons (i := 17) rfl rfl (t_storeN (i := 0) rfl rfl rfl sz_52 rfl rfl rfl) (by rintro a w h; exact h.me [1,1,1,1,1] [2,3,4]) ?_ GAs.nil
   refine GA.tk 18 [1,1,1,1,1] [2,3,4] ?_;refine GA.tk 19 [1,1,1,1,1] [2,3,4] ?_
   exact zq56_
  refine (?_ : GC _ _ _ _)
  refine GC.ex fun o76 => GC.ex fun n76 => GC.ex fun e76 => GC.ex fun A76 => GC.ex fun c76 => GC.ex fun b_t5 => GC.and fun ⟨hs76,hn76,l76,k76⟩ => ?_;refine GC.sr_ ?_
  have hq76 := hn76.1
  rw [seg_to (by omega)] at hq76
  refine GL.rn 1 ?_;refine GL.callP rfl Tryz.call170 rfl (is := []) (js := []) rfl rfl (by exact (must_ct _).mono (fun _ _ _ h => h) (fun _ h => ⟨⟨_,h⟩,by simp only [mstF,hs13,hs17,hs21,hs27,hkP,hs52,Option.bind_some]; rw [manyF_fail hj.2.2.1 (show mrowF b t = none from by simp only [mrowF,hs58,hs62,Option.bind_some,hn76.2 h.1,Option.map_none]) (by omega)]; rfl⟩)) (fun v a w he h => FinP.panic he h) (GL.ret ?_)
  rintro _ _ _ ⟨he81,rfl,rfl,rfl⟩
  have hd76 := hs76 he81
  refine GL.nl_ ?_;refine GC.sr_ ?_;refine GL.ln_ 5 2 ?_;refine GL.rn 1 ?_;refine GL.sn_ 4 ?_;refine GL.nr 4 ?_;refine GL.ld_ 0 ?_;refine GL.rn 1 ?_;refine GL.pure rfl (p_add rfl rfl (w64 (by omega) (by omega))) ?_
  refine GL.rn 3 ?_;refine GL.so_ 0 ?_;refine GL.nl_ ?_;refine GC.region ?_;refine GL.rn 1 ?_;refine GL.ld_ 1 ?_;refine GL.ln_ 4 4 ?_;refine GL.step rfl (t_buildSlice rfl Tryz.underlying59 sz_166 ze_166 rfl rfl rfl rfl rfl rfl) (GL.ex fun b_t97 => ?_)
  refine GL.step rfl (t_append (i := 4) (k := 0) rfl el_59 rfl rfl rfl rfl rfl (allOne_mem rfl) (by first | (have := hk.1.1; omega) | (have := hj.1.1; omega)) (fun _ => rfl)) (GL.ex fun v98 => ?_);refine GL.shape (i := 4) rfl (fun A_v98 c_v98 e_v98 l_v98 k_v98 => ?_)
  subst e_v98
  refine GL.snoc (j := 1) (js := [0]) (⟨v58,v62,o76⟩ : Row) ((),((),((),(A76,c76)))) rfl rfl ⟨trivial,trivial,trivial,l76,k76⟩ ?_;refine GL.rn 1 ?_;refine GL.so_ 2 ?_
  refine GL.nil (?_ : GC _ _ _ _)
  refine GC.region ?_;refine GL.pure rfl (p_add rfl rfl (w64 (by omega) (by omega))) ?_;refine GL.rn 1 ?_;refine GL.nil ?_
  exact fun a w h => ⟨(k + 1),(rs ++ [(⟨v58,v62,o76⟩ : Row)]),(_),(_),(t62 + n76),(by omega),⟨⟨by simp; omega,by omega⟩,by omega,manyF_next hj.2.2.1 (show mrowF b t = some _ from by simp only [mrowF,hs58,hs62,Option.bind_some,hd76,Option.map_some]),fun r hr => by rcases List.mem_append.1 hr with hr | hr; exact hj.2.2.2 r hr; rw [List.mem_singleton.1 hr]; exact decRes_len hd76⟩,by rw [List.length_append]; exact h.cut (is := [1,1,2,1]) (js := [0,3,4]) ⟨rfl,rfl,rfl,rfl,rfl,trivial⟩ rfl rfl⟩
 intro h2; try simp only [tst_] at h2
 refine GC.exit (?_ : GC _ _ _ _)
 refine GC.sr_ ?_
 obtain ⟨tR,htR⟩ : ∃ tR,tR = t := ⟨t,rfl⟩
 have hkR : manyF (mrowF b) t52 v52.toNat = some (rs,tR) := by rw [show v52.toNat = k by omega,htR]; exact hj.2.2.1
 have htR' : tR ≤ b.length := by omega
 subst htR
 refine GL.shape (i := 2) rfl (fun A_RW c_RW e_RW l_RW k_RW => ?_)
 subst e_RW
 refine GL.freezeR (i := 2) (j := 0) rfl rfl (by decide) ?_;refine GL.rn 1 ?_;refine GL.callP rfl Tryz.call171 rfl (is := [0]) (js := [3]) rfl rfl (by exact (mgrp_ct _ _ _ b _ tR (by omega) (by omega) (by omega)).mono (fun _ _ _ h => h) (fun _ h => ⟨h.1,by simp only [mstF,hs13,hs17,hs21,hs27,hkP,hs52,hkR,Option.bind_some,h.2,Option.bind_none]⟩)) (fun v a w he h => FinP.panic he h) (GL.ret ?_)
 rintro _ _ _ ⟨g102,t102,A102,c102,hs102,ht102,l102,m102,rfl,rfl,rfl⟩
 refine GL.rn 1 ?_;refine GL.sn_ 1 ?_;refine GL.nl_ ?_;refine GC.seq' ?_;refine GC.sr_ ?_
 have hM : mstF b at_ = mstC (⟨v13,⟨v17,v21⟩,ps,rs,g102⟩,t102) := by simp only [mstF,hs13,hs17,hs21,hs27,hkP,hs52,hkR,hs102,Option.bind_some]
 have hSL : SttLen (⟨v13,⟨v17,v21⟩,ps,rs,g102⟩ : Stt) := ⟨by have := hk.1.1; show ps.length ≤ _; omega,by have := hj.1.1; show rs.length ≤ _; omega,by show g102.members.length ≤ _; omega,fun p hp => by have := hk.2.2.2 p hp; show p.data.length ≤ _; omega,fun r hr => by have := hj.2.2.2 r hr; show r.result.data.length ≤ _; omega⟩
 refine GL.ln_ 1 7 ?_;refine GL.cl Tryz.call98 [] [3,1,0] rfl rfl rfl (by exact held_ct (⟨v13,⟨v17,v21⟩,ps,rs,g102⟩ : Stt) _ _ _ _ _ _ hSL) ?_
 rintro _ _ _ ⟨x106,rfl,rfl,rfl⟩
 refine GL.rz 5 ?_;refine GC.rg 2 ?_;refine GC.co ?_ ?_
 ·intro h3; try simp only [tst_] at h3
  refine GC.region ?_;refine GL.pure rfl (p_build ze_247 of_247 rfl rfl) ?_;refine GL.pure rfl (p_mkIface Tryz.underlying247 (fun m h => by cases h) rfl) ?_;refine GL.panicN rfl (fun a w h => ?_)
  exact zq57_
 intro h3; try simp only [tst_] at h3
 refine GC.skip (?_ : GC _ _ _ _)
 refine GC.seq' ?_;refine GC.rr 4 ?_;refine GL.ld_ 0 ?_;refine GL.rz 1 ?_;refine GC.co ?_ ?_
 ·intro h4; try simp only [tst_] at h4
  refine GC.region ?_;refine GL.pure rfl (p_build ze_247 of_247 rfl rfl) ?_;refine GL.pure rfl (p_mkIface Tryz.underlying247 (fun m h => by cases h) rfl) ?_;refine GL.panicN rfl (fun a w h => ?_)
  exact zq57_
 intro h4; try simp only [tst_] at h4
 refine GC.skip (?_ : GC _ _ _ _)
 refine GC.sr_ ?_;refine GL.ln_ 1 7 ?_;refine GL.sn_ 2 ?_;refine GL.nl_ ?_;refine GC.ret (FinP.c0 2 61 2 7 [0] [3,1,0] ?_)
 exact ⟨_,_,by rw [hM,mstC]; exact if_pos ⟨by assumption,by omega⟩,by omega,hSL,⟨_,_,_,_,_,_,l_PG,k_PG,l_RW,k_RW,l102,m102,rfl,rfl⟩,rfl⟩
end Go.Proofs.YtliacpkblicnhaaGreat
namespace Go.Sx
open Go
section
variable {P : Program} {c : Cx} {n : Nat} {env : List (Nat × Value)} {G G' Gr : List Own} {Q Q' : List Pers} {d : Nat} {ty : TypeId} {pos : String} {aft : Array Edge} {g : Option (Nat × Bool)} {x y : Operand} {t u : TypeId} {a a' : Act} {w w' : World}
theorem GL.callPv {ops : Array Oper} {X : Exit → Asr} {rest : List Oper} {f : FuncId} {xs : List Operand} {vs us : List Value} {ts : Array TypeId} {is js : List Nat} {G1 : List Own} {Q1 : List Pers} {R : Value → List Own → List Pers → Prop} {E : Value → Prop} (hd : Nat.blt d n = true) (hf : Ent P f) (hv : ev env x = some (.func (.func f) #[] us.toArray)) (hx : evs env xs = some vs)
    (hsel : sel G is = some (G1,Gr)) (hq : pickQ Q js = some Q1) (h : CtP P f (vs ++ us) G1 Q1 R E) (hp : ∀ v a w,E v → St c n env Gr Q a w → X (.panic [{ v := v,recovered := false }]) a w)
    (k : GL P ops X rest (fun a w => ∃ v G2 Q2,R v G2 Q2 ∧ St c n ((d,v) :: env) (G2 ++ Gr) (Q2 ++ Q) a w)) :
    GL P ops X (⟨some d,.call { callee := .value x,args := xs.toArray,argTypes := ts },ty,pos,aft,none⟩ :: rest) (St c n env G Q) := by
  rintro a w ⟨S,he,hh,hrel⟩
  refine wpList_plain rfl fun K hK => ?_
  have hp' := sel_perm hsel
  have hh1 := hh.perm hp'
  have hrel1 := hrel.perm hp'
  have hin : Heap S G1 Q1 w := hh1.sub (List.sublist_append_left _ _) (pickQ_mem hq)
  unfold Oper.wp
  rw [run_callv hf hv hx a w he.toEnv]
  rw [Oper.upon_enter]
  refine (h w S hin).mono ?_
  rintro e w' (⟨v,G2,Q2,S',rfl,hR,h',hfr,hS,hkk⟩ | ⟨v,rfl,hE,hfr⟩)
  · exact hK _ _ (k _ _ ⟨v,G2,Q2,hR,St.called hh1 hrel1 h' hfr hS hkk (he.put hd v)⟩)
  · exact hp v a w' hE (St.lost he hh1 hrel1 hfr)
theorem p_assert {v : Value} {ut : TypeDesc} {xt : TypeId} (hx : ev env x = some (.iface t v)) (hu : P.underlying t = some ut) (hn : ∀ m,ut ≠ .interface m) : Pv P n env ⟨some d,.typeAssert x xt t true,ty,pos,aft,g⟩ (.tuple #[v,.bool true]) := fun a w he => by
  simp only [execOp,he.eval hx,Instr.typeAssert,Sem.run_bind,run_underlying hu,Result.andThen_ok]
  cases ut <;> first | simp | exact absurd rfl (hn _)
theorem p_ifNil {v : Value} {k : TypeId} (hx : ev env x = some (.iface k v)) {ms} (ht : P.underlying t = some (.interface ms)) : Pv P n env ⟨some d,.binOp .eql t x (.const .nilIface) u,ty,pos,aft,g⟩ (.bool false) := fun a w he => by
  simp only [execOp,he.eval hx]
  have h1 : (eqGuard .eql t x (.const .nilIface) (.iface k v) .nilIface).run P w = .ok () w := by
    unfold eqGuard
    rfl
  have h2 : (Op.equal t (.iface k v) .nilIface).run P w = .ok false w := by
    show (Op.equalIn (9999 + 1) t (.iface k v) .nilIface).run P w = _
    rw [Op.equalIn]
    simp only [Sem.run_bind,run_underlying ht,Result.andThen_ok]
    rfl
  simp [binOp,Act.eval,h1,h2]
end
end Go.Sx
namespace Go.Proofs.YtliacpkblicnhaaGreat
open Go Go.Sx Go.Proofs
abbrev zE : List Value := [.int .u8 0,.int .i64 0,.int .i64 0,.int .i64 0,.int .i64 0,.int .u8 0,.int .i64 0,.int .i64 0,.slice none 0 0,.slice none 0 0,.int .i64 0,.slice none 0 0]
abbrev zS : List Value := [.int .i64 0,.int .i64 0,.int .i64 0,.slice none 0 0,.slice none 0 0,.int .i64 0,.slice none 0 0]
def zen : Entry := ⟨0,0,0,0,0,zop,zgr⟩
theorem recE_ct (e : Int) (p4 p5 p6 : Nat) : CtR Tryz.prog 168 [.pointer (some ⟨p4,0,none⟩),.pointer (some ⟨p5,0,none⟩),.pointer (some ⟨p6,0,none⟩)] [.cells p4 zE 97,.cells p5 [.int .i64 0] 3,.cells p6 [.int .i64 0] 68] [] (mF e)
    (fun u G Q => u = .tuple #[] ∧ G = [.cells p4 zE 97,.cells p5 [.int .i64 0] 3,.cells p6 [.int .i64 e] 68] ∧ Q = []) := by
  refine CtR.intro Tryz.func168 rfl rfl rfl rfl rfl (fun c hc => ?_)
  refine GC.seq' ?_
  refine GC.seq' ?_
  refine GC.region ?_
  refine GL.pure rfl (p_move rfl) ?_
  refine GL.pure rfl (p_ifNil rfl Tryz.underlying20) ?_
  refine GL.nil (?_ : GC _ _ _ _)
  refine GC.cond_false rfl ?_
  refine GC.skip (?_ : GC _ _ _ _)
  refine GC.seq' ?_
  refine GC.region ?_
  refine GL.pure rfl (p_move rfl) ?_
  refine GL.pure rfl (p_assert rfl Tryz.underlying247 (fun m h => by cases h)) ?_
  refine GL.pure rfl (p_move rfl) ?_
  refine GL.pure rfl (p_extract rfl rfl) ?_
  refine GL.pure rfl (p_extract rfl rfl) ?_
  refine GL.step rfl (t_alloc rfl ze_247) (GL.ex fun b_t4 => ?_)
  refine GL.step rfl (t_storeN (i := 0) rfl rfl rfl sz_247 rfl rfl rfl) ?_
  refine GL.pure rfl (p_assign rfl) ?_
  refine GL.nil (?_ : GC _ _ _ _)
  refine GC.seq' ?_
  refine GC.seq' ?_
  refine GC.region ?_
  refine GL.pure rfl (p_move rfl) ?_
  refine GL.pure rfl (p_not rfl) ?_
  refine GL.nil (?_ : GC _ _ _ _)
  refine GC.cond_false rfl ?_
  refine GC.skip (?_ : GC _ _ _ _)
  refine GC.seq' ?_
  refine GC.region ?_
  refine GL.step rfl (t_alloc rfl ze_97) (GL.ex fun b_t6 => ?_)
  refine GL.nil (?_ : GC _ _ _ _)
  refine GC.regionC (m := 6) (is := [0,0]) (js := []) wide_ rfl rfl rfl ?_
  refine GA.take 0 rfl (by kernel_rfl) (by kernel_rfl) (by kernel_rfl) rfl (fun a w h => h.mem (is := [0,0]) (js := []) rfl rfl) (i_mem (m_loadN (i := 0) rfl rfl ag_97 (vs := [_,_,_,_,_,_,_,_,_,_,_,_]) sz_97 ⟨rfl,rfl,rfl,rfl,rfl,rfl,rfl,rfl,rfl,rfl,rfl,rfl,trivial⟩)) ?_
  refine GA.take 1 rfl (by kernel_rfl) (by kernel_rfl) (by kernel_rfl) rfl (fun a w h => h.mem (is := [0,0]) (js := []) rfl rfl) (i_pure (p_fieldAddr fo_247_0 rfl)) ?_
  refine GA.take 2 rfl (by kernel_rfl) (by kernel_rfl) (by kernel_rfl) rfl (fun a w h => h.mem (is := [0,0]) (js := []) rfl rfl) (i_mem (m_load (i := 1) rfl rfl ag_68 rfl)) ?_
  refine GA.all (rs := [3]) (by kernel_rfl) (by simp) ?_
  refine GAs.cons (i := 3) rfl rfl (t_storeN (i := 2) rfl rfl rfl sz_97 rfl rfl rfl) (by rintro a w h; exact h.mem (is := [0,0]) (js := []) rfl rfl) ?_ ?_
  · refine GA.all (rs := [4]) (by kernel_rfl) (by simp) ?_
    refine GAs.cons (i := 4) rfl rfl (t_store (i := 3) rfl rfl rfl rfl sz_3 rfl rfl rfl) (by rintro a w h; exact h.mem (is := [0,0]) (js := []) rfl rfl) ?_ ?_
    · refine GA.all (rs := [5]) (by kernel_rfl) (by simp) ?_
      refine GAs.cons (i := 5) rfl rfl (t_store (i := 4) rfl rfl rfl rfl sz_68 rfl rfl rfl) (by rintro a w h; exact h.mem (is := [0,0]) (js := []) rfl rfl) ?_ ?_
      · refine GA.done (by kernel_rfl) ?_
        refine fun a w h => Fin.back0 rfl (is := [2,2,2]) (js := []) rfl rfl ?_ h
        clear h
        exact ⟨rfl,rfl,rfl⟩
      exact GAs.nil
    exact GAs.nil
  exact GAs.nil
theorem idleE (p q r : Value) (w : World) : CallsD Tryz.prog 168 #[p,q,r] .returning w fun e u' w' => e = .returned (.tuple #[]) ∧ u' = .returning ∧ w' = w := by
  have hn : ∀ w : World,(binOp BinOp.eql 20 .nilIface .nilIface).run Tryz.prog w = .ok (.bool true) w := fun _ => by kernel_rfl
  refine callsD_of_wpS Tryz.func168 rfl fun c₀ cs hu => ?_
  apply wpS_seq
  apply wpS_region
  simp [wpOpsS,go_sem,recoverD,hu,Tryz.ntmps168,Exit.thenS]
  apply wpS_seq
  apply wpS_seq
  apply wpS_region
  simp [wpOpsS,go_sem,Exit.thenS,hn]
  refine wpS_cond (t := true) (by simp [Act.eval,Array.replicate]) ?_
  simp only [if_true]
  refine wpS_of_wp (wp_ret ?_)
  cases c₀
  simp_all [bodyPostS,results,Exit.thenS]
theorem dec1_ct (p e_ : Nat) (A : Option Addr) (b : List UInt8) (cp : Nat) (hb : b.length ≤ cp) (hcp' : cp ≤ 9223372036854775807) (hb' : b.length ≤ 10000000000000) : CtP Tryz.prog 114 [.pointer (some ⟨p,0,none⟩)] (mleftG p e_ A b cp 0) [Pers.row Kd.u8 A b]
    (fun u G Q => ∃ (e : Entry) (t : Nat),mentF b 0 = some (e,t) ∧ t ≤ b.length ∧ EntR e u Q ∧ G = mleftG p e_ A b cp t) (fun v => mFault v ∧ mentF b 0 = none) := by
 refine CtP.intro Tryz.func114 rfl rfl rfl (fun c hc => ?_)
 refine GC.sr_ ?_;refine GL.step rfl (t_alloc rfl ze_97) (GL.ex fun b_t2 => ?_);refine GL.nr 1 ?_;refine GL.callP rfl Tryz.call115 rfl (is := [1]) (js := [0]) rfl rfl (by exact mentr_ct _ _ _ b _ 0 hb hcp' hb' (by omega)) (fun v a w he h => FinP.panic he h) (GL.ret ?_)
 rintro _ _ _ ⟨g4,t4,hs4,ht4,⟨A4,cp4,B4,cq4,C4,cr4,j4,k4,l4,m4,n4,o4,rfl,rfl⟩,rfl⟩
 refine GL.sn_ 1 ?_;refine GL.nl_ ?_;refine GC.ret (FinP.c0 2 97 1 12 [0] [0,1,2] ?_)
 exact ⟨_,_,hs4,ht4,⟨_,_,_,_,_,_,j4,k4,l4,m4,n4,o4,rfl,rfl⟩,rfl⟩
abbrev DecR (b : List UInt8) (u : Value) (G : List Own) (Q : List Pers) : Prop := ∃ (e : Entry) (n : Nat) (k : Int) (A : Option Addr) (cp : Nat) (B : Option Addr) (cq : Nat) (C : Option Addr) (cr : Nat),((k = 0 → mentF b 0 = some (e,n)) ∧ (k ≠ 0 → mentF b 0 = none)) ∧ n ≤ b.length ∧ e.op.data.length ≤ cp ∧ cp ≤ 9223372036854775807 ∧ e.op.old.length ≤ cq ∧ cq ≤ 9223372036854775807 ∧ e.grp.members.length ≤ cr ∧ cr ≤ 9223372036854775807 ∧ u = .tuple #[entV e A cp B cq C cr,.int .i64 (n : Int),.int .i64 k] ∧ G = [] ∧ Q = entQ e A B C
theorem readE_ct (A : Option Addr) (b : List UInt8) (cp : Nat) (hb : b.length ≤ cp) (hcp' : cp ≤ 9223372036854775807) (hb' : b.length ≤ 10000000000000) : Ct Tryz.prog 113 [.slice A b.length cp,.func (.func 114) #[] #[]] [] [Pers.row Kd.u8 A b] (DecR b) := by
 refine Ct.introD Tryz.func113 rfl rfl rfl (fun c hc hcD => ?_)
 refine GC.sr_ ?_;refine GL.step rfl (t_alloc rfl ze_97) (GL.ex fun b_t4 => ?_);refine GL.step rfl (t_alloc rfl ze_3) (GL.ex fun b_t5 => ?_);refine GL.step rfl (t_alloc rfl ze_68) (GL.ex fun b_t6 => ?_);refine GL.nl_ ?_
 refine GC.sr_ ?_;refine GL.pure rfl (p_makeFunc rfl rfl) ?_;refine GL.defer (f := 168) (us := [_,_,_]) hcD rfl ?_;refine GL.nr 1 ?_;refine GL.pure rfl (p_build ze_250 of_250 rfl rfl) ?_;refine GL.pure rfl (p_build ze_252 of_252 rfl rfl) ?_
 refine GL.step rfl (t_box rfl rfl rfl) (GL.ex fun b_t12 => ?_);refine GL.rz 1 ?_;refine GC.rr 2 ?_;refine GL.callPv rfl Tryz.call114 rfl rfl (is := [0]) (js := [0]) rfl rfl (by exact dec1_ct _ _ _ _ _ (by omega) (by omega) (by omega)) (fun v a w he h => by obtain ⟨⟨ex,hex,rfl⟩,hno⟩ := he; exact FinD.catch Tryz.call168 (recE_ct ex _ _ _) (isC := [2,1,0]) (jsC := []) rfl rfl (fun u G2 Q2 a w hR h => by obtain ⟨rfl,rfl,rfl⟩ := hR; exact Fin.back (rs := [.cell 4 97,.cell 5 3,.cell 6 68]) (vs := [_,_,_]) (is := []) (js := [1,1,0]) rfl ⟨⟨0,_,_,_,_,rfl,rfl,.inr ⟨[_,_,_,_,_,_,_,_,_,_,_,_],rfl,ag_97,sz_97,⟨rfl,rfl,rfl,rfl,rfl,rfl,rfl,rfl,rfl,rfl,rfl,rfl,trivial⟩⟩⟩,⟨1,_,_,_,_,rfl,rfl,.inl ⟨ag_3,rfl⟩⟩,⟨2,_,_,_,_,rfl,rfl,.inl ⟨ag_68,rfl⟩⟩,trivial⟩ rfl rfl (by exact ⟨zen,0,ex,none,0,none,0,none,0,⟨fun h => absurd h hex,fun _ => hno⟩,by omega,by simp [zen,zop],by omega,by simp [zen,zop],by omega,by simp [zen,zgr],by omega,rfl,rfl,rfl⟩) ((h.know (q := Pers.row Kd.u8 none []) (fun _ _ _ => .inl rfl)).know (q := Pers.row kI none []) (fun _ _ _ => .inl rfl))) h) (GL.ret ?_)
 rintro _ _ _ ⟨g15,t15,hs15,ht15,⟨A15,cp15,B15,cq15,C15,cr15,j15,k15,l15,m15,n15,o15,rfl,rfl⟩,rfl⟩
 refine GL.sn_ 3 ?_;refine GL.nl_ ?_;refine GC.seq' ?_;refine GC.regionC (m := 9) (is := [0]) (js := [0,1,2,3]) wide_ rfl rfl rfl ?_;refine GA.tk 1 [0] [0,1,2,3] ?_;refine GA.tk 2 [0] [0,1,2,3] ?_;refine GA.tk 3 [0] [0,1,2,3] ?_
 refine GA.tk 4 [0] [0,1,2,3] ?_;refine GA.tp 5 rfl [0] [0,1,2,3] (i_mem (m_load (i := 0) rfl rfl ag_3 rfl)) ?_;refine GA.al [0] ?_
 refine GAs.cons (i := 0) rfl rfl (t_mem rfl (m_loadN (i := 3) rfl rfl ag_97 (vs := [_,_,_,_,_,_,_,_,_,_,_,_]) sz_97 ⟨rfl,rfl,rfl,rfl,rfl,rfl,rfl,rfl,rfl,rfl,rfl,rfl,trivial⟩)) (by rintro a w h; exact h.me [0] [0,1,2,3]) ?_ GAs.nil
 refine GA.al [6] ?_
 refine GAs.cons (i := 6) rfl rfl (t_storeN (i := 3) rfl rfl rfl sz_97 rfl rfl rfl) (by rintro a w h; exact h.me [0] [0,1,2,3]) ?_ GAs.nil
 refine GA.al [7] ?_
 refine GAs.cons (i := 7) rfl rfl (t_store (i := 2) rfl rfl rfl rfl sz_3 rfl rfl rfl) (by rintro a w h; exact h.me [0] [0,1,2,3]) ?_ GAs.nil
 refine GA.al [8] ?_
 refine GAs.cons (i := 8) rfl rfl (t_store (i := 1) rfl rfl rfl rfl sz_68 rfl rfl rfl) (by rintro a w h; exact h.me [0] [0,1,2,3]) ?_ GAs.nil
 refine GA.done (by kernel_rfl) (?_ : GC _ _ _ _)
 refine GC.ret ?_
 refine fun a w h => FinD.back1 Tryz.call168 (idleE _ _ _) (rs := [.cell 4 97,.cell 5 3,.cell 6 68]) (vs := [_,_,_]) (is := []) (js := [0,1,2]) rfl ⟨⟨3,_,_,_,_,rfl,rfl,.inr ⟨[_,_,_,_,_,_,_,_,_,_,_,_],rfl,ag_97,sz_97,⟨rfl,rfl,rfl,rfl,rfl,rfl,rfl,rfl,rfl,rfl,rfl,rfl,trivial⟩⟩⟩,⟨2,_,_,_,_,rfl,rfl,.inl ⟨ag_3,rfl⟩⟩,⟨1,_,_,_,_,rfl,rfl,.inl ⟨ag_68,rfl⟩⟩,trivial⟩ rfl rfl ?_ h
 clear h
 exact ⟨_,_,0,_,_,_,_,_,_,⟨fun _ => hs15,fun h => absurd rfl h⟩,ht15,j15,k15,l15,m15,n15,o15,rfl,rfl,rfl⟩
theorem decent_ct (A : Option Addr) (b : List UInt8) (cp : Nat) (hb : b.length ≤ cp) (hcp' : cp ≤ 9223372036854775807) (hb' : b.length ≤ 10000000000000) : Ct Tryz.prog 77 [.slice A b.length cp] [] [Pers.row Kd.u8 A b] (DecR b) := by
 refine Ct.intro Tryz.func77 rfl rfl rfl (fun c hc => ?_)
 refine GC.sr_ ?_;refine GL.step rfl (t_alloc rfl ze_97) (GL.ex fun b_t2 => ?_);refine GL.rz 2 ?_;refine GC.rr 1 ?_;refine GL.cl Tryz.call113 [] [0] rfl rfl rfl (by exact readE_ct _ b _ hb hcp' hb') ?_
 rintro _ _ _ ⟨g6,t6,f6,A6,cp6,B6,cq6,C6,cr6,hs6,ht6,j6,k6,l6,m6,n6,o6,rfl,rfl,rfl⟩
 refine GL.rn 3 ?_;refine GL.sn_ 0 ?_;refine GL.rz 2 ?_;refine GC.ret (Fin.c2 2 97 3 4 0 12 [] [0,1,2] ?_)
 exact ⟨_,_,_,_,_,_,_,_,_,hs6,ht6,j6,k6,l6,m6,n6,o6,rfl,rfl,rfl⟩
theorem zstLen : SttLen zst := ⟨by simp [zst],by simp [zst],by simp [zst,zgr],fun p hp => by simp [zst] at hp,fun r hr => by simp [zst] at hr⟩
theorem recS_ct (e : Int) (p4 p5 p6 : Nat) : CtR Tryz.prog 206 [.pointer (some ⟨p4,0,none⟩),.pointer (some ⟨p5,0,none⟩),.pointer (some ⟨p6,0,none⟩)] [.cells p4 zS 61,.cells p5 [.int .i64 0] 3,.cells p6 [.int .i64 0] 68] [] (mF e)
    (fun u G Q => u = .tuple #[] ∧ G = [.cells p4 zS 61,.cells p5 [.int .i64 0] 3,.cells p6 [.int .i64 e] 68] ∧ Q = []) := by
  refine CtR.intro Tryz.func206 rfl rfl rfl rfl rfl (fun c hc => ?_)
  refine GC.seq' ?_
  refine GC.seq' ?_
  refine GC.region ?_
  refine GL.pure rfl (p_move rfl) ?_
  refine GL.pure rfl (p_ifNil rfl Tryz.underlying20) ?_
  refine GL.nil (?_ : GC _ _ _ _)
  refine GC.cond_false rfl ?_
  refine GC.skip (?_ : GC _ _ _ _)
  refine GC.seq' ?_
  refine GC.region ?_
  refine GL.pure rfl (p_move rfl) ?_
  refine GL.pure rfl (p_assert rfl Tryz.underlying247 (fun m h => by cases h)) ?_
  refine GL.pure rfl (p_move rfl) ?_
  refine GL.pure rfl (p_extract rfl rfl) ?_
  refine GL.pure rfl (p_extract rfl rfl) ?_
  refine GL.step rfl (t_alloc rfl ze_247) (GL.ex fun b_t4 => ?_)
  refine GL.step rfl (t_storeN (i := 0) rfl rfl rfl sz_247 rfl rfl rfl) ?_
  refine GL.pure rfl (p_assign rfl) ?_
  refine GL.nil (?_ : GC _ _ _ _)
  refine GC.seq' ?_
  refine GC.seq' ?_
  refine GC.region ?_
  refine GL.pure rfl (p_move rfl) ?_
  refine GL.pure rfl (p_not rfl) ?_
  refine GL.nil (?_ : GC _ _ _ _)
  refine GC.cond_false rfl ?_
  refine GC.skip (?_ : GC _ _ _ _)
  refine GC.seq' ?_
  refine GC.region ?_
  refine GL.step rfl (t_alloc rfl ze_61) (GL.ex fun b_t6 => ?_)
  refine GL.nil (?_ : GC _ _ _ _)
  refine GC.regionC (m := 6) (is := [0,0]) (js := []) wide_ rfl rfl rfl ?_
  refine GA.take 0 rfl (by kernel_rfl) (by kernel_rfl) (by kernel_rfl) rfl (fun a w h => h.mem (is := [0,0]) (js := []) rfl rfl) (i_mem (m_loadN (i := 0) rfl rfl ag_61 (vs := [_,_,_,_,_,_,_]) sz_61 ⟨rfl,rfl,rfl,rfl,rfl,rfl,rfl,trivial⟩)) ?_
  refine GA.take 1 rfl (by kernel_rfl) (by kernel_rfl) (by kernel_rfl) rfl (fun a w h => h.mem (is := [0,0]) (js := []) rfl rfl) (i_pure (p_fieldAddr fo_247_0 rfl)) ?_
  refine GA.take 2 rfl (by kernel_rfl) (by kernel_rfl) (by kernel_rfl) rfl (fun a w h => h.mem (is := [0,0]) (js := []) rfl rfl) (i_mem (m_load (i := 1) rfl rfl ag_68 rfl)) ?_
  refine GA.all (rs := [3]) (by kernel_rfl) (by simp) ?_
  refine GAs.cons (i := 3) rfl rfl (t_storeN (i := 2) rfl rfl rfl sz_61 rfl rfl rfl) (by rintro a w h; exact h.mem (is := [0,0]) (js := []) rfl rfl) ?_ ?_
  · refine GA.all (rs := [4]) (by kernel_rfl) (by simp) ?_
    refine GAs.cons (i := 4) rfl rfl (t_store (i := 3) rfl rfl rfl rfl sz_3 rfl rfl rfl) (by rintro a w h; exact h.mem (is := [0,0]) (js := []) rfl rfl) ?_ ?_
    · refine GA.all (rs := [5]) (by kernel_rfl) (by simp) ?_
      refine GAs.cons (i := 5) rfl rfl (t_store (i := 4) rfl rfl rfl rfl sz_68 rfl rfl rfl) (by rintro a w h; exact h.mem (is := [0,0]) (js := []) rfl rfl) ?_ ?_
      · refine GA.done (by kernel_rfl) ?_
        refine fun a w h => Fin.back0 rfl (is := [2,2,2]) (js := []) rfl rfl ?_ h
        clear h
        exact ⟨rfl,rfl,rfl⟩
      exact GAs.nil
    exact GAs.nil
  exact GAs.nil
theorem idleS (p q r : Value) (w : World) : CallsD Tryz.prog 206 #[p,q,r] .returning w fun e u' w' => e = .returned (.tuple #[]) ∧ u' = .returning ∧ w' = w := by
  have hn : ∀ w : World,(binOp BinOp.eql 20 .nilIface .nilIface).run Tryz.prog w = .ok (.bool true) w := fun _ => by kernel_rfl
  refine callsD_of_wpS Tryz.func206 rfl fun c₀ cs hu => ?_
  apply wpS_seq
  apply wpS_region
  simp [wpOpsS,go_sem,recoverD,hu,Tryz.ntmps206,Exit.thenS]
  apply wpS_seq
  apply wpS_seq
  apply wpS_region
  simp [wpOpsS,go_sem,Exit.thenS,hn]
  refine wpS_cond (t := true) (by simp [Act.eval,Array.replicate]) ?_
  simp only [if_true]
  refine wpS_of_wp (wp_ret ?_)
  cases c₀
  simp_all [bodyPostS,results,Exit.thenS]
theorem dec2_ct (p e_ : Nat) (A : Option Addr) (b : List UInt8) (cp : Nat) (hb : b.length ≤ cp) (hcp' : cp ≤ 9223372036854775807) (hb' : b.length ≤ 10000000000000) : CtP Tryz.prog 166 [.pointer (some ⟨p,0,none⟩)] (mleftG p e_ A b cp 0) [Pers.row Kd.u8 A b]
    (fun u G Q => ∃ (e : Stt) (t : Nat),mstF b 0 = some (e,t) ∧ t ≤ b.length ∧ SttLen e ∧ SttR e u Q ∧ G = mleftG p e_ A b cp t) (fun v => mFault v ∧ mstF b 0 = none) := by
 refine CtP.intro Tryz.func166 rfl rfl rfl (fun c hc => ?_)
 refine GC.sr_ ?_;refine GL.step rfl (t_alloc rfl ze_61) (GL.ex fun b_t2 => ?_);refine GL.nr 1 ?_;refine GL.callP rfl Tryz.call167 rfl (is := [1]) (js := [0]) rfl rfl (by exact mstr_ct _ _ _ b _ 0 hb hcp' hb' (by omega)) (fun v a w he h => FinP.panic he h) (GL.ret ?_)
 rintro _ _ _ ⟨g4,t4,hs4,ht4,hl4,⟨A4,cp4,B4,cq4,C4,cr4,j4,k4,l4,m4,n4,o4,rfl,rfl⟩,rfl⟩
 refine GL.sn_ 1 ?_;refine GL.nl_ ?_;refine GC.ret (FinP.c0 2 61 1 7 [0] [0,1,2] ?_)
 exact ⟨_,_,hs4,ht4,hl4,⟨_,_,_,_,_,_,j4,k4,l4,m4,n4,o4,rfl,rfl⟩,rfl⟩
abbrev DecT (b : List UInt8) (u : Value) (G : List Own) (Q : List Pers) : Prop := ∃ (e : Stt) (n : Nat) (k : Int) (A : Option Addr) (cp : Nat) (B : Option Addr) (cq : Nat) (C : Option Addr) (cr : Nat),((k = 0 → mstF b 0 = some (e,n)) ∧ (k ≠ 0 → mstF b 0 = none)) ∧ n ≤ b.length ∧ SttLen e ∧ e.pages.length ≤ cp ∧ cp ≤ 9223372036854775807 ∧ e.rows.length ≤ cq ∧ cq ≤ 9223372036854775807 ∧ e.grp.members.length ≤ cr ∧ cr ≤ 9223372036854775807 ∧ u = .tuple #[sttV e A cp B cq C cr,.int .i64 (n : Int),.int .i64 k] ∧ G = [] ∧ Q = sttQ e A B C
theorem readS_ct (A : Option Addr) (b : List UInt8) (cp : Nat) (hb : b.length ≤ cp) (hcp' : cp ≤ 9223372036854775807) (hb' : b.length ≤ 10000000000000) : Ct Tryz.prog 165 [.slice A b.length cp,.func (.func 166) #[] #[]] [] [Pers.row Kd.u8 A b] (DecT b) := by
 refine Ct.introD Tryz.func165 rfl rfl rfl (fun c hc hcD => ?_)
 refine GC.sr_ ?_;refine GL.step rfl (t_alloc rfl ze_61) (GL.ex fun b_t4 => ?_);refine GL.step rfl (t_alloc rfl ze_3) (GL.ex fun b_t5 => ?_);refine GL.step rfl (t_alloc rfl ze_68) (GL.ex fun b_t6 => ?_);refine GL.nl_ ?_
 refine GC.sr_ ?_;refine GL.pure rfl (p_makeFunc rfl rfl) ?_;refine GL.defer (f := 206) (us := [_,_,_]) hcD rfl ?_;refine GL.nr 1 ?_;refine GL.pure rfl (p_build ze_250 of_250 rfl rfl) ?_;refine GL.pure rfl (p_build ze_252 of_252 rfl rfl) ?_
 refine GL.step rfl (t_box rfl rfl rfl) (GL.ex fun b_t12 => ?_);refine GL.rz 1 ?_;refine GC.rr 2 ?_;refine GL.callPv rfl Tryz.call166 rfl rfl (is := [0]) (js := [0]) rfl rfl (by exact dec2_ct _ _ _ _ _ (by omega) (by omega) (by omega)) (fun v a w he h => by obtain ⟨⟨ex,hex,rfl⟩,hno⟩ := he; exact FinD.catch Tryz.call206 (recS_ct ex _ _ _) (isC := [2,1,0]) (jsC := []) rfl rfl (fun u G2 Q2 a w hR h => by obtain ⟨rfl,rfl,rfl⟩ := hR; exact Fin.back (rs := [.cell 4 61,.cell 5 3,.cell 6 68]) (vs := [_,_,_]) (is := []) (js := [2,1,0]) rfl ⟨⟨0,_,_,_,_,rfl,rfl,.inr ⟨[_,_,_,_,_,_,_],rfl,ag_61,sz_61,⟨rfl,rfl,rfl,rfl,rfl,rfl,rfl,trivial⟩⟩⟩,⟨1,_,_,_,_,rfl,rfl,.inl ⟨ag_3,rfl⟩⟩,⟨2,_,_,_,_,rfl,rfl,.inl ⟨ag_68,rfl⟩⟩,trivial⟩ rfl rfl (by exact ⟨zst,0,ex,none,0,none,0,none,0,⟨fun h => absurd h hex,fun _ => hno⟩,by omega,zstLen,by simp [zst],by omega,by simp [zst],by omega,by simp [zst,zgr],by omega,rfl,rfl,rfl⟩) (((h.know (q := Pers.row kPage none []) (fun _ _ _ => .inl rfl)).know (q := Pers.row kRow none []) (fun _ _ _ => .inl rfl)).know (q := Pers.row kI none []) (fun _ _ _ => .inl rfl))) h) (GL.ret ?_)
 rintro _ _ _ ⟨g15,t15,hs15,ht15,hl15,⟨A15,cp15,B15,cq15,C15,cr15,j15,k15,l15,m15,n15,o15,rfl,rfl⟩,rfl⟩
 refine GL.sn_ 3 ?_;refine GL.nl_ ?_;refine GC.seq' ?_;refine GC.regionC (m := 9) (is := [0]) (js := [0,1,2,3]) wide_ rfl rfl rfl ?_;refine GA.tk 1 [0] [0,1,2,3] ?_;refine GA.tk 2 [0] [0,1,2,3] ?_;refine GA.tk 3 [0] [0,1,2,3] ?_
 refine GA.tk 4 [0] [0,1,2,3] ?_;refine GA.tp 5 rfl [0] [0,1,2,3] (i_mem (m_load (i := 0) rfl rfl ag_3 rfl)) ?_;refine GA.al [0] ?_
 refine GAs.cons (i := 0) rfl rfl (t_mem rfl (m_loadN (i := 3) rfl rfl ag_61 (vs := [_,_,_,_,_,_,_]) sz_61 ⟨rfl,rfl,rfl,rfl,rfl,rfl,rfl,trivial⟩)) (by rintro a w h; exact h.me [0] [0,1,2,3]) ?_ GAs.nil
 refine GA.al [6] ?_
 refine GAs.cons (i := 6) rfl rfl (t_storeN (i := 3) rfl rfl rfl sz_61 rfl rfl rfl) (by rintro a w h; exact h.me [0] [0,1,2,3]) ?_ GAs.nil
 refine GA.al [7] ?_
 refine GAs.cons (i := 7) rfl rfl (t_store (i := 2) rfl rfl rfl rfl sz_3 rfl rfl rfl) (by rintro a w h; exact h.me [0] [0,1,2,3]) ?_ GAs.nil
 refine GA.al [8] ?_
 refine GAs.cons (i := 8) rfl rfl (t_store (i := 1) rfl rfl rfl rfl sz_68 rfl rfl rfl) (by rintro a w h; exact h.me [0] [0,1,2,3]) ?_ GAs.nil
 refine GA.done (by kernel_rfl) (?_ : GC _ _ _ _)
 refine GC.ret ?_
 refine fun a w h => FinD.back1 Tryz.call206 (idleS _ _ _) (rs := [.cell 4 61,.cell 5 3,.cell 6 68]) (vs := [_,_,_]) (is := []) (js := [0,1,2]) rfl ⟨⟨3,_,_,_,_,rfl,rfl,.inr ⟨[_,_,_,_,_,_,_],rfl,ag_61,sz_61,⟨rfl,rfl,rfl,rfl,rfl,rfl,rfl,trivial⟩⟩⟩,⟨2,_,_,_,_,rfl,rfl,.inl ⟨ag_3,rfl⟩⟩,⟨1,_,_,_,_,rfl,rfl,.inl ⟨ag_68,rfl⟩⟩,trivial⟩ rfl rfl ?_ h
 clear h
 exact ⟨_,_,0,_,_,_,_,_,_,⟨fun _ => hs15,fun h => absurd rfl h⟩,ht15,hl15,j15,k15,l15,m15,n15,o15,rfl,rfl,rfl⟩
theorem decstt_ct (A : Option Addr) (b : List UInt8) (cp : Nat) (hb : b.length ≤ cp) (hcp' : cp ≤ 9223372036854775807) (hb' : b.length ≤ 10000000000000) : Ct Tryz.prog 112 [.slice A b.length cp] [] [Pers.row Kd.u8 A b] (DecT b) := by
 refine Ct.intro Tryz.func112 rfl rfl rfl (fun c hc => ?_)
 refine GC.sr_ ?_;refine GL.step rfl (t_alloc rfl ze_61) (GL.ex fun b_t2 => ?_);refine GL.rz 2 ?_;refine GC.rr 1 ?_;refine GL.cl Tryz.call165 [] [0] rfl rfl rfl (by exact readS_ct _ b _ hb hcp' hb') ?_
 rintro _ _ _ ⟨g6,t6,f6,A6,cp6,B6,cq6,C6,cr6,hs6,ht6,hl6,j6,k6,l6,m6,n6,o6,rfl,rfl,rfl⟩
 refine GL.rn 3 ?_;refine GL.sn_ 0 ?_;refine GL.rz 2 ?_;refine GC.ret (Fin.c2 2 61 3 4 0 7 [] [0,1,2] ?_)
 exact ⟨_,_,_,_,_,_,_,_,_,hs6,ht6,hl6,j6,k6,l6,m6,n6,o6,rfl,rfl,rfl⟩
abbrev wFt : Value := .iface 128 (.agg #[])
theorem wtake_ct (p e_ : Nat) (A : Option Addr) (b : List UInt8) (cp n : Nat) (e : Int) (hn : e = 0 → n ≤ b.length) (hcp : b.length ≤ cp) (hcp' : cp ≤ 9223372036854775807) : CtP Tryz.prog 78 [.pointer (some ⟨p,0,none⟩),.int .i64 (n : Int),.int .i64 e] (leftG p e_ A b cp) [Pers.row Kd.u8 A b]
    (fun u G Q => e = 0 ∧ ∃ A' c',(b.drop n).length ≤ c' ∧ c' ≤ 9223372036854775807 ∧ u = .tuple #[] ∧ G = leftG p e_ A' (b.drop n) c' ∧ Q = [Pers.row Kd.u8 A' (b.drop n)]) (fun v => e ≠ 0 ∧ v = wFt) := by
 refine CtP.intro Tryz.func78 rfl rfl rfl (fun c hc => ?_)
 refine GC.seq' ?_;refine GC.rg 2 ?_;refine GC.co ?_ ?_
 ·intro h1; try simp only [tst_] at h1
  refine GC.region ?_;refine GL.pure rfl (p_build ze_128 of_128 rfl rfl) ?_;refine GL.pure rfl (p_mkIface Tryz.underlying128 (fun m h => by cases h) rfl) ?_;refine GL.panicN rfl (fun a w h => ?_)
  exact FinP.panic ⟨by assumption,rfl⟩ h
 intro h1; try simp only [tst_] at h1
 refine GC.skip (?_ : GC _ _ _ _)
 refine GC.region ?_
 have hn_ := hn (by omega)
 refine GL.rn 4 ?_;refine GL.ld_ 0 ?_;refine GL.rn 1 ?_;refine GL.step rfl (t_cut_l (j := 0) rfl rfl rfl rfl Tryz.underlying47 sz_5 (by omega) (by omega) (by omega)) ?_
 rw [show ((n : Int)).toNat = n from rfl,seg_drop]
 refine GL.rn 2 ?_;refine GL.so_ 0 ?_;refine GL.nil ?_
 refine fun a w h => FinP.back0 rfl (is := [0]) (js := [0]) rfl rfl ?_ h
 clear h
 exact ⟨by omega,_,_,by rw [List.length_drop]; omega,by omega,rfl,rfl,rfl⟩
def wnumF (n : Nat) (L : List UInt8) : Option (Int × List UInt8) := if n ≤ L.length then some (((valN (seg L 0 n) : Nat) : Int),L.drop n) else none
theorem wnumF_rng {n : Nat} {L : List UInt8} {v : Int} {M : List UInt8} (h : wnumF n L = some (v,M)) : 0 ≤ v ∧ v < (256 ^ n : Nat) ∧ M.length + n = L.length := by
  unfold wnumF at h
  split at h
  · rename_i hq
    obtain ⟨h1,h2⟩ := Prod.mk.inj (Option.some.inj h)
    have hv : valN (seg L 0 n) < 256 ^ n := valN_rng hq (by omega)
    subst h2
    rw [List.length_drop]
    omega
  · cases h
theorem wnum_ct (p e_ : Nat) (A : Option Addr) (b : List UInt8) (cp n : Nat) (hn : 1 ≤ n) (hn' : n ≤ 8) (hcp : b.length ≤ cp) (hcp' : cp ≤ 9223372036854775807) (hb : b.length ≤ 10000000000000) : CtP Tryz.prog 74 [.pointer (some ⟨p,0,none⟩),.int .i64 (n : Int)] (leftG p e_ A b cp) [Pers.row Kd.u8 A b]
    (fun u G Q => ∃ v L' A' c',wnumF n b = some (v,L') ∧ L'.length ≤ c' ∧ c' ≤ 9223372036854775807 ∧ u = .int .u64 v ∧ G = leftG p e_ A' L' c' ∧ Q = [Pers.row Kd.u8 A' L']) (fun v => v = wFt ∧ wnumF n b = none) := by
 refine CtP.intro Tryz.func74 rfl rfl rfl (fun c hc => ?_)
 refine GC.rg 1 ?_;refine GC.rr 3 ?_;refine GL.ld_ 0 ?_;refine GL.rn 1 ?_;refine GL.cl Tryz.call72 [] [0] rfl rfl rfl (by exact get_all _ b _ 0 n hn hn' hcp (by omega) (by omega)) ?_
 rintro _ _ _ ⟨rfl,rfl,rfl⟩
 refine GL.rz 7 ?_;refine GC.rr 3 ?_;refine GL.callP rfl Tryz.call78 rfl (is := [0]) (js := [0]) rfl rfl (by exact wtake_ct _ _ _ b _ n _ (fun h => by have := getE_zero h; omega) hcp hcp') (fun v a w he h => by exact FinP.panic ⟨he.2,by rw [wnumF,if_neg (fun hq => he.1 (if_pos (by omega)))]⟩ h) (GL.ret ?_)
 rintro _ _ _ ⟨he21,A21,c21,l21,k21,rfl,rfl,rfl⟩
 refine GL.nr 2 ?_;refine GL.nl_ ?_;refine GC.ret (FinP.b1 4 [0] [0] ?_)
 have hq := getE_zero he21
 exact ⟨_,_,_,_,by rw [wnumF,if_pos (by omega)],l21,k21,by show Value.int _ ((getV b 0 n : Nat) : Int) = _; rw [getV,if_pos hq,Nat.zero_add],rfl,rfl⟩
def wsmF (L : List UInt8) : Option (Int × List UInt8) := (wnumF 8 L).bind fun r => if r.1 ≤ 4611686018427387904 then some r else none
theorem wsmF_rng {L : List UInt8} {v : Int} {M : List UInt8} (h : wsmF L = some (v,M)) : 0 ≤ v ∧ v ≤ 4611686018427387904 ∧ M.length + 8 = L.length := by
  unfold wsmF at h
  cases hn : wnumF 8 L with
  | none => rw [hn] at h; cases h
  | some r =>
    rw [hn,Option.bind_some] at h
    split at h
    · obtain rfl := Option.some.inj h
      have := wnumF_rng hn
      omega
    · cases h
theorem wsm_ct (p e_ : Nat) (A : Option Addr) (b : List UInt8) (cp : Nat) (hcp : b.length ≤ cp) (hcp' : cp ≤ 9223372036854775807) (hb : b.length ≤ 10000000000000) : CtP Tryz.prog 75 [.pointer (some ⟨p,0,none⟩)] (leftG p e_ A b cp) [Pers.row Kd.u8 A b]
    (fun u G Q => ∃ v L' A' c',wsmF b = some (v,L') ∧ L'.length ≤ c' ∧ c' ≤ 9223372036854775807 ∧ u = .int .i64 v ∧ G = leftG p e_ A' L' c' ∧ Q = [Pers.row Kd.u8 A' L']) (fun v => v = wFt ∧ wsmF b = none) := by
 refine CtP.intro Tryz.func75 rfl rfl rfl (fun c hc => ?_)
 refine GC.rg 1 ?_;refine GC.rr 1 ?_;refine GL.callP rfl Tryz.call74 rfl (is := [0]) (js := [0]) rfl rfl (by exact (wnum_ct _ _ _ b _ 8 (by omega) (by omega) hcp hcp' hb).mono (fun _ _ _ h => h) (fun _ h => ⟨h.1,by rw [wsmF,h.2]; rfl⟩)) (fun v a w he h => FinP.panic he h) (GL.ret ?_)
 rintro _ _ _ ⟨v5,L5,A5,c5,hs5,l5,k5,rfl,rfl,rfl⟩
 obtain ⟨hv5,hw5,hx5⟩ := wnumF_rng hs5
 refine GL.rz 1 ?_;refine GC.seq' ?_;refine GC.rg 2 ?_;refine GC.co ?_ ?_
 ·intro h1; try simp only [tst_] at h1
  refine GC.region ?_;refine GL.pure rfl (p_build ze_128 of_128 rfl rfl) ?_;refine GL.pure rfl (p_mkIface Tryz.underlying128 (fun m h => by cases h) rfl) ?_;refine GL.panicN rfl (fun a w h => ?_)
  exact FinP.panic ⟨rfl,by rw [wsmF,hs5,Option.bind_some]; exact if_neg (by omega)⟩ h
 intro h1; try simp only [tst_] at h1
 refine GC.skip (?_ : GC _ _ _ _)
 refine GC.rr 1 ?_;refine GL.pure rfl (p_convR (t := 45) (r := v5) (by rw [Tryz.underlying45]; simp) Tryz.underlying3 rfl (cvI (by omega) (by omega))) ?_
 refine GL.rz 1 ?_;refine GC.ret (FinP.b1 2 [0] [0] ?_)
 exact ⟨_,_,_,_,by rw [wsmF,hs5,Option.bind_some]; exact if_pos (by omega),l5,k5,rfl,rfl,rfl⟩
def wgrpF (L : List UInt8) : Option (Grp × List UInt8) :=
  (wsmF L).bind fun e => (wnumF 1 e.2).bind fun c => (manyF (wnumF 1) c.2 c.1.toNat).map fun r => (⟨e.1,r.1⟩,r.2)
theorem zq58_ {X : Prop} (h : X := by (exact fun a w h => ⟨(k + 1),(xs ++ [v21]),(_),(_),(_),(_),(by omega),⟨⟨by simp; omega,by omega,l21,k21⟩,by omega,manyF_next hk.2.2 hs21⟩,h.cut (is := [1,1,1,1]) (js := [0,2,3,4]) ⟨rfl,rfl,rfl,rfl,rfl,trivial⟩ rfl rfl⟩)) : X := h
theorem wgrp_ct (p e_ : Nat) (A : Option Addr) (b : List UInt8) (cp : Nat) (hcp : b.length ≤ cp) (hcp' : cp ≤ 9223372036854775807) (hb : b.length ≤ 10000000000000) : CtP Tryz.prog 111 [.pointer (some ⟨p,0,none⟩)] (leftG p e_ A b cp) [Pers.row Kd.u8 A b]
    (fun u G Q => ∃ (g : Grp) (L' : List UInt8) (A' : Option Addr) (c' : Nat) (B' : Option Addr) (d' : Nat),wgrpF b = some (g,L') ∧ (L'.length ≤ b.length ∧ g.members.length ≤ 255) ∧ L'.length ≤ c' ∧ c' ≤ 9223372036854775807 ∧ g.members.length ≤ d' ∧ d' ≤ 9223372036854775807 ∧ u = .agg #[.int .i64 g.epoch,.slice B' g.members.length d'] ∧ G = leftG p e_ A' L' c' ∧ Q = [Pers.row kI B' g.members,Pers.row Kd.u8 A' L']) (fun v => v = wFt ∧ wgrpF b = none) := by
 have hp1 : (256 : Nat) ^ 1 = 256 := p256_1
 refine CtP.intro Tryz.func111 rfl rfl rfl (fun c hc => ?_)
 refine GC.sr_ ?_;refine GL.step rfl (t_alloc rfl ze_55) (GL.ex fun b_t2 => ?_);refine GL.nr 3 ?_;refine GL.callP rfl Tryz.call75 rfl (is := [1]) (js := [0]) rfl rfl (by exact (wsm_ct _ _ _ b _ hcp hcp' hb).mono (fun _ _ _ h => h) (fun _ h => ⟨h.1,by rw [wgrpF,h.2]; rfl⟩)) (fun v a w he h => FinP.panic he h) (GL.ret ?_)
 rintro _ _ _ ⟨v7,L7,A7,c7,hs7,l7,k7,rfl,rfl,rfl⟩
 obtain ⟨hv7,hw7,hx7⟩ := wsmF_rng hs7
 refine GL.pure rfl (p_build ze_55 of_55 rfl rfl) ?_;refine GL.step rfl (t_alloc rfl ze_55) (GL.ex fun b_t3 => ?_);refine GL.sn_ 0 ?_;refine GL.nl_ ?_;refine GC.seq' ?_;refine GC.rr 3 ?_;refine GL.callP rfl Tryz.call74 rfl (is := [1]) (js := [0]) rfl rfl (by exact (wnum_ct _ _ _ L7 _ 1 (by omega) (by omega) l7 k7 (by omega)).mono (fun _ _ _ h => h) (fun _ h => ⟨h.1,by simp only [wgrpF,hs7,Option.bind_some,h.2,Option.bind_none]⟩)) (fun v a w he h => FinP.panic he h) (GL.ret ?_)
 rintro _ _ _ ⟨v12,L12,A12,c12,hs12,l12,k12,rfl,rfl,rfl⟩
 obtain ⟨hv12,hw12,hx12⟩ := wnumF_rng hs12
 refine GL.nilrow 3 1 ?_;refine GL.pure rfl (p_convR (t := 45) (r := v12) (by rw [Tryz.underlying45]; simp) Tryz.underlying3 rfl (cvI (by omega) (by omega))) ?_
 refine GL.rz 1 ?_;refine GC.block ?_;refine GC.loopK6 (ks := [0,2,3,13]) (is := [3]) (js := [0,1,2]) (fun (k : Nat) (xs : List Int) (U : Value) (L : List UInt8) (Al : Option Addr) (cl : Nat) => (xs.length = k ∧ L.length ≤ b.length ∧ L.length ≤ cl ∧ cl ≤ 9223372036854775807) ∧ (k : Int) ≤ v12 ∧ manyF (wnumF 1) L12 k = some (xs,L)) (fun (k : Nat) (xs : List Int) (U : Value) (L : List UInt8) (Al : Option Addr) (cl : Nat) => [(14,.int .i64 (k : Int))]) (fun (k : Nat) (xs : List Int) (U : Value) (L : List UInt8) (Al : Option Addr) (cl : Nat) => [.cells p [.slice Al L.length cl] e_,.cells b_t3 [.int .i64 v7,U] 55,.row U 3 1 xs.length (xs.map (Value.int .i64))]) (fun (k : Nat) (xs : List Int) (U : Value) (L : List UInt8) (Al : Option Addr) (cl : Nat) => [Pers.row Kd.u8 Al L]) (fun (k : Nat) (xs : List Int) (U : Value) (L : List UInt8) (Al : Option Addr) (cl : Nat) => v12.toNat - k) (0) ([]) (_) (L12) (_) (_) rfl rfl rfl (fun a w h => ⟨⟨⟨rfl,by omega,l12,k12⟩,by omega,rfl⟩,h.cutK (is := [1,1,0,0]) (js := [0,0,1,2]) (ks := [0,2,3,13]) ⟨rfl,trivial⟩ rfl rfl rfl⟩) ?_
 intro k xs U L Al cl hk
 try dsimp only [List.cons_append,List.nil_append] at hk ⊢
 refine GC.rg 1 ?_;refine GC.seq' ?_;refine GC.co ?_ ?_
 ·intro h1; try simp only [tst_] at h1
  refine GC.skip (?_ : GC _ _ _ _)
  refine GC.seq' ?_;refine GC.block ?_;refine GC.regionX (m := 11) (is := [3]) (js := [0,1,2,3]) wide_ rfl rfl rfl (fun _ _ _ hd hp hD => ⟨hd.trans hD,.inr hp⟩) ?_
  refine GX.tk 0 [3] [0,1,2,3] ?_
  refine GX.tk 2 [3] [0,1,2,3] ?_
  refine GX.tk 3 [3] [0,1,2,3] ?_
  refine GX.tk 4 [3] [0,1,2,3] ?_
  refine GX.al [1,5] ?_
  refine GXs.cons (i := 1) rfl rfl (t_mem rfl (m_load (i := 1) rfl rfl ag_53 rfl)) (by rintro a w h; exact h.me [3] [0,1,2,3]) ?_ ?_
  ·refine GX.al [5] ?_
   refine GXs.consP (i := 5) rfl rfl Tryz.call74 rfl (is := [0]) (js := [0]) rfl rfl (by exact (wnum_ct _ _ _ L _ 1 (by omega) (by omega) hk.1.2.2.1 hk.1.2.2.2 (by omega)).mono (fun _ _ _ h => h) (fun _ h => ⟨h.1,by simp only [wgrpF,hs7,hs12,Option.bind_some]; rw [manyF_fail hk.2.2 h.2 (by omega)]; rfl⟩)) (by rintro a w ⟨_,_,_,⟨v21,L21,A21,c21,hs21,l21,k21,rfl,rfl,rfl⟩,h⟩; exact h.me [3] [1,2,3,4]) (GX.ret ?_) GXs.nil
   rintro _ _ _ ⟨v21,L21,A21,c21,hs21,l21,k21,rfl,rfl,rfl⟩
   obtain ⟨hv21,hw21,hx21⟩ := wnumF_rng hs21
   refine GX.tp 6 rfl [3] [1,2,3,4] (i_pure (p_convR (t := 45) (r := v21) (by rw [Tryz.underlying45]; simp) Tryz.underlying3 rfl (cvI (by omega) (by omega)))) ?_
   refine GX.al [7] ?_
   refine GXs.cons (i := 7) rfl rfl (t_buildSlice rfl Tryz.underlying53 sz_3 ze_3 rfl rfl rfl rfl rfl rfl) (by rintro a w ⟨_,h⟩; exact h.me [4] [1,2,3,4]) (GX.ex fun b_t23 => ?_) GXs.nil
   refine GX.al [8] ?_
   refine GXs.cons (i := 8) rfl rfl (t_append (i := 3) (k := 0) rfl el_53 rfl rfl rfl rfl rfl (allOne_mem rfl) (by have := hk.1.1; omega) (fun _ => rfl)) (by rintro a w ⟨_,h⟩; exact h.me [4] [1,2,3,4]) (GX.ex fun v24 => ?_) GXs.nil
   refine GX.shape (i := 3) rfl (fun A_v24 c_v24 e_v24 l_v24 k_v24 => ?_)
   subst e_v24
   refine GX.tk 9 [4] [1,2,3,4] ?_
   refine GX.al [10] ?_
   refine GXs.cons (i := 10) rfl rfl (t_store (i := 2) rfl rfl rfl rfl sz_53 rfl rfl rfl) (by rintro a w h; exact h.me [4] [1,2,3,4]) ?_ GXs.nil
   refine GX.done (by kernel_rfl) (?_ : GC _ _ _ _)
   refine GC.region ?_;refine GL.rowIs (i := 3) (m' := ((xs ++ [v21])).length) (cs' := ((xs ++ [v21])).map (Value.int .i64)) rfl (by first | rfl | (simp; done) | (simp; omega)) (by first | rfl | (simp; done)) rfl ?_
   refine GL.pure rfl (p_add rfl rfl (w64 (by omega) (by omega))) ?_;refine GL.rn 1 ?_;refine GL.nil ?_
   exact zq58_
  refine GXs.consP (i := 5) rfl rfl Tryz.call74 rfl (is := [0]) (js := [0]) rfl rfl (by exact (wnum_ct _ _ _ L _ 1 (by omega) (by omega) hk.1.2.2.1 hk.1.2.2.2 (by omega)).mono (fun _ _ _ h => h) (fun _ h => ⟨h.1,by simp only [wgrpF,hs7,hs12,Option.bind_some]; rw [manyF_fail hk.2.2 h.2 (by omega)]; rfl⟩)) (by rintro a w ⟨_,_,_,⟨v21,L21,A21,c21,hs21,l21,k21,rfl,rfl,rfl⟩,h⟩; exact h.me [3] [1,2,3,4]) (GX.ret ?_) GXs.nil
  rintro _ _ _ ⟨v21,L21,A21,c21,hs21,l21,k21,rfl,rfl,rfl⟩
  obtain ⟨hv21,hw21,hx21⟩ := wnumF_rng hs21
  refine GX.tp 6 rfl [3] [1,2,3,4] (i_pure (p_convR (t := 45) (r := v21) (by rw [Tryz.underlying45]; simp) Tryz.underlying3 rfl (cvI (by omega) (by omega)))) ?_
  refine GX.al [1,7] ?_
  refine GXs.cons (i := 1) rfl rfl (t_mem rfl (m_load (i := 1) rfl rfl ag_53 rfl)) (by rintro a w h; exact h.me [3] [1,2,3,4]) ?_ ?_
  ·refine GX.al [7] ?_
   refine GXs.cons (i := 7) rfl rfl (t_buildSlice rfl Tryz.underlying53 sz_3 ze_3 rfl rfl rfl rfl rfl rfl) (by rintro a w ⟨_,h⟩; exact h.me [4] [1,2,3,4]) (GX.ex fun b_t23 => ?_) GXs.nil
   refine GX.al [8] ?_
   refine GXs.cons (i := 8) rfl rfl (t_append (i := 3) (k := 0) rfl el_53 rfl rfl rfl rfl rfl (allOne_mem rfl) (by have := hk.1.1; omega) (fun _ => rfl)) (by rintro a w ⟨_,h⟩; exact h.me [4] [1,2,3,4]) (GX.ex fun v24 => ?_) GXs.nil
   refine GX.shape (i := 3) rfl (fun A_v24 c_v24 e_v24 l_v24 k_v24 => ?_)
   subst e_v24
   refine GX.tk 9 [4] [1,2,3,4] ?_
   refine GX.al [10] ?_
   refine GXs.cons (i := 10) rfl rfl (t_store (i := 2) rfl rfl rfl rfl sz_53 rfl rfl rfl) (by rintro a w h; exact h.me [4] [1,2,3,4]) ?_ GXs.nil
   refine GX.done (by kernel_rfl) (?_ : GC _ _ _ _)
   refine GC.region ?_;refine GL.rowIs (i := 3) (m' := ((xs ++ [v21])).length) (cs' := ((xs ++ [v21])).map (Value.int .i64)) rfl (by first | rfl | (simp; done) | (simp; omega)) (by first | rfl | (simp; done)) rfl ?_
   refine GL.pure rfl (p_add rfl rfl (w64 (by omega) (by omega))) ?_;refine GL.rn 1 ?_;refine GL.nil ?_
   exact zq58_
  refine GXs.cons (i := 7) rfl rfl (t_buildSlice rfl Tryz.underlying53 sz_3 ze_3 rfl rfl rfl rfl rfl rfl) (by rintro a w ⟨_,h⟩; exact h.me [4] [1,2,3,4]) (GX.ex fun b_t23 => ?_) GXs.nil
  refine GX.al [1] ?_
  refine GXs.cons (i := 1) rfl rfl (t_mem rfl (m_load (i := 2) rfl rfl ag_53 rfl)) (by rintro a w h; exact h.me [4] [1,2,3,4]) ?_ GXs.nil
  refine GX.al [8] ?_
  refine GXs.cons (i := 8) rfl rfl (t_append (i := 3) (k := 0) rfl el_53 rfl rfl rfl rfl rfl (allOne_mem rfl) (by have := hk.1.1; omega) (fun _ => rfl)) (by rintro a w ⟨_,h⟩; exact h.me [4] [1,2,3,4]) (GX.ex fun v24 => ?_) GXs.nil
  refine GX.shape (i := 3) rfl (fun A_v24 c_v24 e_v24 l_v24 k_v24 => ?_)
  subst e_v24
  refine GX.tk 9 [4] [1,2,3,4] ?_
  refine GX.al [10] ?_
  refine GXs.cons (i := 10) rfl rfl (t_store (i := 2) rfl rfl rfl rfl sz_53 rfl rfl rfl) (by rintro a w h; exact h.me [4] [1,2,3,4]) ?_ GXs.nil
  refine GX.done (by kernel_rfl) (?_ : GC _ _ _ _)
  refine GC.region ?_;refine GL.rowIs (i := 3) (m' := ((xs ++ [v21])).length) (cs' := ((xs ++ [v21])).map (Value.int .i64)) rfl (by first | rfl | (simp; done) | (simp; omega)) (by first | rfl | (simp; done)) rfl ?_
  refine GL.pure rfl (p_add rfl rfl (w64 (by omega) (by omega))) ?_;refine GL.rn 1 ?_;refine GL.nil ?_
  exact zq58_
 intro h1; try simp only [tst_] at h1
 refine GC.exit (?_ : GC _ _ _ _)
 refine GC.sr_ ?_;refine GL.shape (i := 2) rfl (fun A_M c_M e_M l_M k_M => ?_)
 subst e_M
 refine GL.freezeI (i := 2) rfl ?_;refine GL.ln_ 1 2 ?_;refine GL.sn_ 2 ?_;refine GL.nl_ ?_;refine GC.ret (FinP.c0 2 55 2 2 [0] [0,1] ?_)
 exact ⟨⟨v7,xs⟩,_,_,_,_,_,by simp only [wgrpF,hs7,hs12,Option.bind_some]; rw [show v12.toNat = k by omega,hk.2.2]; rfl,⟨hk.1.2.1,by have := hk.1.1; show xs.length ≤ 255; omega⟩,hk.1.2.2.1,hk.1.2.2.2,l_M,k_M,rfl,rfl,rfl⟩
def bitN (n k : Int) : Int := IntKind.u8.wrap ((BitVec.ofInt IntKind.u8.bits n &&& BitVec.ofInt IntKind.u8.bits k).toNat : Int)
def wpO (n : Int) (L : List UInt8) : Option (OpD × List UInt8) := if bitN n 1 = 0 then some (zop,L) else (decOp L).map fun o => (o.1,L.drop o.2)
def wpR (n : Int) (L : List UInt8) : Option (Res × List UInt8) := if bitN n 2 = 0 then some (rz,L) else (decRes L).map fun o => (o.1,L.drop o.2)
def wpG (n : Int) (L : List UInt8) : Option (Grp × List UInt8) := if bitN n 4 = 0 then some (zgr,L) else wgrpF L
def wpS (n : Int) (L : List UInt8) : Option (Stt × List UInt8) := if bitN n 8 = 0 then some (zst,L) else (mstF L 0).map fun o => (o.1,L.drop o.2)
def wprtF (L : List UInt8) : Option ((OpD × Res × Grp × Stt) × List UInt8) :=
  (wnumF 1 L).bind fun n => (wpO n.1 n.2).bind fun o => (wpR n.1 o.2).bind fun r => (wpG n.1 r.2).bind fun g => (wpS n.1 g.2).map fun s => ((o.1,r.1,g.1,s.1),s.2)
theorem drop_len {L : List UInt8} {n : Nat} : (L.drop n).length ≤ L.length := by rw [List.length_drop]; omega
abbrev msgT (o : OpD) (r : Res) (g : Grp) (s : Stt) (x : Lie) : List Value := [.int .u8 o.kind,.int .i64 o.at_,.int .i64 o.n,.slice x.a1 o.data.length x.c1,.slice x.a2 o.old.length x.c2,.int .u8 r.code,.slice x.a3 r.data.length x.c3,.int .i64 g.epoch,.slice x.a4 g.members.length x.c4,
  .int .i64 s.num,.int .i64 s.shp.bl,.int .i64 s.shp.sz,.slice x.a5 s.pages.length x.c5,.slice x.a6 s.rows.length x.c6,.int .i64 s.grp.epoch,.slice x.a7 s.grp.members.length x.c7,.slice none 0 0]
abbrev msgU (o : OpD) (r : Res) (g : Grp) (s : Stt) (x : Lie) : List Pers := [Pers.row Kd.u8 x.a1 o.data,Pers.row Kd.u8 x.a2 o.old,Pers.row Kd.u8 x.a3 r.data,Pers.row kI x.a4 g.members,Pers.row kPage x.a5 s.pages,Pers.row kRow x.a6 s.rows,Pers.row kI x.a7 s.grp.members]
end Go.Proofs.YtliacpkblicnhaaGreat
