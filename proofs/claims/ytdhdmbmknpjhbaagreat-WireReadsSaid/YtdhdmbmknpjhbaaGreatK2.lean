/- Texts of this claim, in one: what the law leans on (part 2). -/
import Derived.Test.YtdhdmbmknpjhbaaGreatK1
set_option linter.unusedVariables false
set_option linter.unusedSimpArgs false
set_option maxRecDepth 100000
namespace Go.Proofs.YtdhdmbmknpjhbaaGreat
open Go Go.Sx Go.Proofs
theorem index_ct (q wb p pb pv : Nat) (v : Vol) (A : Option Addr) (l : List Page) (cp : Nat) (hl : l.length ≤ 140737488355328) : Ct Tryz.prog 166 [.slice A l.length cp, .func (.func 179) #[] #[.pointer (some ⟨q, 0, none⟩), .pointer (some ⟨wb, 0, none⟩)]] (capG q wb p (-1) ++ volG p pb pv v) [Pers.row kPage A l]
    (fun u G Q => ∃ r la, (0 ≤ r ↔ laidF v.bl v.sz (-1) l = false) ∧ u = .int .i64 r ∧ G = capG q wb p la ++ volG p pb pv v ∧ Q = []) := by
 refine Ct.intro Tryz.func166 rfl rfl rfl (fun c hc => ?_)
 refine GC.rg 1 ?_;refine GC.seq' ?_;refine GC.rg 3 ?_;refine GC.block ?_;refine GC.imp (fun a w h => (⟨⟨by simp, rfl⟩, h.ct (zs 5) [0]⟩ : (fun (y : Nat × Int) (a : Act) (w : World) => (y.1 ≤ l.length ∧ laidF v.bl v.sz (-1) l = laidF v.bl v.sz y.2 (l.drop y.1)) ∧ St c 19 [(0, .slice A l.length cp), (1, .func (.func 179) #[] #[.pointer (some ⟨q, 0, none⟩), .pointer (some ⟨wb, 0, none⟩)]), (7, .int .i64 (l.length : Int)), (8, .int .i64 (y.1 : Int))] [.cells q [.int .i64 y.2] 3, .cells wb [.pointer (some ⟨p, 0, none⟩)] 177, .cells p [.int .i64 v.bl, .int .i64 v.sz, .slice (some ⟨pb, 0, none⟩) (v.bl * v.sz).toNat (v.bl * v.sz).toNat, .slice (some ⟨pv, 0, none⟩) v.bl.toNat v.bl.toNat, .int .i64 v.last] 217, .cells pb (v.b.map u8v) 5, .cells pv (v.vs.map (Value.int .i64)) 3] [Pers.row kPage A l] a w) (0, -1) a w)) (GC.loop (fun (y : Nat × Int) (a : Act) (w : World) => (y.1 ≤ l.length ∧ laidF v.bl v.sz (-1) l = laidF v.bl v.sz y.2 (l.drop y.1)) ∧ St c 19 [(0, .slice A l.length cp), (1, .func (.func 179) #[] #[.pointer (some ⟨q, 0, none⟩), .pointer (some ⟨wb, 0, none⟩)]), (7, .int .i64 (l.length : Int)), (8, .int .i64 (y.1 : Int))] [.cells q [.int .i64 y.2] 3, .cells wb [.pointer (some ⟨p, 0, none⟩)] 177, .cells p [.int .i64 v.bl, .int .i64 v.sz, .slice (some ⟨pb, 0, none⟩) (v.bl * v.sz).toNat (v.bl * v.sz).toNat, .slice (some ⟨pv, 0, none⟩) v.bl.toNat v.bl.toNat, .int .i64 v.last] 217, .cells pb (v.b.map u8v) 5, .cells pv (v.vs.map (Value.int .i64)) 3] [Pers.row kPage A l] a w) (fun y => l.length - y.1) (0, -1) ?_)
 intro y
 refine GC.and fun hk => ?_
 obtain ⟨k, last⟩ := y
 dsimp only at hk ⊢
 obtain ⟨hk, he⟩ := hk
 refine GC.rg 1 ?_;refine GC.seq' ?_;refine GC.co ?_ ?_
 ·intro h1; try simp only [tst_] at h1
  refine GC.skip (?_ : GC _ _ _ _)
  refine GC.seq' ?_;refine GC.block ?_;refine GC.rg 2 ?_;refine GC.rr 3 ?_;refine GL.step rfl (t_index (i := 0) rfl rfl rfl rfl Tryz.underlying36 sz_59 (by omega) (gt_ok (by omega) (by omega))) (GL.ex fun p_x14 => GL.ex fun r_x14 => GL.and fun ok_x14 => ?_)
  rcases r_x14 with ⟨_, ⟨_, ⟨Ax14_0, cpx14_0⟩⟩⟩
  refine GL.step rfl (t_mem rfl (m_loadPN (i := 0) rfl rfl ag_59 (vs := [_, _, _]) sz_59 ⟨rfl, rfl, rfl, trivial⟩)) ?_;refine GL.step rfl (t_callv rfl Tryz.call179 rfl rfl (is := (zs 5)) (js := []) rfl rfl (by exact laidc_ct _ _ _ _ _ _ _ (gt l (k : Int)) _ _)) (GL.ret ?_)
  rintro _ _ _ ⟨rfl, rfl, rfl⟩
  refine GL.nl_ ?_;refine GC.co ?_ ?_
  ·intro h2; try simp only [tst_] at h2
   refine GC.rg 2 ?_;refine GC.ret (Fin.b1 4 (zs 5) [] ?_)
   exact ⟨_, _, ⟨fun _ => by rw [he]; exact laidF_bad (by omega) (by simpa using h2), fun _ => by omega⟩, rfl, rfl, rfl⟩
  intro h2; try simp only [tst_] at h2
  refine GC.skip (?_ : GC _ _ _ _)
  refine GC.region ?_;refine GL.pure rfl (p_add rfl rfl (w64 (by omega) (by omega))) ?_;refine GL.rn 1 ?_;refine GL.nil ?_
  exact fun a w h => ⟨(k + 1, (gt l (k : Int)).at_), (by simp only; omega), ⟨by simp only; omega, by simp only; rw [he]; exact laidF_ok (by omega) (by simpa using h2)⟩, h.ct (zs 5) [2]⟩
 intro h1; try simp only [tst_] at h1
 refine GC.exit (?_ : GC _ _ _ _)
 refine GC.rg 1 ?_;refine GC.ret (Fin.b1 4 (zs 5) [] ?_)
 exact ⟨_, _, ⟨fun g => by omega, fun g => by rw [he, laidF_end (by omega)] at g; cases g⟩, rfl, rfl, rfl⟩
theorem contains_ct (q wb p pb pv : Nat) (v : Vol) (A : Option Addr) (l : List Page) (cp : Nat) (hl : l.length ≤ 140737488355328) : Ct Tryz.prog 147 [.slice A l.length cp, .func (.func 179) #[] #[.pointer (some ⟨q, 0, none⟩), .pointer (some ⟨wb, 0, none⟩)]] (capG q wb p (-1) ++ volG p pb pv v) [Pers.row kPage A l]
    (fun u G Q => ∃ la, u = .bool (!laidF v.bl v.sz (-1) l) ∧ G = capG q wb p la ++ volG p pb pv v ∧ Q = []) := by
 refine Ct.intro Tryz.func147 rfl rfl rfl (fun c hc => ?_)
 refine GC.rg 1 ?_;refine GC.rr 2 ?_;refine GL.cl Tryz.call166 (zs 5) [0] rfl rfl rfl (by exact index_ct _ _ _ _ _ v _ _ _ hl) ?_
 rintro _ _ _ ⟨r7, la7, hr7, rfl, rfl, rfl⟩
 refine GL.rz 2 ?_;refine GC.ret (Fin.b1 4 (zs 5) [] ?_)
 refine ⟨_, congrArg Value.bool ?_, rfl, rfl⟩
 cases hb : laidF v.bl v.sz (-1) l
 ·exact decide_eq_true (hr7.2 hb)
 exact decide_eq_false (fun g => by have := hr7.1 g; rw [hb] at this; cases this)
theorem laid_ct (p pb pv : Nat) (v : Vol) (A : Option Addr) (l : List Page) (cp : Nat) (hl : l.length ≤ 140737488355328) : Ct Tryz.prog 174 [.pointer (some ⟨p, 0, none⟩), .slice A l.length cp] (volG p pb pv v) [Pers.row kPage A l]
    (fun u G Q => u = .bool (laidF v.bl v.sz (-1) l) ∧ G = volG p pb pv v ∧ Q = []) := by
 refine Ct.intro Tryz.func174 rfl rfl rfl (fun c hc => ?_)
 refine GC.sr_ ?_;refine GL.step rfl (t_box rfl rfl rfl) (GL.ex fun b_t2 => ?_);refine GL.rz 1 ?_;refine GC.sr_ ?_;refine GL.step rfl (t_alloc rfl ze_3) (GL.ex fun b_t5 => ?_);refine GL.so_ 0 ?_;refine GL.nr 1 ?_;refine GL.pure rfl (p_makeFunc rfl rfl) ?_
 refine GL.cl Tryz.call147 (zs 5) [0] rfl rfl rfl (by exact contains_ct _ _ _ _ _ v _ _ _ hl) ?_
 rintro _ _ _ ⟨la8, rfl, rfl, rfl⟩
 refine GL.rz 2 ?_;refine GC.ret (Fin.b1 4 [2, 2, 2] [] ?_)
 exact ⟨by rw [Bool.not_not]; rfl, rfl, rfl⟩
def lastOf (l : List Page) : Nat → Int
  | 0 => -1
  | k + 1 => (gt l (k : Int)).at_
theorem rlaid_ct (bl sz : Int) (A : Option Addr) (l : List Page) (cp : Nat) (hl : l.length ≤ 140737488355328) (hd : ∀ x ∈ l, x.data.length ≤ 140737488355328) : Ct Tryz.prog 67 [shpV bl sz, .slice A l.length cp] [] [Pers.row kPage A l] (fun u G Q => u = .bool (laidF bl sz (-1) l) ∧ G = [] ∧ Q = []) := by
 refine Ct.intro Tryz.func67 rfl rfl rfl (fun c hc => ?_)
 refine GC.sr_ ?_;refine GL.step rfl (t_box rfl rfl rfl) (GL.ex fun b_t2 => ?_);refine GL.rz 1 ?_;refine GC.seq' ?_;refine GC.rg 1 ?_;refine GC.block ?_;refine GC.imp (fun a w h => (⟨⟨by simp, rfl, by simp [lastOf]⟩, h.ct [0] [0]⟩ : (fun (k : Nat) (a : Act) (w : World) => (k ≤ l.length ∧ laidF bl sz (-1) l = laidF bl sz (lastOf l k) (l.drop k) ∧ -1 ≤ lastOf l k) ∧ St c 60 [(1, .slice A l.length cp), (2, .pointer (some ⟨b_t2, 0, none⟩)), (5, .int .i64 (k : Int))] [.cells b_t2 [.int .i64 bl, .int .i64 sz] 35] [Pers.row kPage A l] a w) 0 a w)) (GC.loop (fun (k : Nat) (a : Act) (w : World) => (k ≤ l.length ∧ laidF bl sz (-1) l = laidF bl sz (lastOf l k) (l.drop k) ∧ -1 ≤ lastOf l k) ∧ St c 60 [(1, .slice A l.length cp), (2, .pointer (some ⟨b_t2, 0, none⟩)), (5, .int .i64 (k : Int))] [.cells b_t2 [.int .i64 bl, .int .i64 sz] 35] [Pers.row kPage A l] a w) (fun k => l.length - k) 0 ?_)
 intro k
 refine GC.and fun hk => ?_
 obtain ⟨hk, he, hlast⟩ := hk
 refine GC.seq' ?_;refine GC.rg 4 ?_;refine GC.co ?_ ?_
 ·intro h1; try simp only [tst_] at h1
  first
  | (exfalso; omega)
  |(skip
    refine GC.skip (?_ : GC _ _ _ _)
    refine GC.seq' ?_;refine GC.block ?_;refine GC.rr 2 ?_;refine GL.step rfl (t_index (i := 0) rfl rfl rfl rfl Tryz.underlying36 sz_59 (by omega) (gt_ok (by omega) (by omega))) (GL.ex fun p_x15 => GL.ex fun r_x15 => GL.and fun ok_x15 => ?_)
    rcases r_x15 with ⟨_, ⟨_, ⟨Ax15_0, cpx15_0⟩⟩⟩
    refine GL.step rfl (t_mem rfl (m_loadPN (i := 0) rfl rfl ag_59 (vs := [_, _, _]) sz_59 ⟨rfl, rfl, rfl, trivial⟩)) ?_;refine GL.step rfl (t_alloc rfl ze_59) (GL.ex fun b_t6 => ?_);refine GL.sn_ 0 ?_;refine GL.nl_ ?_
    refine GC.seq' ?_
    rcases k with _ | k
    ·skip
     refine GC.regionQ wide_ (by kernel_rfl) ?_;refine GQ.rn 1 ?_;refine GQ.step rfl (q_mem (m_load (i := 0) rfl rfl ag_3 rfl)) ?_;refine GQ.rn 2 ?_;refine GQ.split (i := 20) rfl (fun h2 => ?_) (fun h2 => ?_)
     ·try simp only [tst_] at h2
      first
      | (exfalso; omega)
      |(skip
        refine GQ.rn 10 ?_
        iterate 9 refine GQ.passU (s := 30) rfl rfl rfl ?_
        refine GQ.rn 20 ?_
        refine GQ.nil (?_ : GC _ _ _ _)
        refine GC.cond_true rfl ?_;refine GC.rg 1 ?_;refine GC.ret (Fin.b1 4 [] [] ?_)
        first | (exact ⟨by rw [he, laidF_end (by omega)]; rfl, rfl, rfl⟩) | (exact ⟨by rw [he, laidF_bad (by omega) (by unfold badP; (try simp only [lastOf] at *); (try simp only [show ∀ x : Nat, ((x + 1 : Nat) : Int) - 1 = x by omega] at *); omega)]; rfl, rfl, rfl⟩))
     try simp only [tst_] at h2
     first
     | (exfalso; omega)
     |(skip
       refine GQ.rn 1 ?_;refine GQ.stepG (s := 20) rfl rfl rfl (q_mem (m_load (i := 0) rfl rfl ag_3 rfl)) ?_;refine GQ.rn 1 ?_;refine GQ.stepG (s := 20) rfl rfl rfl (q_mem (m_load (i := 1) rfl rfl ag_3 rfl)) ?_;refine GQ.rn 3 ?_
       refine GQ.split (i := 27) rfl (fun h3 => ?_) (fun h3 => ?_)
       ·try simp only [tst_] at h3
        first
        | (exfalso; omega)
        |(skip
          refine GQ.rn 3 ?_
          iterate 9 refine GQ.passU (s := 30) rfl rfl rfl ?_
          refine GQ.rn 20 ?_
          refine GQ.nil (?_ : GC _ _ _ _)
          refine GC.cond_true rfl ?_;refine GC.rg 1 ?_;refine GC.ret (Fin.b1 4 [] [] ?_)
          first | (exact ⟨by rw [he, laidF_end (by omega)]; rfl, rfl, rfl⟩) | (exact ⟨by rw [he, laidF_bad (by omega) (by unfold badP; (try simp only [lastOf] at *); (try simp only [show ∀ x : Nat, ((x + 1 : Nat) : Int) - 1 = x by omega] at *); omega)]; rfl, rfl, rfl⟩))
       try simp only [tst_] at h3
       first
       | (exfalso; omega)
       |(skip
         refine GQ.rn 3 ?_;refine GQ.split (i := 30) rfl (fun h4 => ?_) (fun h4 => ?_)
         ·try simp only [tst_] at h4
          first
          | (exfalso; omega)
          |(skip
            refine GQ.rn 1 ?_;refine GQ.stepG (s := 30) rfl rfl rfl (q_mem (m_load (i := 0) rfl rfl ag_3 rfl)) ?_;refine GQ.rn 2 ?_;refine GQ.stepG (s := 30) rfl rfl rfl (q_pure (p_sub rfl rfl (w64 (by omega) (by omega)))) ?_
            exact (by omega : False).elim)
         try simp only [tst_] at h4
         first
         | (exfalso; omega)
         |(skip
           refine GQ.rn 13 ?_;refine GQ.stepG (s := 42) rfl rfl rfl (q_mem (m_load (i := 0) rfl rfl ag_3 rfl)) ?_;refine GQ.rn 3 ?_;refine GQ.split (i := 47) rfl (fun h5 => ?_) (fun h5 => ?_)
           ·try simp only [tst_] at h5
            first
            | (exfalso; omega)
            |(skip
              refine GQ.rn 12 ?_
              refine GQ.nil (?_ : GC _ _ _ _)
              refine GC.cond_true rfl ?_;refine GC.rg 1 ?_;refine GC.ret (Fin.b1 4 [] [] ?_)
              first | (exact ⟨by rw [he, laidF_end (by omega)]; rfl, rfl, rfl⟩) | (exact ⟨by rw [he, laidF_bad (by omega) (by unfold badP; (try simp only [lastOf] at *); (try simp only [show ∀ x : Nat, ((x + 1 : Nat) : Int) - 1 = x by omega] at *); omega)]; rfl, rfl, rfl⟩))
           try simp only [tst_] at h5
           first
           | (exfalso; omega)
           |(skip
             refine GQ.rn 1 ?_;refine GQ.stepG (s := 47) rfl rfl rfl (q_mem (m_load (i := 0) rfl rfl ag_3 rfl)) ?_;refine GQ.rn 3 ?_;refine GQ.split (i := 52) rfl (fun h6 => ?_) (fun h6 => ?_)
             ·try simp only [tst_] at h6
              first
              | (exfalso; omega)
              |(skip
                refine GQ.rn 7 ?_
                refine GQ.nil (?_ : GC _ _ _ _)
                refine GC.cond_true rfl ?_;refine GC.rg 1 ?_;refine GC.ret (Fin.b1 4 [] [] ?_)
                first | (exact ⟨by rw [he, laidF_end (by omega)]; rfl, rfl, rfl⟩) | (exact ⟨by rw [he, laidF_bad (by omega) (by unfold badP; (try simp only [lastOf] at *); (try simp only [show ∀ x : Nat, ((x + 1 : Nat) : Int) - 1 = x by omega] at *); omega)]; rfl, rfl, rfl⟩))
             try simp only [tst_] at h6
             first
             | (exfalso; omega)
             |(skip
               refine GQ.rn 1 ?_;refine GQ.stepG (s := 52) rfl rfl rfl (q_mem (m_load (i := 0) rfl rfl ag_25 rfl)) ?_;refine GQ.rn 2 ?_;refine GQ.stepG (s := 52) rfl rfl rfl (q_mem (m_load (i := 1) rfl rfl ag_3 rfl)) ?_
               refine GQ.rn 2 ?_
               refine GQ.nil (?_ : GC _ _ _ _)
               refine GC.co ?_ ?_
               ·intro h7; try simp only [tst_] at h7
                first
                | (exfalso; omega)
                |(skip
                  refine GC.rg 1 ?_;refine GC.ret (Fin.b1 4 [] [] ?_)
                  first | (exact ⟨by rw [he, laidF_end (by omega)]; rfl, rfl, rfl⟩) | (exact ⟨by rw [he, laidF_bad (by omega) (by unfold badP; (try simp only [lastOf] at *); (try simp only [show ∀ x : Nat, ((x + 1 : Nat) : Int) - 1 = x by omega] at *); omega)]; rfl, rfl, rfl⟩))
               intro h7; try simp only [tst_] at h7
               first
               | (exfalso; omega)
               |(skip
                 refine GC.skip (?_ : GC _ _ _ _)
                 refine GC.region ?_;refine GL.rn 1 ?_;refine GL.pure rfl (p_add rfl rfl (w64 (by omega) (by omega))) ?_;refine GL.rn 1 ?_;refine GL.nil ?_
                 exact fun a w h => ⟨(_ + 1), (by omega), ⟨by omega, by rw [he]; exact laidF_ok (by omega) (by unfold badP; (try simp only [lastOf] at *); (try simp only [show ∀ x : Nat, ((x + 1 : Nat) : Int) - 1 = x by omega] at *); omega), by simp only [lastOf]; omega⟩, h.cut (is := [1]) (js := [2]) ⟨rfl, rfl, rfl, trivial⟩ rfl rfl⟩))))))
    skip
    refine GC.lay (x := .tmp 1) (y := .const (.int .i64 (((k + 1 : Nat) : Int) - 1))) (j := 2) rfl rfl rfl (by omega) (gt_ok (by omega) (by omega)) (fun p_xp r_xp hA_xp ok_xp => ?_)
    rcases r_xp with ⟨_, ⟨_, ⟨Axp_0, cpxp_0⟩⟩⟩
    refine GC.regionQ wide_ (by kernel_rfl) ?_;refine GQ.rn 1 ?_;refine GQ.step rfl (q_mem (m_load (i := 0) rfl rfl ag_3 rfl)) ?_;refine GQ.rn 2 ?_;refine GQ.split (i := 20) rfl (fun h8 => ?_) (fun h8 => ?_)
    ·try simp only [tst_] at h8
     first
     | (exfalso; omega)
     |(skip
       refine GQ.rn 10 ?_
       iterate 9 refine GQ.passU (s := 30) rfl rfl rfl ?_
       refine GQ.rn 20 ?_
       refine GQ.nil (?_ : GC _ _ _ _)
       refine GC.cond_true rfl ?_;refine GC.rg 1 ?_;refine GC.ret (Fin.b1 4 [] [] ?_)
       first | (exact ⟨by rw [he, laidF_end (by omega)]; rfl, rfl, rfl⟩) | (exact ⟨by rw [he, laidF_bad (by omega) (by unfold badP; (try simp only [lastOf] at *); (try simp only [show ∀ x : Nat, ((x + 1 : Nat) : Int) - 1 = x by omega] at *); omega)]; rfl, rfl, rfl⟩))
    try simp only [tst_] at h8
    first
    | (exfalso; omega)
    |(skip
      refine GQ.rn 1 ?_;refine GQ.stepG (s := 20) rfl rfl rfl (q_mem (m_load (i := 0) rfl rfl ag_3 rfl)) ?_;refine GQ.rn 1 ?_;refine GQ.stepG (s := 20) rfl rfl rfl (q_mem (m_load (i := 1) rfl rfl ag_3 rfl)) ?_;refine GQ.rn 3 ?_
      refine GQ.split (i := 27) rfl (fun h9 => ?_) (fun h9 => ?_)
      ·try simp only [tst_] at h9
       first
       | (exfalso; omega)
       |(skip
         refine GQ.rn 3 ?_
         iterate 9 refine GQ.passU (s := 30) rfl rfl rfl ?_
         refine GQ.rn 20 ?_
         refine GQ.nil (?_ : GC _ _ _ _)
         refine GC.cond_true rfl ?_;refine GC.rg 1 ?_;refine GC.ret (Fin.b1 4 [] [] ?_)
         first | (exact ⟨by rw [he, laidF_end (by omega)]; rfl, rfl, rfl⟩) | (exact ⟨by rw [he, laidF_bad (by omega) (by unfold badP; (try simp only [lastOf] at *); (try simp only [show ∀ x : Nat, ((x + 1 : Nat) : Int) - 1 = x by omega] at *); omega)]; rfl, rfl, rfl⟩))
      try simp only [tst_] at h9
      first
      | (exfalso; omega)
      |(skip
        refine GQ.rn 3 ?_;refine GQ.split (i := 30) rfl (fun h10 => ?_) (fun h10 => ?_)
        ·try simp only [tst_] at h10
         first
         | (exfalso; omega)
         |(skip
           refine GQ.rn 1 ?_;refine GQ.stepG (s := 30) rfl rfl rfl (q_mem (m_load (i := 0) rfl rfl ag_3 rfl)) ?_;refine GQ.rn 2 ?_;refine GQ.stepG (s := 30) rfl rfl rfl (q_pure (p_sub rfl rfl (w64 (by omega) (by omega)))) ?_
           refine GQ.stepG (s := 30) rfl rfl rfl (q_pure (p_indexL hA_xp rfl rfl Tryz.underlying36 sz_59 (by omega) (by omega))) ?_;refine GQ.stepG (s := 30) rfl rfl rfl (q_pure (p_fieldAddr' fo_59_0 rfl)) ?_;refine GQ.stepG (s := 30) rfl rfl rfl (q_mem (m_loadP (i := 0) rfl rfl ag_3 rfl)) ?_
           refine GQ.rn 4 ?_;refine GQ.split (i := 42) rfl (fun h11 => ?_) (fun h11 => ?_)
           ·try simp only [tst_] at h11
            first
            | (exfalso; omega)
            |(skip
              refine GQ.rn 17 ?_
              refine GQ.nil (?_ : GC _ _ _ _)
              refine GC.cond_true rfl ?_;refine GC.rg 1 ?_;refine GC.ret (Fin.b1 4 [] [] ?_)
              first | (exact ⟨by rw [he, laidF_end (by omega)]; rfl, rfl, rfl⟩) | (exact ⟨by rw [he, laidF_bad (by omega) (by unfold badP; (try simp only [lastOf] at *); (try simp only [show ∀ x : Nat, ((x + 1 : Nat) : Int) - 1 = x by omega] at *); omega)]; rfl, rfl, rfl⟩))
           try simp only [tst_] at h11
           first
           | (exfalso; omega)
           |(skip
             refine GQ.rn 1 ?_;refine GQ.stepG (s := 42) rfl rfl rfl (q_mem (m_load (i := 0) rfl rfl ag_3 rfl)) ?_;refine GQ.rn 3 ?_;refine GQ.split (i := 47) rfl (fun h12 => ?_) (fun h12 => ?_)
             ·try simp only [tst_] at h12
              first
              | (exfalso; omega)
              |(skip
                refine GQ.rn 12 ?_
                refine GQ.nil (?_ : GC _ _ _ _)
                refine GC.cond_true rfl ?_;refine GC.rg 1 ?_;refine GC.ret (Fin.b1 4 [] [] ?_)
                first | (exact ⟨by rw [he, laidF_end (by omega)]; rfl, rfl, rfl⟩) | (exact ⟨by rw [he, laidF_bad (by omega) (by unfold badP; (try simp only [lastOf] at *); (try simp only [show ∀ x : Nat, ((x + 1 : Nat) : Int) - 1 = x by omega] at *); omega)]; rfl, rfl, rfl⟩))
             try simp only [tst_] at h12
             first
             | (exfalso; omega)
             |(skip
               refine GQ.rn 1 ?_;refine GQ.stepG (s := 47) rfl rfl rfl (q_mem (m_load (i := 0) rfl rfl ag_3 rfl)) ?_;refine GQ.rn 3 ?_;refine GQ.split (i := 52) rfl (fun h13 => ?_) (fun h13 => ?_)
               ·try simp only [tst_] at h13
                first
                | (exfalso; omega)
                |(skip
                  refine GQ.rn 7 ?_
                  refine GQ.nil (?_ : GC _ _ _ _)
                  refine GC.cond_true rfl ?_;refine GC.rg 1 ?_;refine GC.ret (Fin.b1 4 [] [] ?_)
                  first | (exact ⟨by rw [he, laidF_end (by omega)]; rfl, rfl, rfl⟩) | (exact ⟨by rw [he, laidF_bad (by omega) (by unfold badP; (try simp only [lastOf] at *); (try simp only [show ∀ x : Nat, ((x + 1 : Nat) : Int) - 1 = x by omega] at *); omega)]; rfl, rfl, rfl⟩))
               try simp only [tst_] at h13
               first
               | (exfalso; omega)
               |(skip
                 refine GQ.rn 1 ?_;refine GQ.stepG (s := 52) rfl rfl rfl (q_mem (m_load (i := 0) rfl rfl ag_25 rfl)) ?_;refine GQ.rn 2 ?_;refine GQ.stepG (s := 52) rfl rfl rfl (q_mem (m_load (i := 1) rfl rfl ag_3 rfl)) ?_
                 refine GQ.rn 2 ?_
                 refine GQ.nil (?_ : GC _ _ _ _)
                 refine GC.co ?_ ?_
                 ·intro h14; try simp only [tst_] at h14
                  first
                  | (exfalso; omega)
                  |(skip
                    refine GC.rg 1 ?_;refine GC.ret (Fin.b1 4 [] [] ?_)
                    first | (exact ⟨by rw [he, laidF_end (by omega)]; rfl, rfl, rfl⟩) | (exact ⟨by rw [he, laidF_bad (by omega) (by unfold badP; (try simp only [lastOf] at *); (try simp only [show ∀ x : Nat, ((x + 1 : Nat) : Int) - 1 = x by omega] at *); omega)]; rfl, rfl, rfl⟩))
                 intro h14; try simp only [tst_] at h14
                 first
                 | (exfalso; omega)
                 |(skip
                   refine GC.skip (?_ : GC _ _ _ _)
                   refine GC.region ?_;refine GL.rn 1 ?_;refine GL.pure rfl (p_add rfl rfl (w64 (by omega) (by omega))) ?_;refine GL.rn 1 ?_;refine GL.nil ?_
                   exact fun a w h => ⟨(_ + 1), (by omega), ⟨by omega, by rw [he]; exact laidF_ok (by omega) (by unfold badP; (try simp only [lastOf] at *); (try simp only [show ∀ x : Nat, ((x + 1 : Nat) : Int) - 1 = x by omega] at *); omega), by simp only [lastOf]; omega⟩, h.cut (is := [1]) (js := [4]) ⟨rfl, rfl, rfl, trivial⟩ rfl rfl⟩)))))
        try simp only [tst_] at h10
        first
        | (exfalso; omega)
        |(skip
          refine GQ.rn 13 ?_;refine GQ.stepG (s := 42) rfl rfl rfl (q_mem (m_load (i := 0) rfl rfl ag_3 rfl)) ?_;refine GQ.rn 3 ?_;refine GQ.split (i := 47) rfl (fun h15 => ?_) (fun h15 => ?_)
          ·try simp only [tst_] at h15
           first
           | (exfalso; omega)
           |(skip
             refine GQ.rn 12 ?_
             refine GQ.nil (?_ : GC _ _ _ _)
             refine GC.cond_true rfl ?_;refine GC.rg 1 ?_;refine GC.ret (Fin.b1 4 [] [] ?_)
             first | (exact ⟨by rw [he, laidF_end (by omega)]; rfl, rfl, rfl⟩) | (exact ⟨by rw [he, laidF_bad (by omega) (by unfold badP; (try simp only [lastOf] at *); (try simp only [show ∀ x : Nat, ((x + 1 : Nat) : Int) - 1 = x by omega] at *); omega)]; rfl, rfl, rfl⟩))
          try simp only [tst_] at h15
          first
          | (exfalso; omega)
          |(skip
            refine GQ.rn 1 ?_;refine GQ.stepG (s := 47) rfl rfl rfl (q_mem (m_load (i := 0) rfl rfl ag_3 rfl)) ?_;refine GQ.rn 3 ?_;refine GQ.split (i := 52) rfl (fun h16 => ?_) (fun h16 => ?_)
            ·try simp only [tst_] at h16
             first
             | (exfalso; omega)
             |(skip
               refine GQ.rn 7 ?_
               refine GQ.nil (?_ : GC _ _ _ _)
               refine GC.cond_true rfl ?_;refine GC.rg 1 ?_;refine GC.ret (Fin.b1 4 [] [] ?_)
               first | (exact ⟨by rw [he, laidF_end (by omega)]; rfl, rfl, rfl⟩) | (exact ⟨by rw [he, laidF_bad (by omega) (by unfold badP; (try simp only [lastOf] at *); (try simp only [show ∀ x : Nat, ((x + 1 : Nat) : Int) - 1 = x by omega] at *); omega)]; rfl, rfl, rfl⟩))
            try simp only [tst_] at h16
            first
            | (exfalso; omega)
            |(skip
              refine GQ.rn 1 ?_;refine GQ.stepG (s := 52) rfl rfl rfl (q_mem (m_load (i := 0) rfl rfl ag_25 rfl)) ?_;refine GQ.rn 2 ?_;refine GQ.stepG (s := 52) rfl rfl rfl (q_mem (m_load (i := 1) rfl rfl ag_3 rfl)) ?_
              refine GQ.rn 2 ?_
              refine GQ.nil (?_ : GC _ _ _ _)
              refine GC.co ?_ ?_
              ·intro h17; try simp only [tst_] at h17
               first
               | (exfalso; omega)
               |(skip
                 refine GC.rg 1 ?_;refine GC.ret (Fin.b1 4 [] [] ?_)
                 first | (exact ⟨by rw [he, laidF_end (by omega)]; rfl, rfl, rfl⟩) | (exact ⟨by rw [he, laidF_bad (by omega) (by unfold badP; (try simp only [lastOf] at *); (try simp only [show ∀ x : Nat, ((x + 1 : Nat) : Int) - 1 = x by omega] at *); omega)]; rfl, rfl, rfl⟩))
              intro h17; try simp only [tst_] at h17
              first
              | (exfalso; omega)
              |(skip
                refine GC.skip (?_ : GC _ _ _ _)
                refine GC.region ?_;refine GL.rn 1 ?_;refine GL.pure rfl (p_add rfl rfl (w64 (by omega) (by omega))) ?_;refine GL.rn 1 ?_;refine GL.nil ?_
                exact fun a w h => ⟨(_ + 1), (by omega), ⟨by omega, by rw [he]; exact laidF_ok (by omega) (by unfold badP; (try simp only [lastOf] at *); (try simp only [show ∀ x : Nat, ((x + 1 : Nat) : Int) - 1 = x by omega] at *); omega), by simp only [lastOf]; omega⟩, h.cut (is := [1]) (js := [4]) ⟨rfl, rfl, rfl, trivial⟩ rfl rfl⟩)))))))
 intro h1; try simp only [tst_] at h1
 first
 | (exfalso; omega)
 |(skip
   refine GC.exit (?_ : GC _ _ _ _)
   refine GC.rg 1 ?_;refine GC.ret (Fin.b1 4 [] [] ?_)
   first | (exact ⟨by rw [he, laidF_end (by omega)]; rfl, rfl, rfl⟩) | (exact ⟨by rw [he, laidF_bad (by omega) (by unfold badP; (try simp only [lastOf] at *); (try simp only [show ∀ x : Nat, ((x + 1 : Nat) : Int) - 1 = x by omega] at *); omega)]; rfl, rfl, rfl⟩))
def put1 (v : Vol) (p : Page) : Vol := { v with b := laid v.b (p.at_ * v.sz).toNat p.data, vs := laid v.vs p.at_.toNat [p.ver], last := max v.last p.ver }
def putF (v : Vol) : List Page → Vol
  | [] => v
  | p :: r => putF (put1 v p) r
def patchF (v : Vol) (l : List Page) : Int × Vol := if laidF v.bl v.sz (-1) l = true then (0, putF v l) else (50, v)
def pageOk (bl sz : Int) (p : Page) : Prop := 0 ≤ p.at_ ∧ p.at_ < bl ∧ 1 ≤ p.ver ∧ p.ver ≤ 4611686018427387904 ∧ (p.data.length : Int) = sz
theorem laidF_all {bl sz : Int} : ∀ {l : List Page} {last : Int}, laidF bl sz last l = true → -1 ≤ last → ∀ p ∈ l, pageOk bl sz p
  | [], _, _, _, p, hp => by cases hp
  | q :: r, last, h, hl, p, hp => by
    rw [laidF] at h
    split at h
    · cases h
    · rename_i hb
      simp only [badP] at hb
      rcases List.mem_cons.1 hp with rfl | hp
      · simp only [pageOk]; omega
      · exact laidF_all h (by omega) p hp
theorem put1_ok {v : Vol} (h : VolOk v) {p : Page} (hp : pageOk v.bl v.sz p) : VolOk (put1 v p) := by
  obtain ⟨h0, h1, h2, h3, h4⟩ := hp
  have hB := atB h.shp h0 (n := 1) (by omega) (by omega)
  have e1 : (p.at_ + 1) * v.sz = p.at_ * v.sz + v.sz := by rw [Int.add_mul, Int.one_mul]
  have hl := h.lb
  have hv := h.lv
  have hla := h.last
  exact (((h.last' (num := max v.last p.ver) (by omega) (by omega)).setb (o := (p.at_ * v.sz).toNat) (ys := p.data) (by show _ ≤ v.b.length; omega)).setv (o := p.at_.toNat) (k := 1) (num := p.ver) (by show _ ≤ v.vs.length; omega) (by omega) h3)
theorem gt_mem {α : Type} [Inhabited α] {l : List α} {k : Nat} (h : k < l.length) : gt l (k : Int) ∈ l := by
  have := gt_ok (xs := l) (i := (k : Int)) (by omega) (by omega)
  exact List.mem_of_getElem? this
theorem putF_step {v u : Vol} {l : List Page} {k : Nat} (hk : k < l.length) (h : putF v l = putF u (l.drop k)) : putF v l = putF (put1 u (gt l (k : Int))) (l.drop (k + 1)) := by
  rw [h, drop_gt hk]; rfl
theorem patch_ct (p pb pv : Nat) (v : Vol) (A : Option Addr) (l : List Page) (cp : Nat) (hv : VolOk v) (hl : l.length ≤ 140737488355328) : Ct Tryz.prog 163 [.pointer (some ⟨p, 0, none⟩), .slice A l.length cp] (volG p pb pv v) [Pers.row kPage A l]
    (fun u G Q => u = .int .i64 (patchF v l).1 ∧ G = volG p pb pv (patchF v l).2 ∧ Q = []) := by
 refine Ct.intro Tryz.func163 rfl rfl rfl (fun c hc => ?_)
 refine GC.rg 1 ?_;refine GC.seq' ?_;refine GC.rr 1 ?_;refine GL.cl Tryz.call173 [0, 0, 0] [] rfl rfl rfl (by exact made_ct _ _ _ v) ?_
 rintro _ _ _ ⟨rfl, rfl, rfl⟩
 refine GL.rz 1 ?_;refine GC.cond_false rfl ?_
 refine GC.skip (?_ : GC _ _ _ _)
 refine GC.seq' ?_;refine GC.rr 2 ?_;refine GL.cl Tryz.call174 [0, 0, 0] [0] rfl rfl rfl (by exact laid_ct _ _ _ v _ _ _ hl) ?_
 rintro _ _ _ ⟨rfl, rfl, rfl⟩
 refine GL.rz 1 ?_;refine GC.co ?_ ?_
 ·intro h1; try simp only [tst_] at h1
  refine GC.rg 1 ?_;refine GC.ret (Fin.b1 4 [0, 0, 0] [] ?_)
  have e : patchF v l = (50, v) := by simp [patchF, h1]
  rw [e]; exact ⟨rfl, rfl, rfl⟩
 intro h1; try simp only [tst_] at h1
 refine GC.skip (?_ : GC _ _ _ _)
 refine GC.seq' ?_;refine GC.sr_ ?_
 have hall := laidF_all h1 (by omega)
 refine GL.rz 3 ?_;refine GC.block ?_;refine GC.imp (fun a w h => (⟨⟨by simp, rfl, hv, rfl, rfl⟩, h.ct [0, 0, 0] [0]⟩ : (fun (y : Nat × Vol) (a : Act) (w : World) => (y.1 ≤ l.length ∧ putF v l = putF y.2 (l.drop y.1) ∧ VolOk y.2 ∧ y.2.bl = v.bl ∧ y.2.sz = v.sz) ∧ St c 44 [(0, .pointer (some ⟨p, 0, none⟩)), (14, .slice A l.length cp), (15, .int .i64 (l.length : Int)), (16, .int .i64 (y.1 : Int))] [.cells p [.int .i64 y.2.bl, .int .i64 y.2.sz, .slice (some ⟨pb, 0, none⟩) (y.2.bl * y.2.sz).toNat (y.2.bl * y.2.sz).toNat, .slice (some ⟨pv, 0, none⟩) y.2.bl.toNat y.2.bl.toNat, .int .i64 y.2.last] 217, .cells pb (y.2.b.map u8v) 5, .cells pv (y.2.vs.map (Value.int .i64)) 3] [Pers.row kPage A l] a w) (0, v) a w)) (GC.loop (fun (y : Nat × Vol) (a : Act) (w : World) => (y.1 ≤ l.length ∧ putF v l = putF y.2 (l.drop y.1) ∧ VolOk y.2 ∧ y.2.bl = v.bl ∧ y.2.sz = v.sz) ∧ St c 44 [(0, .pointer (some ⟨p, 0, none⟩)), (14, .slice A l.length cp), (15, .int .i64 (l.length : Int)), (16, .int .i64 (y.1 : Int))] [.cells p [.int .i64 y.2.bl, .int .i64 y.2.sz, .slice (some ⟨pb, 0, none⟩) (y.2.bl * y.2.sz).toNat (y.2.bl * y.2.sz).toNat, .slice (some ⟨pv, 0, none⟩) y.2.bl.toNat y.2.bl.toNat, .int .i64 y.2.last] 217, .cells pb (y.2.b.map u8v) 5, .cells pv (y.2.vs.map (Value.int .i64)) 3] [Pers.row kPage A l] a w) (fun y => l.length - y.1) (0, v) ?_)
 intro y
 refine GC.and fun hk => ?_
 obtain ⟨k, u⟩ := y
 dsimp only at hk ⊢
 obtain ⟨hk, hput, hu, hbl, hsz⟩ := hk
 refine GC.rg 1 ?_;refine GC.seq' ?_;refine GC.co ?_ ?_
 ·intro h2; try simp only [tst_] at h2
  refine GC.skip (?_ : GC _ _ _ _)
  refine GC.seq' ?_;refine GC.block ?_;refine GC.sr_ ?_
  have hp := hall _ (gt_mem (l := l) (k := k) (by omega))
  rw [← hbl, ← hsz] at hp
  have hp2 := hp
  obtain ⟨q0, q1, q2, q3, q4⟩ := hp
  have hB := atB hu.shp q0 (n := 1) (by omega) (by omega)
  have e1 : ((gt l (k : Int)).at_ + 1) * u.sz = (gt l (k : Int)).at_ * u.sz + u.sz := by rw [Int.add_mul, Int.one_mul]
  have hlb := hu.lb
  have hsh := hu.shp
  simp only [shapeOk] at hsh
  have hv2 := hu.setb (o := ((gt l (k : Int)).at_ * u.sz).toNat) (ys := (gt l (k : Int)).data) (by omega)
  refine GL.step rfl (t_index (i := 0) rfl rfl rfl rfl Tryz.underlying36 sz_59 (by (first | omega | (rw [seg_length (by omega)]; omega) | (dsimp only; rw [seg_length (by omega)]; omega) | (dsimp only; omega))) (gt_ok (by (first | omega | (rw [seg_length (by omega)]; omega) | (dsimp only; rw [seg_length (by omega)]; omega) | (dsimp only; omega))) (by (first | omega | (rw [seg_length (by omega)]; omega) | (dsimp only; rw [seg_length (by omega)]; omega) | (dsimp only; omega))))) (GL.ex fun p_x18 => GL.ex fun r_x18 => GL.and fun ok_x18 => ?_)
  rcases r_x18 with ⟨_, ⟨_, ⟨Ax18_0, cpx18_0⟩⟩⟩
  refine GL.step rfl (t_mem rfl (m_loadPN (i := 0) rfl rfl ag_59 (vs := [_, _, _]) sz_59 ⟨rfl, rfl, rfl, trivial⟩)) ?_;refine GL.step rfl (t_alloc rfl ze_59) (GL.ex fun b_t6 => ?_);refine GL.sn_ 0 ?_;refine GL.nl_ ?_;refine GC.seq' ?_
  refine GC.regionM (m := 7) (M := fun a w => St c 44 [(0, .pointer (some ⟨p, 0, none⟩)), (6, .pointer (some ⟨b_t6, 0, none⟩)), (14, .slice A l.length cp), (15, .int .i64 (l.length : Int)), (16, .int .i64 (k : Int))] [.cells p [.int .i64 u.bl, .int .i64 u.sz, .slice (some ⟨pb, 0, none⟩) (u.bl * u.sz).toNat (u.bl * u.sz).toNat, .slice (some ⟨pv, 0, none⟩) u.bl.toNat u.bl.toNat, .int .i64 u.last] 217, .cells pb ((laid u.b ((gt l (k : Int)).at_ * u.sz).toNat (gt l (k : Int)).data).map u8v) 5, .cells pv (u.vs.map (Value.int .i64)) 3, .cells b_t6 [.int .i64 (gt l (k : Int)).at_, .int .i64 (gt l (k : Int)).ver, .slice Ax18_0 (gt l (k : Int)).data.length cpx18_0] 59] [Pers.row kPage A l] a w) (is := [0, 0, 1]) (js := [0, 1, 2]) wide_ rfl rfl rfl ?_ ?_
  ·refine GA.tk 0 [0, 0, 1] [0, 1, 2] ?_;refine GA.tk 1 [0, 0, 1] [0, 1, 2] ?_;refine GA.tp 2 rfl [0, 0, 1] [0, 1, 2] (i_mem (m_load (i := 0) rfl rfl ag_3 rfl)) ?_;refine GA.tk 4 [0, 0, 1] [0, 1, 2] ?_;refine GA.tp 5 rfl [0, 0, 1] [0, 1, 2] (i_mem (m_load (i := 0) rfl rfl ag_25 rfl)) ?_
   refine GA.al [3] ?_
   refine GAs.cons (i := 3) rfl rfl (t_call rfl Tryz.call175 rfl (is := [1, 1, 1]) (js := []) rfl rfl (by exact at_ct _ _ _ u (gt l (k : Int)).at_ 1 hu (by omega) (by omega) (by omega))) (by rintro a w ⟨_, _, _, ⟨rfl, rfl, rfl⟩, h⟩; exact h.me [3, 0, 1] [0, 1, 2]) (GA.ret ?_) GAs.nil
   rintro _ _ _ ⟨rfl, rfl, rfl⟩
   refine GA.al [6] ?_
   refine GAs.cons (i := 6) rfl rfl (t_copyB (i := 1) (k := 1) rfl rfl rfl rfl rfl Tryz.underlying25 sz_5 (by (first | omega | (rw [seg_length (by omega)]; omega) | (dsimp only; rw [seg_length (by omega)]; omega) | (dsimp only; omega))) (by simp; (first | omega | (rw [seg_length (by omega)]; omega) | (dsimp only; rw [seg_length (by omega)]; omega) | (dsimp only; omega))) (laid_map _ _ _ _).symm rfl) (by rintro a w h; exact h.me [3, 0, 1] [0, 1, 2]) ?_ GAs.nil
   exact GA.done (by kernel_rfl) (fun a w h => h.ct [0, 0, 0, 0] [2])
  refine (?_ : GC _ _ _ _)
  refine GC.rr 2 ?_;refine GL.ld_ 3 ?_;refine GL.rn 1 ?_;refine GL.ld_ 3 ?_;refine GL.cl Tryz.call176 [0, 0, 0] [] rfl rfl rfl (by exact stamp_ct _ _ _ _ (gt l (k : Int)).at_ 1 (gt l (k : Int)).ver hv2 (by omega) (by omega) (by show _ ≤ u.bl; omega)) ?_
  rintro _ _ _ ⟨rfl, rfl, rfl⟩
  refine GL.nl_ ?_;refine GC.regionM (m := 11) (M := fun a w => St c 44 [(0, .pointer (some ⟨p, 0, none⟩)), (14, .slice A l.length cp), (15, .int .i64 (l.length : Int)), (16, .int .i64 (k : Int))] [.cells p [.int .i64 u.bl, .int .i64 u.sz, .slice (some ⟨pb, 0, none⟩) (u.bl * u.sz).toNat (u.bl * u.sz).toNat, .slice (some ⟨pv, 0, none⟩) u.bl.toNat u.bl.toNat, .int .i64 (max u.last (gt l (k : Int)).ver)] 217, .cells pb ((laid u.b ((gt l (k : Int)).at_ * u.sz).toNat (gt l (k : Int)).data).map u8v) 5, .cells pv ((laid u.vs (gt l (k : Int)).at_.toNat [(gt l (k : Int)).ver]).map (Value.int .i64)) 3] [Pers.row kPage A l] a w) (is := [1, 1, 1]) (js := [0]) wide_ rfl rfl rfl ?_ ?_
  ·refine GA.tk 0 [1, 1, 1] [0] ?_;refine GA.tk 1 [1, 1, 1] [0] ?_;refine GA.tk 2 [1, 1, 1] [0] ?_;refine GA.tk 3 [1, 1, 1] [0] ?_;refine GA.tk 5 [1, 1, 1] [0] ?_;refine GA.tp 6 rfl [1, 1, 1] [0] (i_mem (m_load (i := 2) rfl rfl ag_3 rfl)) ?_
   refine GA.al [4] ?_
   refine GAs.cons (i := 4) rfl rfl (t_mem rfl (m_load (i := 0) rfl rfl ag_3 rfl)) (by rintro a w h; exact h.me [1, 1, 1] [0]) ?_ GAs.nil
   refine GA.tp 7 rfl [1, 1, 1] [0] (i_pure (p_max2 rfl rfl)) ?_;refine GA.tk 8 [1, 1, 1] [0] ?_;refine GA.tk 9 [1, 1, 1] [0] ?_;refine GA.al [10] ?_
   refine GAs.cons (i := 10) rfl rfl (t_store (i := 0) rfl rfl rfl rfl sz_3 rfl rfl rfl) (by rintro a w h; exact h.me [1, 1, 1] [0]) ?_ GAs.nil
   exact GA.done (by kernel_rfl) (fun a w h => h.ct [0, 0, 0] [0])
  refine (?_ : GC _ _ _ _)
  refine GC.region ?_;refine GL.pure rfl (p_add rfl rfl (w64 (by (first | omega | (rw [seg_length (by omega)]; omega) | (dsimp only; rw [seg_length (by omega)]; omega) | (dsimp only; omega))) (by (first | omega | (rw [seg_length (by omega)]; omega) | (dsimp only; rw [seg_length (by omega)]; omega) | (dsimp only; omega))))) ?_
  refine GL.rn 1 ?_;refine GL.nil ?_
  exact fun a w h => ⟨(k + 1, put1 u (gt l (k : Int))), (by simp only; omega), ⟨by simp only; omega, putF_step (by omega) hput, put1_ok hu hp2, hbl, hsz⟩, h.ct [0, 0, 0] [0]⟩
 intro h2; try simp only [tst_] at h2
 refine GC.exit (?_ : GC _ _ _ _)
 refine GC.rg 1 ?_;refine GC.ret (Fin.b1 4 [0, 0, 0] [] ?_)
 have e : patchF v l = (0, u) := by rw [List.drop_of_length_le (by omega)] at hput; simp only [patchF, h1, if_true]; rw [hput]; rfl
 rw [e]; exact ⟨rfl, rfl, rfl⟩
def loadV (bl sz : Int) (l : List Page) : Vol := putF (newV bl sz) l
theorem patch_yes {bl sz : Int} {l : List Page} (hl : laidF bl sz (-1) l = true) : patchF (newV bl sz) l = (0, loadV bl sz l) := by
  unfold patchF; rw [if_pos (show laidF (newV bl sz).bl (newV bl sz).sz (-1) l = true from hl)]; rfl
theorem patch_no {v : Vol} {l : List Page} (hl : laidF v.bl v.sz (-1) l = false) : patchF v l = (50, v) := by
  unfold patchF; rw [if_neg (by rw [hl]; simp)]
theorem patch_eq (p pb pv : Nat) (v : Vol) (A : Option Addr) (l : List Page) (cp : Nat) (hv : VolOk v) (hl : l.length ≤ 140737488355328) (e : Int) (v' : Vol) (h : patchF v l = (e, v')) : Ct Tryz.prog 163 [.pointer (some ⟨p, 0, none⟩), .slice A l.length cp] (volG p pb pv v) [Pers.row kPage A l]
    (fun u G Q => u = .int .i64 e ∧ G = volG p pb pv v' ∧ Q = []) := by
  have := patch_ct p pb pv v A l cp hv hl
  rw [h] at this; exact this
theorem load_bad (bl sz : Int) (A : Option Addr) (l : List Page) (cp : Nat) (h : ¬ shapeOk bl sz) : Ct Tryz.prog 145 [shpV bl sz, .slice A l.length cp] [] [Pers.row kPage A l] (fun v G Q => v = .tuple #[.pointer none, .int .i64 40] ∧ G = [] ∧ Q = []) := by
 refine Ct.intro Tryz.func145 rfl rfl rfl (fun c hc => ?_)
 refine GC.sr_ ?_;refine GL.step rfl (t_box rfl rfl rfl) (GL.ex fun b_t2 => ?_);refine GL.rz 2 ?_;refine GC.sr_ ?_;refine GL.ln_ 0 2 ?_;refine GL.cl Tryz.call162 [] [] rfl rfl rfl (by exact new_bad _ _ h) ?_
 rintro _ _ _ ⟨rfl, rfl, rfl⟩
 refine GL.rz 5 ?_;refine GC.seq' ?_;refine GC.rg 2 ?_;refine GC.cond_false rfl ?_
 refine GC.skip (?_ : GC _ _ _ _)
 refine GC.seq' ?_;refine GC.rg 2 ?_;refine GC.cond_true rfl ?_;refine GC.rg 3 ?_;refine GC.ret (Fin.b2 4 5 [] [] ?_)
 exact ⟨rfl, rfl, rfl⟩
theorem load_no (bl sz : Int) (A : Option Addr) (l : List Page) (cp : Nat) (h : shapeOk bl sz) (hl : l.length ≤ 140737488355328) (hn : laidF bl sz (-1) l = false) : Ct Tryz.prog 145 [shpV bl sz, .slice A l.length cp] [] [Pers.row kPage A l] (fun v G Q => v = .tuple #[.pointer none, .int .i64 50] ∧ G = [] ∧ Q = []) := by
 refine Ct.intro Tryz.func145 rfl rfl rfl (fun c hc => ?_)
 refine GC.sr_ ?_;refine GL.step rfl (t_box rfl rfl rfl) (GL.ex fun b_t2 => ?_);refine GL.rz 2 ?_;refine GC.sr_ ?_;refine GL.ln_ 0 2 ?_;refine GL.cl Tryz.call162 [] [] rfl rfl rfl (by exact new_ok _ _ h) ?_
 rintro _ _ _ ⟨p10, pb10, pv10, rfl, rfl, rfl⟩
 refine GL.rz 5 ?_;refine GC.seq' ?_;refine GC.rg 2 ?_;refine GC.cond_true rfl ?_;refine GC.region ?_;refine GL.rn 2 ?_;refine GL.cl Tryz.call163 [0, 0, 0] [0] rfl rfl rfl (by exact patch_eq _ _ _ (newV bl sz) _ _ _ (newV_ok h) hl _ _ (patch_no hn)) ?_
 rintro _ _ _ ⟨rfl, rfl, rfl⟩
 refine GL.rn 1 ?_
 refine GL.nil (?_ : GC _ _ _ _)
 refine GC.seq' ?_;refine GC.rg 2 ?_;refine GC.cond_true rfl ?_;refine GC.rg 3 ?_;refine GC.ret (Fin.b2 4 5 [] [] ?_)
 exact ⟨rfl, rfl, rfl⟩
theorem load_ok (bl sz : Int) (A : Option Addr) (l : List Page) (cp : Nat) (h : shapeOk bl sz) (hl : l.length ≤ 140737488355328) (hn : laidF bl sz (-1) l = true) : Ct Tryz.prog 145 [shpV bl sz, .slice A l.length cp] [] [Pers.row kPage A l] (fun v G Q => ∃ p pb pv, v = .tuple #[.pointer (some ⟨p, 0, none⟩), .int .i64 0] ∧ G = volG p pb pv (loadV bl sz l) ∧ Q = []) := by
 refine Ct.intro Tryz.func145 rfl rfl rfl (fun c hc => ?_)
 refine GC.sr_ ?_;refine GL.step rfl (t_box rfl rfl rfl) (GL.ex fun b_t2 => ?_);refine GL.rz 2 ?_;refine GC.sr_ ?_;refine GL.ln_ 0 2 ?_;refine GL.cl Tryz.call162 [] [] rfl rfl rfl (by exact new_ok _ _ h) ?_
 rintro _ _ _ ⟨p10, pb10, pv10, rfl, rfl, rfl⟩
 refine GL.rz 5 ?_;refine GC.seq' ?_;refine GC.rg 2 ?_;refine GC.cond_true rfl ?_;refine GC.region ?_;refine GL.rn 2 ?_;refine GL.cl Tryz.call163 [0, 0, 0] [0] rfl rfl rfl (by exact patch_eq _ _ _ (newV bl sz) _ _ _ (newV_ok h) hl _ _ (patch_yes hn)) ?_
 rintro _ _ _ ⟨rfl, rfl, rfl⟩
 refine GL.rn 1 ?_
 refine GL.nil (?_ : GC _ _ _ _)
 refine GC.seq' ?_;refine GC.rg 2 ?_;refine GC.cond_false rfl ?_
 refine GC.skip (?_ : GC _ _ _ _)
 refine GC.rg 3 ?_;refine GC.ret (Fin.b2 4 5 [0, 0, 0] [] ?_)
 exact ⟨_, _, _, rfl, rfl, rfl⟩
end Go.Proofs.YtdhdmbmknpjhbaaGreat
namespace Go.Sx
open Go
abbrev w32 (x : BitVec 32) : Value := .int .u32 (x.toNat : Int)
theorem wrap32 (x : BitVec 32) : IntKind.u32.wrap (x.toNat : Int) = (x.toNat : Int) := by
  have := x.isLt
  simp [IntKind.wrap, IntKind.bits, IntKind.signed]
  omega
theorem ofInt32 (x : BitVec 32) : BitVec.ofInt 32 (x.toNat : Int) = x := by
  apply BitVec.eq_of_toNat_eq
  have := x.isLt
  rw [BitVec.toNat_ofInt]
  omega
theorem xor32 (a b : BitVec 32) : IntKind.u32.wrap ((BitVec.ofInt IntKind.u32.bits (a.toNat : Int) ^^^ BitVec.ofInt IntKind.u32.bits (b.toNat : Int)).toNat : Int) = ((a ^^^ b).toNat : Int) := by
  show IntKind.u32.wrap ((BitVec.ofInt 32 (a.toNat : Int) ^^^ BitVec.ofInt 32 (b.toNat : Int)).toNat : Int) = _
  rw [ofInt32, ofInt32, wrap32]
theorem and32 (a b : BitVec 32) : IntKind.u32.wrap ((BitVec.ofInt IntKind.u32.bits (a.toNat : Int) &&& BitVec.ofInt IntKind.u32.bits (b.toNat : Int)).toNat : Int) = ((a &&& b).toNat : Int) := by
  show IntKind.u32.wrap ((BitVec.ofInt 32 (a.toNat : Int) &&& BitVec.ofInt 32 (b.toNat : Int)).toNat : Int) = _
  rw [ofInt32, ofInt32, wrap32]
theorem com32 (a : BitVec 32) : IntKind.u32.wrap ((BitVec.ofInt IntKind.u32.bits IntKind.u32.max ^^^ BitVec.ofInt IntKind.u32.bits (a.toNat : Int)).toNat : Int) = ((~~~ a).toNat : Int) := by
  show IntKind.u32.wrap ((BitVec.ofInt 32 IntKind.u32.max ^^^ BitVec.ofInt 32 (a.toNat : Int)).toNat : Int) = _
  rw [ofInt32, show BitVec.ofInt 32 IntKind.u32.max = BitVec.allOnes 32 by decide, BitVec.allOnes_xor, wrap32]
end Go.Sx
namespace Go.Sx
open Go
section
variable {P : Program} {c : Cx} {n : Nat} {env : List (Nat × Value)} {d : Nat} {ty : TypeId} {pos : String} {aft : Array Edge} {g : Option (Nat × Bool)} {x y : Operand} {t u : TypeId}
theorem p_xor32 {a b : BitVec 32} (hx : ev env x = some (w32 a)) (hy : ev env y = some (w32 b)) : Pv P n env ⟨some d, .binOp .xor t x y u, ty, pos, aft, g⟩ (w32 (a ^^^ b)) := by
  have := p_xor (P := P) (n := n) (d := d) (ty := ty) (pos := pos) (aft := aft) (g := g) (t := t) (u := u) hx hy
  rw [xor32] at this
  exact this
theorem p_and32 {a b : BitVec 32} (hx : ev env x = some (w32 a)) (hy : ev env y = some (w32 b)) : Pv P n env ⟨some d, .binOp .and t x y u, ty, pos, aft, g⟩ (w32 (a &&& b)) := by
  have := p_and (P := P) (n := n) (d := d) (ty := ty) (pos := pos) (aft := aft) (g := g) (t := t) (u := u) hx hy
  rw [and32] at this
  exact this
theorem p_shr32 {a : BitVec 32} {yk : IntKind} (k : Nat) (hk : k ≤ 32) (hx : ev env x = some (w32 a)) (hy : ev env y = some (.int yk (k : Int))) : Pv P n env ⟨some d, .binOp .shr t x y u, ty, pos, aft, g⟩ (w32 (a >>> k)) := by
  have := p_shr (P := P) (n := n) (d := d) (ty := ty) (pos := pos) (aft := aft) (g := g) (t := t) (u := u) hx hy (by omega)
  have e : (a.toNat : Int).fdiv (2 ^ (min ((k : Int)).toNat IntKind.u32.bits)) = ((a >>> k).toNat : Int) := by
    have h1 : min ((k : Int)).toNat IntKind.u32.bits = k := by show min k 32 = k; omega
    rw [h1, Int.fdiv_eq_ediv_of_nonneg _ (by exact Int.pow_nonneg (by decide)), BitVec.toNat_ushiftRight, Nat.shiftRight_eq_div_pow]
    simp
  rw [e] at this
  exact this
theorem p_com32 {a : BitVec 32} (hx : ev env x = some (w32 a)) : Pv P n env ⟨some d, .unOp .xor t x, ty, pos, aft, g⟩ (w32 (~~~ a)) := fun act w he => by
  have e := com32 a
  simp only [execOp, he.eval hx, Op.unary, Op.intBits, Sem.run_bind, Sem.run_pure, Result.andThen_ok]
  rw [if_neg (show ¬ IntKind.u32.signed = true by decide)]
  exact congrArg (fun z => Result.ok (Next.value (Value.int .u32 z)) w) e
theorem p_conv8 {b : UInt8} (ht : P.underlying t ≠ none) (hu : P.underlying u = some (.int .u32)) (hx : ev env x = some (.int .u8 (b.toNat : Int))) : Pv P n env ⟨some d, .convert t u x, ty, pos, aft, g⟩ (w32 (b.toBitVec.zeroExtend 32)) := by
  have := p_conv (P := P) (n := n) (d := d) (ty := ty) (pos := pos) (aft := aft) (g := g) (t := t) (u := u) ht hu hx
  have e : IntKind.u32.wrap (b.toNat : Int) = ((b.toBitVec.zeroExtend 32).toNat : Int) := by
    have hb := b.toNat_lt
    have h2 : (b.toBitVec.zeroExtend 32).toNat = b.toNat := by
      simp
    rw [← wrap32, h2]
  rw [e] at this
  exact this
theorem p_half32 {a : BitVec 32} (hx : ev env x = some (w32 a)) (hy : ev env y = some (.int .u32 2)) : Pv P n env ⟨some d, .binOp .quo t x y u, ty, pos, aft, g⟩ (w32 (a >>> 1)) :=
  p_quo hx hy (by decide) (by
    have e : (a.toNat : Int).tdiv 2 = ((a >>> 1).toNat : Int) := by
      rw [BitVec.toNat_ushiftRight, Nat.shiftRight_eq_div_pow, Int.tdiv_eq_ediv_of_nonneg (by omega)]
      simp
    rw [e, wrap32])
theorem odd32 (a : BitVec 32) : ((a.toNat : Int).tmod 2 = 1) ↔ a.getLsbD 0 = true := by
  rw [Int.tmod_eq_emod_of_nonneg (by omega), ← BitVec.testBit_toNat, Nat.testBit_zero, decide_eq_true_eq]
  omega
theorem p_buildA {len sz : Nat} {e : TypeId} {ps : List (Nat × Operand)} {z l : List Value} {parts : List (Nat × Value)} (ht : P.underlying t = some (.array len e)) (hs : sizeB P e = some sz) (hz : zeroL P t = some z) (hp : evP env ps = some parts) (hf : fillF (fun i => some (i * sz, sz)) z parts = some l) :
    Pv P n env ⟨some d, .build t ps.toArray, ty, pos, aft, g⟩ (.agg l.toArray) := fun a w he => by
  have hpm : (ps.toArray.map fun (p : Nat × Operand) => (p.1, a.eval p.2)) = parts.toArray := by rw [List.map_toArray, he.evPs hp]
  obtain ⟨zv, hzv, hzz⟩ := Option.map_eq_some_iff.1 hz
  have hcells : zv.cells = z.toArray := by rw [← hzz, ← vcells_eq]
  have hfill := fill_fillF (fun i => some (i * sz, sz)) parts z l hf
  simp only [execOp, hpm, Instr.build, Sem.run_bind, run_zeroB hzv, Result.andThen_ok, run_underlying ht, run_sizeB hs, hcells, hfill, Sem.run_pure]
theorem p_indexV {len sz : Nat} {e : TypeId} {k : IntKind} {m : Int} {l : List Value} {v : Value} (hx : ev env x = some (.agg l.toArray)) (hy : ev env y = some (.int k m)) (ht : P.underlying t = some (.array len e)) (hs : sizeB P e = some sz) (hg : aggB P e = some false) (h0 : 0 ≤ m) (h1 : m < len) (hv : nth l (m.toNat * sz) = some v) :
    Pv P n env ⟨some d, .index t x y, ty, pos, aft, g⟩ v := fun a w he => by
  simp only [execOp, he.eval hx, he.eval hy, Instr.index, asIntOf, Sem.run_bind, Sem.run_pure, Result.andThen_ok, run_underlying ht, if_pos (show 0 ≤ m ∧ m < (len : Int) from ⟨h0, h1⟩), run_sizeB hs, part_one hg hv]
end
end Go.Sx
namespace Go.Sx
open Go
def kept (env : List (Nat × Value)) : List Nat → Option (List (Nat × Value))
  | [] => some []
  | i :: is => match look env i, kept env is with
    | some v, some r => some ((i, v) :: r)
    | _, _ => none
theorem kept_sub {env : List (Nat × Value)} : ∀ {is : List Nat} {e : List (Nat × Value)}, kept env is = some e → sub env e
  | [], e, h => by simp only [kept, Option.some.injEq] at h; subst h; trivial
  | i :: is, e, h => by
    simp only [kept] at h
    split at h
    · rename_i v r h1 h2
      simp only [Option.some.injEq] at h
      subst h
      exact ⟨h1, kept_sub h2⟩
    · cases h
theorem sub_app {env : List (Nat × Value)} : ∀ {a b : List (Nat × Value)}, sub env a → sub env b → sub env (a ++ b)
  | [], b, _, h => h
  | (i, v) :: r, b, ⟨h1, h2⟩, h => ⟨h1, sub_app h2 h⟩
end Go.Sx
namespace Go.Sx
open Go
section
variable {P : Program} {c : Cx} {n : Nat} {env env' envK E : List (Nat × Value)} {G G' Gr GK : List Own} {Q Q' QK : List Pers} {a : Act} {w : World}
theorem St.cutK {is js ks : List Nat} (h : St c n env G Q a w) (hs : Sx.sub env E) (hk : kept env ks = some envK) (hsel : sel G is = some (G', Gr)) (hq : pickQ Q js = some Q') : St c n (E ++ envK) G' Q' a w :=
  h.cut (sub_app hs (kept_sub hk)) hsel hq
theorem GC.regionC {R : Exit → Asr} {id m : Nat} {l : List Oper} {is js : List Nat} {GI : List Own} {QI : List Pers} (hm : P.follows .mixedOrders = true) (hsz : l.length = m) (hsel : sel G is = some (GI, Gr)) (hq : pickQ Q js = some QI) (h : GA P l.toArray (R .normal) (Mem c GI QI) m (Array.replicate m false) (St c n env G Q)) : GC P R (.region id l.toArray true) (St c n env G Q) :=
  GC.regionM hm hsz hsel hq h fun _ _ h => h
theorem GA.retL {ops : Array Oper} {M : Asr} {I : World → Prop} {fuel : Nat} {listed : Array Bool} {F : Value → List Own → List Pers → Prop} {Z : Value → List Own → Asr} (k : ∀ v G2, F v G2 [] → GA P ops M I fuel listed (Z v G2)) : GA P ops M I fuel listed (fun a w => ∃ v G2, F v G2 [] ∧ Z v G2 a w) := fun a w ⟨v, G2, hF, hZ⟩ => k v G2 hF a w hZ
theorem GC.layQ {α : Type} {kd : Kd α} {R : Exit → Asr} {cd : Code} {y : Operand} {j : Nat} {k : IntKind} {m : Int} {A : Option Addr} {xs : List α} {z : α} (hy : ev env y = some (.int k m)) (hj : nthO Q j = some (Pers.row kd A xs)) (h0 : 0 ≤ m) (hz : xs[m.toNat]? = some z)
    (kk : ∀ p r, A = some p → kd.ok z r → GC P R cd (St c n env G (Pers.at (p.add (m.toNat * kd.sz)) (kd.cells z r) :: (kd.pers z r ++ Q)))) : GC P R cd (St c n env G Q) :=
  GC.lay (x := .const (.slice A xs.length 0)) (y := y) rfl hy hj h0 hz kk
end
end Go.Sx
namespace Go.Sx
open Go
section
variable {P : Program} {c : Cx} {n : Nat} {env env' envK E : List (Nat × Value)} {G G' Gr GK : List Own} {Q Q' QK : List Pers} {a : Act} {w : World}
section
variable {ops : Array Oper} {M A B : Asr} {I : World → Prop} {fuel : Nat} {listed : Array Bool}
theorem GA.st (h : ∀ a w, St c n env G Q a w → St c n env' G' Q' a w) (k : GA P ops M I fuel listed (St c n env' G' Q')) : GA P ops M I fuel listed (St c n env G Q) := GA.imp h k
theorem GA.snoc {α : Type} {kd : Kd α} {xs : List α} {cs : List Value} {j : Nat} {js : List Nat} (z : α) (r : kd.Y) (hj : nthO Q j = some (Pers.reps kd xs cs)) (hq : pickQ Q js = some (kd.pers z r)) (hok : kd.ok z r)
    (k : GA P ops M I fuel listed (St c n env G (Pers.reps kd (xs ++ [z]) (cs ++ kd.cells z r) :: Q))) : GA P ops M I fuel listed (St c n env G Q) := GA.imp (fun a w h => h.snoc hj hq hok) k
theorem GA.freezeR {α : Type} {kd : Kd α} {i j e m cp : Nat} {A : Option Addr} {xs : List α} {cs : List Value} (ht : takeO G i = some (.row (.slice A m cp) e kd.sz m cs, G')) (hj : nthO Q j = some (Pers.reps kd xs cs)) (hp : 0 < kd.sz)
    (k : GA P ops M I fuel listed (St c n env G' (Pers.row kd A xs :: Q))) : GA P ops M I fuel listed (St c n env G Q) := GA.imp (fun a w h => h.freezeR ht hj hp) k
end
end
end Go.Sx
namespace Go.Sx
open Go
section
variable {P : Program} {c : Cx} {n : Nat} {env env' envK E : List (Nat × Value)} {G G' Gr GK : List Own} {Q Q' QK : List Pers} {a : Act} {w : World}
theorem GC.post {x : Code} {R R' : Exit → Asr} {A : Asr} (h : GC P R x A) (hr : ∀ e a w, R e a w → R' e a w) : GC P R' x A := fun a w ha => Code.wp_mono (fun e a w he => hr e a w he) (h a w ha)
theorem Exit.then_mono {M M' : Asr} {R : Exit → Asr} (h : ∀ a w, M a w → M' a w) : ∀ e a w, Exit.then M R e a w → Exit.then M' R e a w := by
  intro e a w he
  cases e <;> first | exact h a w he | exact he
end
end Go.Sx
namespace Go.Sx
open Go
section
variable {P : Program} {c : Cx} {n : Nat} {env env' envK E : List (Nat × Value)} {G G' Gr GK : List Own} {Q Q' QK : List Pers} {a : Act} {w : World}
section
variable {α β γ δ ε ζ η θ : Type} {x : Code} {R : Exit → Asr} {ks is js : List Nat}
theorem GC.loopK1 (φ : α → Prop) (F : α → List (Nat × Value)) (GF : α → List Own) (QF : α → List Pers) (μ : α → Nat) (y : α) (hK : kept env ks = some envK) (hG : pickQ G is = some GK) (hQ : pickQ Q js = some QK)
    (h0 : ∀ a w, St c n env G Q a w → φ y ∧ St c n (F y ++ envK) (GF y ++ GK) (QF y ++ QK) a w)
    (h : ∀ y, φ y → GC P (Exit.then (fun a w => ∃ z, μ z < μ y ∧ φ z ∧ St c n (F z ++ envK) (GF z ++ GK) (QF z ++ QK) a w) R) x (St c n (F y ++ envK) (GF y ++ GK) (QF y ++ QK))) : GC P R (.loop x) (St c n env G Q) :=
  GC.imp h0 (GC.loop (fun y a w => φ y ∧ St c n (F y ++ envK) (GF y ++ GK) (QF y ++ QK) a w) μ y fun y => GC.and fun hy => h y hy)
theorem GC.loopK2 (φ : α → β → Prop) (F : α → β → List (Nat × Value)) (GF : α → β → List Own) (QF : α → β → List Pers) (μ : α → β → Nat) (y1 : α) (y2 : β) (hK : kept env ks = some envK) (hG : pickQ G is = some GK) (hQ : pickQ Q js = some QK)
    (h0 : ∀ a w, St c n env G Q a w → φ y1 y2 ∧ St c n (F y1 y2 ++ envK) (GF y1 y2 ++ GK) (QF y1 y2 ++ QK) a w)
    (h : ∀ y1 y2, φ y1 y2 → GC P (Exit.then (fun a w => ∃ z1 z2, μ z1 z2 < μ y1 y2 ∧ φ z1 z2 ∧ St c n (F z1 z2 ++ envK) (GF z1 z2 ++ GK) (QF z1 z2 ++ QK) a w) R) x (St c n (F y1 y2 ++ envK) (GF y1 y2 ++ GK) (QF y1 y2 ++ QK))) : GC P R (.loop x) (St c n env G Q) :=
  GC.loopK1 (fun y : α × β => φ y.1 y.2) (fun y => F y.1 y.2) (fun y => GF y.1 y.2) (fun y => QF y.1 y.2) (fun y => μ y.1 y.2) (y1, y2) hK hG hQ h0 fun y hy => GC.post (h y.1 y.2 hy) (Exit.then_mono fun a w ⟨z1, z2, hz⟩ => ⟨(z1, z2), hz⟩)
theorem GC.loopK3 (φ : α → β → γ → Prop) (F : α → β → γ → List (Nat × Value)) (GF : α → β → γ → List Own) (QF : α → β → γ → List Pers) (μ : α → β → γ → Nat) (y1 : α) (y2 : β) (y3 : γ) (hK : kept env ks = some envK) (hG : pickQ G is = some GK) (hQ : pickQ Q js = some QK)
    (h0 : ∀ a w, St c n env G Q a w → φ y1 y2 y3 ∧ St c n (F y1 y2 y3 ++ envK) (GF y1 y2 y3 ++ GK) (QF y1 y2 y3 ++ QK) a w)
    (h : ∀ y1 y2 y3, φ y1 y2 y3 → GC P (Exit.then (fun a w => ∃ z1 z2 z3, μ z1 z2 z3 < μ y1 y2 y3 ∧ φ z1 z2 z3 ∧ St c n (F z1 z2 z3 ++ envK) (GF z1 z2 z3 ++ GK) (QF z1 z2 z3 ++ QK) a w) R) x (St c n (F y1 y2 y3 ++ envK) (GF y1 y2 y3 ++ GK) (QF y1 y2 y3 ++ QK))) : GC P R (.loop x) (St c n env G Q) :=
  GC.loopK2 (fun (y : α × β) z => φ y.1 y.2 z) (fun y => F y.1 y.2) (fun y => GF y.1 y.2) (fun y => QF y.1 y.2) (fun y => μ y.1 y.2) (y1, y2) y3 hK hG hQ h0 fun y y3 hy => GC.post (h y.1 y.2 y3 hy) (Exit.then_mono fun a w ⟨z1, z2, z3, hz⟩ => ⟨(z1, z2), z3, hz⟩)
theorem GC.loopK4 (φ : α → β → γ → δ → Prop) (F : α → β → γ → δ → List (Nat × Value)) (GF : α → β → γ → δ → List Own) (QF : α → β → γ → δ → List Pers) (μ : α → β → γ → δ → Nat) (y1 : α) (y2 : β) (y3 : γ) (y4 : δ) (hK : kept env ks = some envK) (hG : pickQ G is = some GK) (hQ : pickQ Q js = some QK)
    (h0 : ∀ a w, St c n env G Q a w → φ y1 y2 y3 y4 ∧ St c n (F y1 y2 y3 y4 ++ envK) (GF y1 y2 y3 y4 ++ GK) (QF y1 y2 y3 y4 ++ QK) a w)
    (h : ∀ y1 y2 y3 y4, φ y1 y2 y3 y4 → GC P (Exit.then (fun a w => ∃ z1 z2 z3 z4, μ z1 z2 z3 z4 < μ y1 y2 y3 y4 ∧ φ z1 z2 z3 z4 ∧ St c n (F z1 z2 z3 z4 ++ envK) (GF z1 z2 z3 z4 ++ GK) (QF z1 z2 z3 z4 ++ QK) a w) R) x (St c n (F y1 y2 y3 y4 ++ envK) (GF y1 y2 y3 y4 ++ GK) (QF y1 y2 y3 y4 ++ QK))) : GC P R (.loop x) (St c n env G Q) :=
  GC.loopK3 (fun (y : α × β) z => φ y.1 y.2 z) (fun y => F y.1 y.2) (fun y => GF y.1 y.2) (fun y => QF y.1 y.2) (fun y => μ y.1 y.2) (y1, y2) y3 y4 hK hG hQ h0 fun y y3 y4 hy => GC.post (h y.1 y.2 y3 y4 hy) (Exit.then_mono fun a w ⟨z1, z2, z3, z4, hz⟩ => ⟨(z1, z2), z3, z4, hz⟩)
theorem GC.loopK5 (φ : α → β → γ → δ → ε → Prop) (F : α → β → γ → δ → ε → List (Nat × Value)) (GF : α → β → γ → δ → ε → List Own) (QF : α → β → γ → δ → ε → List Pers) (μ : α → β → γ → δ → ε → Nat) (y1 : α) (y2 : β) (y3 : γ) (y4 : δ) (y5 : ε) (hK : kept env ks = some envK) (hG : pickQ G is = some GK) (hQ : pickQ Q js = some QK)
    (h0 : ∀ a w, St c n env G Q a w → φ y1 y2 y3 y4 y5 ∧ St c n (F y1 y2 y3 y4 y5 ++ envK) (GF y1 y2 y3 y4 y5 ++ GK) (QF y1 y2 y3 y4 y5 ++ QK) a w)
    (h : ∀ y1 y2 y3 y4 y5, φ y1 y2 y3 y4 y5 → GC P (Exit.then (fun a w => ∃ z1 z2 z3 z4 z5, μ z1 z2 z3 z4 z5 < μ y1 y2 y3 y4 y5 ∧ φ z1 z2 z3 z4 z5 ∧ St c n (F z1 z2 z3 z4 z5 ++ envK) (GF z1 z2 z3 z4 z5 ++ GK) (QF z1 z2 z3 z4 z5 ++ QK) a w) R) x (St c n (F y1 y2 y3 y4 y5 ++ envK) (GF y1 y2 y3 y4 y5 ++ GK) (QF y1 y2 y3 y4 y5 ++ QK))) : GC P R (.loop x) (St c n env G Q) :=
  GC.loopK4 (fun (y : α × β) z => φ y.1 y.2 z) (fun y => F y.1 y.2) (fun y => GF y.1 y.2) (fun y => QF y.1 y.2) (fun y => μ y.1 y.2) (y1, y2) y3 y4 y5 hK hG hQ h0 fun y y3 y4 y5 hy => GC.post (h y.1 y.2 y3 y4 y5 hy) (Exit.then_mono fun a w ⟨z1, z2, z3, z4, z5, hz⟩ => ⟨(z1, z2), z3, z4, z5, hz⟩)
theorem GC.loopK6 (φ : α → β → γ → δ → ε → ζ → Prop) (F : α → β → γ → δ → ε → ζ → List (Nat × Value)) (GF : α → β → γ → δ → ε → ζ → List Own) (QF : α → β → γ → δ → ε → ζ → List Pers) (μ : α → β → γ → δ → ε → ζ → Nat) (y1 : α) (y2 : β) (y3 : γ) (y4 : δ) (y5 : ε) (y6 : ζ) (hK : kept env ks = some envK) (hG : pickQ G is = some GK) (hQ : pickQ Q js = some QK)
    (h0 : ∀ a w, St c n env G Q a w → φ y1 y2 y3 y4 y5 y6 ∧ St c n (F y1 y2 y3 y4 y5 y6 ++ envK) (GF y1 y2 y3 y4 y5 y6 ++ GK) (QF y1 y2 y3 y4 y5 y6 ++ QK) a w)
    (h : ∀ y1 y2 y3 y4 y5 y6, φ y1 y2 y3 y4 y5 y6 → GC P (Exit.then (fun a w => ∃ z1 z2 z3 z4 z5 z6, μ z1 z2 z3 z4 z5 z6 < μ y1 y2 y3 y4 y5 y6 ∧ φ z1 z2 z3 z4 z5 z6 ∧ St c n (F z1 z2 z3 z4 z5 z6 ++ envK) (GF z1 z2 z3 z4 z5 z6 ++ GK) (QF z1 z2 z3 z4 z5 z6 ++ QK) a w) R) x (St c n (F y1 y2 y3 y4 y5 y6 ++ envK) (GF y1 y2 y3 y4 y5 y6 ++ GK) (QF y1 y2 y3 y4 y5 y6 ++ QK))) : GC P R (.loop x) (St c n env G Q) :=
  GC.loopK5 (fun (y : α × β) => φ y.1 y.2) (fun y => F y.1 y.2) (fun y => GF y.1 y.2) (fun y => QF y.1 y.2) (fun y => μ y.1 y.2) (y1, y2) y3 y4 y5 y6 hK hG hQ h0 fun y y3 y4 y5 y6 hy => GC.post (h y.1 y.2 y3 y4 y5 y6 hy) (Exit.then_mono fun a w ⟨z1, z2, z3, z4, z5, z6, hz⟩ => ⟨(z1, z2), z3, z4, z5, z6, hz⟩)
theorem GC.loopK7 (φ : α → β → γ → δ → ε → ζ → η → Prop) (F : α → β → γ → δ → ε → ζ → η → List (Nat × Value)) (GF : α → β → γ → δ → ε → ζ → η → List Own) (QF : α → β → γ → δ → ε → ζ → η → List Pers) (μ : α → β → γ → δ → ε → ζ → η → Nat) (y1 : α) (y2 : β) (y3 : γ) (y4 : δ) (y5 : ε) (y6 : ζ) (y7 : η) (hK : kept env ks = some envK) (hG : pickQ G is = some GK) (hQ : pickQ Q js = some QK)
    (h0 : ∀ a w, St c n env G Q a w → φ y1 y2 y3 y4 y5 y6 y7 ∧ St c n (F y1 y2 y3 y4 y5 y6 y7 ++ envK) (GF y1 y2 y3 y4 y5 y6 y7 ++ GK) (QF y1 y2 y3 y4 y5 y6 y7 ++ QK) a w)
    (h : ∀ y1 y2 y3 y4 y5 y6 y7, φ y1 y2 y3 y4 y5 y6 y7 → GC P (Exit.then (fun a w => ∃ z1 z2 z3 z4 z5 z6 z7, μ z1 z2 z3 z4 z5 z6 z7 < μ y1 y2 y3 y4 y5 y6 y7 ∧ φ z1 z2 z3 z4 z5 z6 z7 ∧ St c n (F z1 z2 z3 z4 z5 z6 z7 ++ envK) (GF z1 z2 z3 z4 z5 z6 z7 ++ GK) (QF z1 z2 z3 z4 z5 z6 z7 ++ QK) a w) R) x (St c n (F y1 y2 y3 y4 y5 y6 y7 ++ envK) (GF y1 y2 y3 y4 y5 y6 y7 ++ GK) (QF y1 y2 y3 y4 y5 y6 y7 ++ QK))) : GC P R (.loop x) (St c n env G Q) :=
  GC.loopK6 (fun (y : α × β) => φ y.1 y.2) (fun y => F y.1 y.2) (fun y => GF y.1 y.2) (fun y => QF y.1 y.2) (fun y => μ y.1 y.2) (y1, y2) y3 y4 y5 y6 y7 hK hG hQ h0 fun y y3 y4 y5 y6 y7 hy => GC.post (h y.1 y.2 y3 y4 y5 y6 y7 hy) (Exit.then_mono fun a w ⟨z1, z2, z3, z4, z5, z6, z7, hz⟩ => ⟨(z1, z2), z3, z4, z5, z6, z7, hz⟩)
theorem GC.loopK8 (φ : α → β → γ → δ → ε → ζ → η → θ → Prop) (F : α → β → γ → δ → ε → ζ → η → θ → List (Nat × Value)) (GF : α → β → γ → δ → ε → ζ → η → θ → List Own) (QF : α → β → γ → δ → ε → ζ → η → θ → List Pers) (μ : α → β → γ → δ → ε → ζ → η → θ → Nat) (y1 : α) (y2 : β) (y3 : γ) (y4 : δ) (y5 : ε) (y6 : ζ) (y7 : η) (y8 : θ) (hK : kept env ks = some envK) (hG : pickQ G is = some GK) (hQ : pickQ Q js = some QK)
    (h0 : ∀ a w, St c n env G Q a w → φ y1 y2 y3 y4 y5 y6 y7 y8 ∧ St c n (F y1 y2 y3 y4 y5 y6 y7 y8 ++ envK) (GF y1 y2 y3 y4 y5 y6 y7 y8 ++ GK) (QF y1 y2 y3 y4 y5 y6 y7 y8 ++ QK) a w)
    (h : ∀ y1 y2 y3 y4 y5 y6 y7 y8, φ y1 y2 y3 y4 y5 y6 y7 y8 → GC P (Exit.then (fun a w => ∃ z1 z2 z3 z4 z5 z6 z7 z8, μ z1 z2 z3 z4 z5 z6 z7 z8 < μ y1 y2 y3 y4 y5 y6 y7 y8 ∧ φ z1 z2 z3 z4 z5 z6 z7 z8 ∧ St c n (F z1 z2 z3 z4 z5 z6 z7 z8 ++ envK) (GF z1 z2 z3 z4 z5 z6 z7 z8 ++ GK) (QF z1 z2 z3 z4 z5 z6 z7 z8 ++ QK) a w) R) x (St c n (F y1 y2 y3 y4 y5 y6 y7 y8 ++ envK) (GF y1 y2 y3 y4 y5 y6 y7 y8 ++ GK) (QF y1 y2 y3 y4 y5 y6 y7 y8 ++ QK))) : GC P R (.loop x) (St c n env G Q) :=
  GC.loopK7 (fun (y : α × β) => φ y.1 y.2) (fun y => F y.1 y.2) (fun y => GF y.1 y.2) (fun y => QF y.1 y.2) (fun y => μ y.1 y.2) (y1, y2) y3 y4 y5 y6 y7 y8 hK hG hQ h0 fun y y3 y4 y5 y6 y7 y8 hy => GC.post (h y.1 y.2 y3 y4 y5 y6 y7 y8 hy) (Exit.then_mono fun a w ⟨z1, z2, z3, z4, z5, z6, z7, z8, hz⟩ => ⟨(z1, z2), z3, z4, z5, z6, z7, z8, hz⟩)
end
end
end Go.Sx
namespace Go.Proofs.YtdhdmbmknpjhbaaGreat
open Go Go.Sx Go.Proofs
def poly : BitVec 32 := 0x82f63b78#32
def stepB (s : BitVec 32) : BitVec 32 := if s.getLsbD 0 = true then (s >>> 1) ^^^ poly else s >>> 1
def nibT : List (BitVec 32) := [0x00000000#32, 0x105ec76f#32, 0x20bd8ede#32, 0x30e349b1#32, 0x417b1dbc#32, 0x5125dad3#32, 0x61c69362#32, 0x7198540d#32, 0x82f63b78#32, 0x92a8fc17#32, 0xa24bb5a6#32, 0xb21572c9#32, 0xc38d26c4#32, 0xd3d3e1ab#32, 0xe330a81a#32, 0xf36e6f75#32]
def nibB (i : BitVec 32) : BitVec 32 := nibT.getD i.toNat 0
theorem stepB_xor (a b : BitVec 32) : stepB (a ^^^ b) = stepB a ^^^ stepB b := by
  unfold stepB
  rw [BitVec.getLsbD_xor, BitVec.ushiftRight_xor_distrib]
  have e : ∀ x : BitVec 32, poly ^^^ (x ^^^ poly) = x := fun x => by rw [BitVec.xor_comm x, ← BitVec.xor_assoc, BitVec.xor_self, BitVec.zero_xor]
  cases a.getLsbD 0 <;> cases b.getLsbD 0
  · simp
  · simp [BitVec.xor_assoc]
  · simp only [Bool.xor_false, if_true, Bool.false_eq_true, if_false]
    rw [BitVec.xor_assoc, BitVec.xor_assoc, BitVec.xor_comm poly]
  · simp only [Bool.xor_true, Bool.not_true, Bool.false_eq_true, if_false, if_true]
    rw [BitVec.xor_assoc, e]
theorem stepB_even {t : BitVec 32} (k : Nat) (h : t.toNat < 2 ^ (32 - (k + 1))) : stepB (t <<< (k + 1)) = t <<< k := by
  have h0 : (t <<< (k + 1)).getLsbD 0 = false := by simp
  unfold stepB
  rw [h0]
  simp only [Bool.false_eq_true, if_false]
  apply BitVec.eq_of_toNat_eq
  have hk : k + 1 ≤ 32 ∨ 32 < k + 1 := by omega
  rw [BitVec.toNat_ushiftRight, BitVec.toNat_shiftLeft, BitVec.toNat_shiftLeft, Nat.shiftLeft_eq, Nat.shiftLeft_eq, Nat.shiftRight_eq_div_pow]
  rcases hk with hk | hk
  · have hp : 2 ^ (32 - (k + 1)) * 2 ^ (k + 1) = 2 ^ 32 := by rw [← Nat.pow_add]; congr 1; omega
    have h1 : t.toNat * 2 ^ (k + 1) < 2 ^ 32 := by rw [← hp]; exact Nat.mul_lt_mul_of_pos_right h (Nat.pow_pos (by decide))
    have h2 : t.toNat * 2 ^ k < 2 ^ 32 := by
      refine Nat.lt_of_le_of_lt (Nat.mul_le_mul_left _ ?_) h1
      exact Nat.pow_le_pow_right (by decide) (by omega)
    rw [Nat.mod_eq_of_lt h1, Nat.mod_eq_of_lt h2, Nat.pow_succ, ← Nat.mul_assoc]
    simp
  · have : t.toNat = 0 := by
      rw [show 32 - (k + 1) = 0 by omega] at h
      omega
    rw [this]; simp
theorem nib16 : ∀ l : BitVec 4, stepB (stepB (stepB (stepB (l.zeroExtend 32)))) = nibB (l.zeroExtend 32) := by decide +kernel
theorem nib_step (s : BitVec 32) : (s >>> 4) ^^^ nibB (s &&& 15#32) = stepB (stepB (stepB (stepB s))) := by
  have hs : s = ((s >>> 4) <<< 4) ^^^ (s &&& 15#32) := by
    apply BitVec.eq_of_getLsbD_eq
    intro i hi
    rw [BitVec.getLsbD_xor, BitVec.getLsbD_shiftLeft, BitVec.getLsbD_ushiftRight, BitVec.getLsbD_and]
    by_cases h4 : i < 4
    · have : (15#32).getLsbD i = true := by
        rcases (show i = 0 ∨ i = 1 ∨ i = 2 ∨ i = 3 by omega) with rfl | rfl | rfl | rfl <;> decide
      simp [h4, this]
    · have : (15#32).getLsbD i = false := by
        have : (15#32).toNat < 2 ^ 4 := by decide
        rw [← BitVec.testBit_toNat]
        exact Nat.testBit_lt_two_pow (Nat.lt_of_lt_of_le this (Nat.pow_le_pow_right (by decide) (by omega)))
      rw [this, Bool.and_false, Bool.xor_false, show 4 + (i - 4) = i by omega]
      simp [h4, hi]
  have ht : (s >>> 4).toNat < 2 ^ 28 := by
    rw [BitVec.toNat_ushiftRight, Nat.shiftRight_eq_div_pow]
    have := s.isLt
    omega
  have e4 : stepB (stepB (stepB (stepB ((s >>> 4) <<< 4)))) = s >>> 4 := by
    rw [stepB_even 3 ht, stepB_even 2 (Nat.lt_of_lt_of_le ht (by decide)), stepB_even 1 (Nat.lt_of_lt_of_le ht (by decide)), stepB_even 0 (Nat.lt_of_lt_of_le ht (by decide)), BitVec.shiftLeft_zero]
  have el : s &&& 15#32 = ((s.truncate 4 : BitVec 4)).zeroExtend 32 := by
    apply BitVec.eq_of_toNat_eq
    simp
    have : s.toNat &&& 15 = s.toNat % 2 ^ 4 := Nat.and_two_pow_sub_one_eq_mod s.toNat 4
    omega
  conv => rhs; rw [hs]
  rw [stepB_xor, stepB_xor, stepB_xor, stepB_xor, e4, el, nib16]
def byteB (s : BitVec 32) (b : UInt8) : BitVec 32 := stepB (stepB (stepB (stepB (stepB (stepB (stepB (stepB (s ^^^ b.toBitVec.zeroExtend 32))))))))
def moreB (s : BitVec 32) (b : List UInt8) : BitVec 32 := ~~~ (b.foldl byteB (~~~ s))
theorem step32_ct (s : BitVec 32) : Ct Tryz.prog 161 [w32 s] [] [] (fun u G Q => u = w32 (stepB s) ∧ G = [] ∧ Q = []) := by
 refine Ct.intro Tryz.func161 rfl rfl rfl (fun c hc => ?_)
 refine GC.rg 1 ?_;refine GC.seq' ?_;refine GC.rr 1 ?_;refine GL.pure rfl (p_rem rfl rfl (by decide) rfl) ?_;refine GL.rz 1 ?_;refine GC.co ?_ ?_
 ·intro h1; try simp only [tst_] at h1
  refine GC.rr 1 ?_;refine GL.pure rfl (p_half32 rfl rfl) ?_;refine GL.pure rfl (p_xor32 (b := 2197175160#32) rfl rfl) ?_;refine GL.rz 1 ?_;refine GC.ret (Fin.b1 2 [] [] ?_)
  have e := (odd32 s).1 h1
  exact ⟨by simp only [stepB, e, if_true]; rfl, rfl, rfl⟩
 intro h1; try simp only [tst_] at h1
 refine GC.skip (?_ : GC _ _ _ _)
 refine GC.rr 1 ?_;refine GL.pure rfl (p_half32 rfl rfl) ?_;refine GL.rz 1 ?_;refine GC.ret (Fin.b1 2 [] [] ?_)
 have e : ¬ s.getLsbD 0 = true := fun g => h1 ((odd32 s).2 g)
 exact ⟨by simp only [stepB, if_neg e]; rfl, rfl, rfl⟩
theorem nib_nth {x : BitVec 32} (h : x.toNat < 16) : nth (nibT.map w32) ((x.toNat : Int).toNat * 1) = some (w32 (nibB x)) := by
  rw [nth_eq, List.getElem?_map, Nat.mul_one, Int.toNat_natCast]
  have hl : nibT.length = 16 := rfl
  rw [List.getElem?_eq_getElem (by omega)]
  unfold nibB
  rw [List.getD_eq_getElem?_getD, List.getElem?_eq_getElem (by omega)]
  rfl
theorem nib_ct (x : BitVec 32) (h : x.toNat < 16) : Ct Tryz.prog 168 [w32 x] [] [] (fun u G Q => u = w32 (nibB x) ∧ G = [] ∧ Q = []) := by
 refine Ct.intro Tryz.func168 rfl rfl rfl (fun c hc => ?_)
 refine GC.rg 1 ?_;refine GC.sr_ ?_;refine GL.pure rfl (p_buildA Tryz.underlying230 sz_144 ze_230 rfl rfl) ?_;refine GL.rn 1 ?_;refine GL.pure rfl (p_indexV rfl rfl Tryz.underlying230 sz_144 ag_144 (by omega) (by omega) (nib_nth h)) ?_
 refine GL.rz 1 ?_;refine GC.ret (Fin.b1 2 [] [] ?_)
 exact ⟨rfl, rfl, rfl⟩
theorem and15 (s : BitVec 32) : (s &&& 15#32).toNat < 16 := by
  have : (s &&& 15#32).toNat = s.toNat % 16 := by
    rw [BitVec.toNat_and]; exact Nat.and_two_pow_sub_one_eq_mod s.toNat 4
  omega
theorem take_gt {α : Type} [Inhabited α] {l : List α} {k : Nat} (h : k < l.length) : l.take (k + 1) = l.take k ++ [gt l (k : Int)] := by
  have := gt_ok (xs := l) (i := (k : Int)) (by omega) (by omega)
  simp only [Int.toNat_natCast] at this
  rw [List.take_add_one, this]; rfl
theorem foldl_take {l : List UInt8} {k : Nat} {s : BitVec 32} (h : k < l.length) : (l.take (k + 1)).foldl byteB s = byteB ((l.take k).foldl byteB s) (gt l (k : Int)) := by
  rw [take_gt h, List.foldl_append]; rfl
theorem more_ct (s : BitVec 32) (A : Option Addr) (l : List UInt8) (cp : Nat) (hl : l.length ≤ 140737488355328) : Ct Tryz.prog 150 [w32 s, .slice A l.length cp] [] [Pers.row Kd.u8 A l] (fun u G Q => u = w32 (moreB s l) ∧ G = [] ∧ Q = []) := by
 refine Ct.intro Tryz.func150 rfl rfl rfl (fun c hc => ?_)
 refine GC.rg 1 ?_;refine GC.rr 1 ?_;refine GL.pure rfl (p_com32 rfl) ?_;refine GL.rz 1 ?_;refine GC.seq' ?_;refine GC.rg 3 ?_;refine GC.block ?_;refine GC.imp (fun a w h => (⟨by simp, h.ct [] [0]⟩ : (fun (k : Nat) (a : Act) (w : World) => k ≤ l.length ∧ St c 35 [(1, .slice A l.length cp), (5, w32 ((l.take k).foldl byteB (~~~ s))), (10, .slice A l.length cp), (11, .int .i64 (l.length : Int)), (12, .int .i64 (k : Int))] [] [Pers.row Kd.u8 A l] a w) 0 a w)) (GC.loop (fun (k : Nat) (a : Act) (w : World) => k ≤ l.length ∧ St c 35 [(1, .slice A l.length cp), (5, w32 ((l.take k).foldl byteB (~~~ s))), (10, .slice A l.length cp), (11, .int .i64 (l.length : Int)), (12, .int .i64 (k : Int))] [] [Pers.row Kd.u8 A l] a w) (fun k => l.length - k) 0 ?_)
 intro k
 refine GC.and fun hk => ?_;refine GC.rg 1 ?_;refine GC.seq' ?_;refine GC.co ?_ ?_
 ·intro h1; try simp only [tst_] at h1
  refine GC.skip (?_ : GC _ _ _ _)
  refine GC.seq' ?_;refine GC.block ?_;refine GC.sr_ ?_;refine GL.step rfl (t_index (i := 0) rfl rfl rfl rfl Tryz.underlying25 sz_5 (by omega) (gt_ok (by omega) (by omega))) (GL.ex fun p_x14 => GL.ex fun r_x14 => GL.and fun ok_x14 => ?_)
  rcases r_x14 with _
  refine GL.step rfl (t_mem rfl (m_loadP (i := 0) rfl rfl ag_5 rfl)) ?_;refine GL.rz 1 ?_;refine GC.rr 2 ?_;refine GL.pure rfl (p_conv8 (t := 5) (by rw [Tryz.underlying5]; simp) Tryz.underlying144 rfl) ?_
  refine GL.pure rfl (p_xor32 rfl rfl) ?_;refine GL.rz 1 ?_;refine GC.rr 1 ?_;refine GL.pure rfl (p_shr32 4 (by decide) rfl rfl) ?_;refine GL.rn 1 ?_;refine GL.pure rfl (p_and32 (b := 15#32) rfl rfl) ?_;refine GL.cl Tryz.call168 [] [] rfl rfl rfl (by exact nib_ct _ (and15 _)) ?_
  rintro _ _ _ ⟨rfl, rfl, rfl⟩
  refine GL.pure rfl (p_xor32 rfl rfl) ?_;refine GL.rz 1 ?_;refine GC.region ?_;refine GL.rn 1 ?_;refine GL.pure rfl (p_shr32 4 (by decide) rfl rfl) ?_;refine GL.rn 1 ?_;refine GL.pure rfl (p_and32 (b := 15#32) rfl rfl) ?_
  refine GL.cl Tryz.call168 [] [] rfl rfl rfl (by exact nib_ct _ (and15 _)) ?_
  rintro _ _ _ ⟨rfl, rfl, rfl⟩
  refine GL.pure rfl (p_xor32 rfl rfl) ?_;refine GL.rn 1 ?_
  refine GL.nil (?_ : GC _ _ _ _)
  refine GC.region ?_;refine GL.pure rfl (p_add rfl rfl (w64 (by omega) (by omega))) ?_;refine GL.rn 1 ?_;refine GL.nil ?_
  exact fun a w h => ⟨(k + 1), (by omega), (by omega), by rw [foldl_take (by omega), byteB, ← nib_step, ← nib_step]; exact h.ct [] [1]⟩
 intro h1; try simp only [tst_] at h1
 refine GC.exit (?_ : GC _ _ _ _)
 refine GC.rr 1 ?_;refine GL.pure rfl (p_com32 rfl) ?_;refine GL.rz 1 ?_;refine GC.ret (Fin.b1 4 [] [] ?_)
 obtain rfl : k = l.length := by omega
 exact ⟨by rw [List.take_length]; rfl, rfl, rfl⟩
def iterB : Nat → BitVec 32 → BitVec 32
  | 0, s => s
  | k + 1, s => stepB (iterB k s)
theorem iter8 (s : BitVec 32) (b : UInt8) : iterB 8 (s ^^^ b.toBitVec.zeroExtend 32) = byteB s b := rfl
theorem rmore_ct (s : BitVec 32) (A : Option Addr) (l : List UInt8) (cp : Nat) (hl : l.length ≤ 140737488355328) : Ct Tryz.prog 143 [w32 s, .slice A l.length cp] [] [Pers.row Kd.u8 A l] (fun u G Q => u = w32 (moreB s l) ∧ G = [] ∧ Q = []) := by
 refine Ct.intro Tryz.func143 rfl rfl rfl (fun c hc => ?_)
 refine GC.rg 1 ?_;refine GC.rr 1 ?_;refine GL.pure rfl (p_com32 rfl) ?_;refine GL.rz 1 ?_;refine GC.seq' ?_;refine GC.rg 1 ?_;refine GC.block ?_;refine GC.imp (fun a w h => (⟨by simp, h.ct [] [0]⟩ : (fun (k : Nat) (a : Act) (w : World) => k ≤ l.length ∧ St c 31 [(1, .slice A l.length cp), (5, w32 ((l.take k).foldl byteB (~~~ s))), (6, .int .i64 (k : Int))] [] [Pers.row Kd.u8 A l] a w) 0 a w)) (GC.loop (fun (k : Nat) (a : Act) (w : World) => k ≤ l.length ∧ St c 31 [(1, .slice A l.length cp), (5, w32 ((l.take k).foldl byteB (~~~ s))), (6, .int .i64 (k : Int))] [] [Pers.row Kd.u8 A l] a w) (fun k => l.length - k) 0 ?_)
 intro k
 refine GC.and fun hk => ?_;refine GC.seq' ?_;refine GC.rg 4 ?_;refine GC.co ?_ ?_
 ·intro h1; try simp only [tst_] at h1
  refine GC.skip (?_ : GC _ _ _ _)
  refine GC.seq' ?_;refine GC.block ?_;refine GC.rr 3 ?_;refine GL.step rfl (t_index (i := 0) rfl rfl rfl rfl Tryz.underlying25 sz_5 (by omega) (gt_ok (by omega) (by omega))) (GL.ex fun p_x19 => GL.ex fun r_x19 => GL.and fun ok_x19 => ?_)
  rcases r_x19 with _
  refine GL.step rfl (t_mem rfl (m_loadP (i := 0) rfl rfl ag_5 rfl)) ?_;refine GL.pure rfl (p_conv8 (t := 5) (by rw [Tryz.underlying5]; simp) Tryz.underlying144 rfl) ?_
  refine GL.pure rfl (p_xor32 rfl rfl) ?_;refine GL.rz 1 ?_;refine GC.rg 1 ?_;refine GC.block ?_;refine GC.imp (fun a w h => (⟨by simp, h.ct [] [1]⟩ : (fun (j : Nat) (a : Act) (w : World) => j ≤ 8 ∧ St c 31 [(1, .slice A l.length cp), (5, w32 (iterB j (((l.take k).foldl byteB (~~~ s)) ^^^ (gt l (k : Int)).toBitVec.zeroExtend 32))), (6, .int .i64 (k : Int)), (7, .int .i64 (j : Int))] [] [Pers.row Kd.u8 A l] a w) 0 a w)) (GC.loop (fun (j : Nat) (a : Act) (w : World) => j ≤ 8 ∧ St c 31 [(1, .slice A l.length cp), (5, w32 (iterB j (((l.take k).foldl byteB (~~~ s)) ^^^ (gt l (k : Int)).toBitVec.zeroExtend 32))), (6, .int .i64 (k : Int)), (7, .int .i64 (j : Int))] [] [Pers.row Kd.u8 A l] a w) (fun j => 8 - j) 0 ?_)
  intro j
  refine GC.and fun hj => ?_;refine GC.seq' ?_;refine GC.rg 2 ?_;refine GC.co ?_ ?_
  ·intro h2; try simp only [tst_] at h2
   refine GC.skip (?_ : GC _ _ _ _)
   refine GC.seq' ?_;refine GC.block ?_;refine GC.region ?_;refine GL.rn 1 ?_;refine GL.cl Tryz.call161 [] [] rfl rfl rfl (by exact step32_ct _) ?_
   rintro _ _ _ ⟨rfl, rfl, rfl⟩
   refine GL.rn 1 ?_
   refine GL.nil (?_ : GC _ _ _ _)
   refine GC.region ?_;refine GL.rn 1 ?_;refine GL.pure rfl (p_add rfl rfl (w64 (by omega) (by omega))) ?_;refine GL.rn 1 ?_;refine GL.nil ?_
   exact fun a w h => ⟨(j + 1), (by omega), (by omega), h.ct [] [0]⟩
  intro h2; try simp only [tst_] at h2
  refine GC.exit (?_ : GC _ _ _ _)
  refine GC.region ?_;refine GL.rn 1 ?_;refine GL.pure rfl (p_add rfl rfl (w64 (by omega) (by omega))) ?_;refine GL.rn 1 ?_;refine GL.nil ?_
  obtain rfl : j = 8 := by omega
  exact fun a w h => ⟨(k + 1), (by omega), (by omega), by rw [foldl_take (by omega), ← iter8]; exact h.ct [] [0]⟩
 intro h1; try simp only [tst_] at h1
 refine GC.exit (?_ : GC _ _ _ _)
 refine GC.rr 1 ?_;refine GL.pure rfl (p_com32 rfl) ?_;refine GL.rz 1 ?_;refine GC.ret (Fin.b1 4 [] [] ?_)
 obtain rfl : k = l.length := by omega
 exact ⟨by rw [List.take_length]; rfl, rfl, rfl⟩
theorem rmore0 (A : Option Addr) (l : List UInt8) (cp : Nat) (hl : l.length ≤ 140737488355328) : Ct Tryz.prog 143 [.int .u32 0, .slice A l.length cp] [] [Pers.row Kd.u8 A l] (fun u G Q => u = w32 (moreB 0#32 l) ∧ G = [] ∧ Q = []) := by
  have h := rmore_ct 0#32 A l cp hl
  rw [show w32 0#32 = Value.int .u32 0 from rfl] at h
  exact h
theorem of_ct (A : Option Addr) (l : List UInt8) (cp : Nat) (hl : l.length ≤ 140737488355328) : Ct Tryz.prog 107 [.slice A l.length cp] [] [Pers.row Kd.u8 A l] (fun u G Q => u = w32 (moreB 0#32 l) ∧ G = [] ∧ Q = []) := by
 refine Ct.intro Tryz.func107 rfl rfl rfl (fun c hc => ?_)
 refine GC.rg 1 ?_;refine GC.rr 1 ?_;refine GL.cl Tryz.call143 [] [0] rfl rfl rfl (by exact rmore0 _ _ _ hl) ?_
 rintro _ _ _ ⟨rfl, rfl, rfl⟩
 refine GL.rz 1 ?_;refine GC.ret (Fin.b1 2 [] [] ?_)
 exact ⟨rfl, rfl, rfl⟩
theorem csum_ct (A : Option Addr) (b : List UInt8) (cp : Nat) (hl : b.length ≤ 140737488355328) : Ct Tryz.prog 125 [.slice A 1 cp] [] [Pers.row kBytes A [b]] (fun u G Q => u = w32 (moreB 0#32 b) ∧ G = [] ∧ Q = []) := by
 have e1 : ([b] : List (List UInt8)).length = 1 := rfl
 rw [← e1]
 refine Ct.intro Tryz.func125 rfl rfl rfl (fun c hc => ?_)
 refine GC.rg 1 ?_;refine GC.rg 1 ?_;refine GC.seq' ?_;refine GC.rg 3 ?_;refine GC.block ?_;refine GC.imp (fun a w h => (⟨by simp, h.ct [] [0]⟩ : (fun (k : Nat) (a : Act) (w : World) => k ≤ 1 ∧ St c 17 [(3, w32 (if k = 0 then 0#32 else moreB 0#32 b)), (6, .slice A ([b] : List (List UInt8)).length cp), (7, .int .i64 (([b] : List (List UInt8)).length : Int)), (8, .int .i64 (k : Int))] [] [Pers.row kBytes A [b]] a w) 0 a w)) (GC.loop (fun (k : Nat) (a : Act) (w : World) => k ≤ 1 ∧ St c 17 [(3, w32 (if k = 0 then 0#32 else moreB 0#32 b)), (6, .slice A ([b] : List (List UInt8)).length cp), (7, .int .i64 (([b] : List (List UInt8)).length : Int)), (8, .int .i64 (k : Int))] [] [Pers.row kBytes A [b]] a w) (fun k => 1 - k) 0 ?_)
 intro k
 refine GC.and fun hk => ?_;refine GC.rg 1 ?_;refine GC.seq' ?_;refine GC.co ?_ ?_
 ·intro h1; try simp only [tst_] at h1
  refine GC.skip (?_ : GC _ _ _ _)
  refine GC.seq' ?_;refine GC.block ?_;refine GC.sr_ ?_;refine GL.step rfl (t_index (i := 0) rfl rfl rfl rfl Tryz.underlying188 sz_25 (by omega) (gt_ok (by omega) (by omega))) (GL.ex fun p_x10 => GL.ex fun r_x10 => GL.and fun ok_x10 => ?_)
  rcases r_x10 with ⟨Ax10_0, cpx10_0⟩
  refine GL.step rfl (t_mem rfl (m_loadP (i := 0) rfl rfl ag_25 rfl)) ?_;refine GL.rz 1 ?_;refine GC.region ?_;refine GL.rn 2 ?_
  have hk0 : k = 0 := by simp at h1; omega
  have hlk : (gt [b] (k : Int)).length ≤ 140737488355328 := by subst hk0; exact hl
  refine GL.cl Tryz.call150 [] [1] rfl rfl rfl (by exact more_ct _ _ (gt [b] (k : Int)) _ hlk) ?_
  rintro _ _ _ ⟨rfl, rfl, rfl⟩
  refine GL.rn 1 ?_
  refine GL.nil (?_ : GC _ _ _ _)
  refine GC.region ?_;refine GL.pure rfl (p_add rfl rfl (w64 (by omega) (by omega))) ?_;refine GL.rn 1 ?_;refine GL.nil ?_
  subst hk0
  exact fun a w h => ⟨(0 + 1), (by omega), (by omega), h.ct [] [2]⟩
 intro h1; try simp only [tst_] at h1
 refine GC.exit (?_ : GC _ _ _ _)
 refine GC.rg 2 ?_;refine GC.ret (Fin.b1 2 [] [] ?_)
 obtain rfl : k = 1 := by simp at h1; omega
 exact ⟨rfl, rfl, rfl⟩
def isNum (n : Int) : Bool := decide (1 ≤ n) && decide (n ≤ 4611686018427387904)
theorem isNumber_ct (n : Int) : Ct Tryz.prog 181 [.int .i64 n] [] [] (fun v G Q => v = .bool (isNum n) ∧ G = [] ∧ Q = []) := by
 refine Ct.intro Tryz.func181 rfl rfl rfl (fun c hc => ?_)
 refine GC.rg 1 ?_;refine GC.rr 3 ?_;refine GL.sp 5 ?_ ?_
 ·intro h1; try simp only [tst_] at h1
  refine GL.rz 4 ?_;refine GC.ret (Fin.b1 2 [] [] ?_)
  refine ⟨congrArg Value.bool ?_, rfl, rfl⟩; simp [isNum]; omega
 intro h1; try simp only [tst_] at h1
 refine GL.rz 4 ?_;refine GC.ret (Fin.b1 2 [] [] ?_)
 refine ⟨congrArg Value.bool ?_, rfl, rfl⟩; simp [isNum]; omega
theorem tmade_ct (p m : Nat) : Ct Tryz.prog 180 [.pointer (some ⟨p, 0, none⟩)] [.cells p [.map (some m)] 223] [] (fun v G Q => v = .bool true ∧ G = [.cells p [.map (some m)] 223] ∧ Q = []) := by
 refine Ct.intro Tryz.func180 rfl rfl rfl (fun c hc => ?_)
 refine GC.rg 1 ?_;refine GC.rr 1 ?_;refine GL.pure rfl (p_pnil_neq Tryz.underlying180 rfl rfl) ?_;refine GL.rn 4 ?_;refine GL.dg_ 0 ?_;refine GL.pureG (s := 5) rfl rfl rfl (p_mapnil_neq Tryz.underlying221 rfl rfl) ?_
 refine GL.rz 2 ?_;refine GC.ret (Fin.b1 2 [0] [] ?_)
 exact ⟨rfl, rfl, rfl⟩
theorem own_ct (code : Int) (A : Option Addr) (xs : List UInt8) (cp : Nat) (hx : xs.length ≤ 140737488351232) : Ct Tryz.prog 178 [.agg #[.int .u8 code, .slice A xs.length cp]] [] [Pers.row Kd.u8 A xs]
    (fun v G Q => ∃ A' cp', xs.length ≤ cp' ∧ cp' ≤ 9223372036854775807 ∧ v = .agg #[.int .u8 code, .slice A' xs.length cp'] ∧ G = [.row (.slice A' xs.length cp') 5 1 xs.length (xs.map u8v)] ∧ Q = []) := by
 refine Ct.intro Tryz.func178 rfl rfl rfl (fun c hc => ?_)
 refine GC.sr_ ?_;refine GL.step rfl (t_box rfl rfl rfl) (GL.ex fun b_t1 => ?_);refine GL.step rfl (t_alloc rfl ze_30) (GL.ex fun b_t2 => ?_);refine GL.nr 1 ?_;refine GL.ld_ 1 ?_;refine GL.cl Tryz.call182 [] [0] rfl rfl rfl (by exact clone_ct _ _ _ (by first | assumption | omega)) ?_
 rintro _ _ _ ⟨A5, cp5, l5, k5, rfl, rfl, rfl⟩
 refine GL.rn 1 ?_;refine GL.so_ 2 ?_;refine GL.nl_ ?_;refine GC.sr_ ?_;refine GL.ln_ 2 2 ?_;refine GL.sn_ 1 ?_;refine GL.nl_ ?_;refine GC.ret (Fin.c0 2 30 1 2 [0] [] ?_)
 exact ⟨_, _, by assumption, by assumption, rfl, rfl, rfl⟩
def askF (T : List (Int × Last)) (c s : Int) : Int × Res × Int :=
  if isNum c = false ∨ isNum s = false then (0, rz, 5)
  else match mget T c with
    | none => if (T.length : Int) = 64 then (4, rz, 0) else (1, rz, 0)
    | some l => if s > l.serial then (1, rz, 0) else if s < l.serial then (3, rz, 0) else (2, l.result, 0)
def TabOk (T : List (Int × Last)) : Prop := ∀ k l, mget T k = some l → l.result.data.length ≤ 262144
abbrev tabG (p m : Nat) (es : Array MapEntry) (ck : Nat) : List Own := [.cells p [.map (some m)] 223, .blk m (.map es ck)]
abbrev resV' (v : Int) (r : Res) (A : Option Addr) (cp : Nat) (e : Int) : Value := .tuple #[.int .i64 v, .agg #[.int .u8 r.code, .slice A r.data.length cp], .int .i64 e]
theorem ask_ct (p m : Nat) (es : Array MapEntry) (ck : Nat) (T : List (Int × Last)) (cl se : Int) (hT : TabOk T) :
    Ct Tryz.prog 177 [.pointer (some ⟨p, 0, none⟩), .int .i64 cl, .int .i64 se] (tabG p m es ck) [Pers.map kLast true T es ck]
      (fun v G Q => ∃ A cp, (askF T cl se).2.1.data.length ≤ cp ∧ cp ≤ 9223372036854775807 ∧ v = resV' (askF T cl se).1 (askF T cl se).2.1 A cp (askF T cl se).2.2 ∧ G = tabG p m es ck ∧ Q = [Pers.row Kd.u8 A (askF T cl se).2.1.data]) := by
 refine Ct.intro Tryz.func177 rfl rfl rfl (fun c hc => ?_)
 refine GC.rr 1 ?_;refine GL.step rfl (t_alloc rfl ze_30) (GL.ex fun b_t7 => ?_);refine GL.rz 1 ?_;refine GC.seq' ?_;refine GC.rr 1 ?_;refine GL.cl Tryz.call180 [1] [] rfl rfl rfl (by exact tmade_ct _ _) ?_
 rintro _ _ _ ⟨rfl, rfl, rfl⟩
 refine GL.rz 1 ?_;refine GC.cond_false rfl ?_
 refine GC.skip (?_ : GC _ _ _ _)
 refine GC.seq' ?_;refine GC.rr 1 ?_;refine GL.cl Tryz.call181 [] [] rfl rfl rfl (by exact isNumber_ct _) ?_
 rintro _ _ _ ⟨rfl, rfl, rfl⟩
 refine GL.rn 2 ?_;refine GL.sp 18 ?_ ?_
 ·intro h1; try simp only [tst_] at h1
  refine GL.rz 4 ?_;refine GC.cond_true rfl ?_;refine GC.sr_ ?_;refine GL.pure rfl (p_build ze_30 of_30 rfl rfl) ?_;refine GL.rn 1 ?_;refine GL.sn_ 1 ?_;refine GL.rz 1 ?_;refine GC.know (q := Pers.row Kd.u8 none []) (fun _ _ _ => .inl rfl) ?_
  refine GC.ret ?_
  refine fun a w h => Fin.back (rs := [.tmp 6, .cell 7 30, .tmp 8]) (vs := [_, _, _]) (is := [0, 1]) (js := [0]) rfl ⟨rfl, ⟨1, _, _, _, _, rfl, rfl, .inr ⟨[_, _], rfl, ag_30, sz_30, ⟨rfl, rfl, trivial⟩⟩⟩, rfl, trivial⟩ rfl rfl ?_ h
  clear h
  have e : askF T cl se = (0, rz, 5) := by simp [askF, *]
  rw [e]; exact ⟨none, 0, by simp [rz], by simp, rfl, rfl, rfl⟩
 intro h1; try simp only [tst_] at h1
 refine GL.rn 1 ?_;refine GL.stepG rfl (s := 18) rfl rfl (t_call rfl Tryz.call181 rfl (is := []) (js := []) rfl rfl (by exact isNumber_ct _)) (GL.ret ?_)
 rintro _ _ _ ⟨rfl, rfl, rfl⟩
 refine GL.rz 2 ?_;refine GC.co ?_ ?_
 ·intro h2; try simp only [tst_] at h2
  refine GC.sr_ ?_;refine GL.pure rfl (p_build ze_30 of_30 rfl rfl) ?_;refine GL.rn 1 ?_;refine GL.sn_ 1 ?_;refine GL.rz 1 ?_;refine GC.know (q := Pers.row Kd.u8 none []) (fun _ _ _ => .inl rfl) ?_;refine GC.ret ?_
  refine fun a w h => Fin.back (rs := [.tmp 6, .cell 7 30, .tmp 8]) (vs := [_, _, _]) (is := [0, 1]) (js := [0]) rfl ⟨rfl, ⟨1, _, _, _, _, rfl, rfl, .inr ⟨[_, _], rfl, ag_30, sz_30, ⟨rfl, rfl, trivial⟩⟩⟩, rfl, trivial⟩ rfl rfl ?_ h
  clear h
  have e : askF T cl se = (0, rz, 5) := by simp [askF, *]
  rw [e]; exact ⟨none, 0, by simp [rz], by simp, rfl, rfl, rfl⟩
 intro h2; try simp only [tst_] at h2
 refine GC.skip (?_ : GC _ _ _ _)
 refine GC.rr 3 ?_;refine GL.ld_ 0 ?_;refine GL.rn 1 ?_
 refine GL.step rfl (t_lookup (i := 2) (j := 0) rfl rfl rfl rfl rfl Tryz.underlying221 Tryz.underlying3 ze_229 zb_229) (GL.or (GL.and fun n_m30 => ?_) (GL.ex fun u_m30 => GL.ex fun r_m30 => GL.and fun s_m30 => GL.and fun ok_m30 => ?_))
 ·refine GL.rn 3 ?_;refine GL.step rfl (t_alloc rfl ze_229) (GL.ex fun b_t9 => ?_);refine GL.sn_ 0 ?_;refine GL.rz 1 ?_;refine GC.seq' ?_;refine GC.block ?_;refine GC.rr 6 ?_;refine GL.dg_ 1 ?_;refine GL.stepG rfl (s := 36) rfl rfl (t_mem rfl (m_lenmap (i := 3) (j := 0) rfl rfl rfl Tryz.underlying221)) ?_
  refine GL.rz 3 ?_;refine GC.co ?_ ?_
  ·intro h3; try simp only [tst_] at h3
   refine GC.sr_ ?_;refine GL.pure rfl (p_build ze_30 of_30 rfl rfl) ?_;refine GL.rn 1 ?_;refine GL.sn_ 2 ?_;refine GL.rz 1 ?_;refine GC.know (q := Pers.row Kd.u8 none []) (fun _ _ _ => .inl rfl) ?_;refine GC.ret ?_
   refine fun a w h => Fin.back (rs := [.tmp 6, .cell 7 30, .tmp 8]) (vs := [_, _, _]) (is := [1, 2]) (js := [0]) rfl ⟨rfl, ⟨2, _, _, _, _, rfl, rfl, .inr ⟨[_, _], rfl, ag_30, sz_30, ⟨rfl, rfl, trivial⟩⟩⟩, rfl, trivial⟩ rfl rfl ?_ h
   clear h
   have e : askF T cl se = (4, rz, 0) := by simp [askF, *]
   rw [e]; exact ⟨none, 0, by simp [rz], by simp, rfl, rfl, rfl⟩
  intro h3; try simp only [tst_] at h3
  refine GC.rg 9 ?_;refine GC.cond_true rfl ?_;refine GC.sr_ ?_;refine GL.pure rfl (p_build ze_30 of_30 rfl rfl) ?_;refine GL.rn 1 ?_;refine GL.sn_ 2 ?_;refine GL.rz 1 ?_;refine GC.know (q := Pers.row Kd.u8 none []) (fun _ _ _ => .inl rfl) ?_
  refine GC.ret ?_
  refine fun a w h => Fin.back (rs := [.tmp 6, .cell 7 30, .tmp 8]) (vs := [_, _, _]) (is := [1, 2]) (js := [0]) rfl ⟨rfl, ⟨2, _, _, _, _, rfl, rfl, .inr ⟨[_, _], rfl, ag_30, sz_30, ⟨rfl, rfl, trivial⟩⟩⟩, rfl, trivial⟩ rfl rfl ?_ h
  clear h
  have e : askF T cl se = (1, rz, 0) := by simp [askF, *]
  rw [e]; exact ⟨none, 0, by simp [rz], by simp, rfl, rfl, rfl⟩
 rcases r_m30 with ⟨_, ⟨_, ⟨Am30_0, cpm30_0⟩⟩⟩
 refine GL.rn 3 ?_;refine GL.step rfl (t_alloc rfl ze_229) (GL.ex fun b_t9 => ?_);refine GL.sn_ 0 ?_;refine GL.rz 1 ?_;refine GC.seq' ?_;refine GC.block ?_;refine GC.rg 11 ?_;refine GC.cond_false rfl ?_;refine GC.rr 5 ?_
 refine GL.dg_ 0 ?_;refine GL.rz 3 ?_;refine GC.co ?_ ?_
 ·intro h4; try simp only [tst_] at h4
  refine GC.sr_ ?_;refine GL.pure rfl (p_build ze_30 of_30 rfl rfl) ?_;refine GL.rn 1 ?_;refine GL.sn_ 2 ?_;refine GL.rz 1 ?_;refine GC.know (q := Pers.row Kd.u8 none []) (fun _ _ _ => .inl rfl) ?_;refine GC.ret ?_
  refine fun a w h => Fin.back (rs := [.tmp 6, .cell 7 30, .tmp 8]) (vs := [_, _, _]) (is := [1, 2]) (js := [0]) rfl ⟨rfl, ⟨2, _, _, _, _, rfl, rfl, .inr ⟨[_, _], rfl, ag_30, sz_30, ⟨rfl, rfl, trivial⟩⟩⟩, rfl, trivial⟩ rfl rfl ?_ h
  clear h
  have e : askF T cl se = (1, rz, 0) := by simp [askF, *]
  rw [e]; exact ⟨none, 0, by simp [rz], by simp, rfl, rfl, rfl⟩
 intro h4; try simp only [tst_] at h4
 refine GC.rr 2 ?_;refine GL.ld_ 0 ?_;refine GL.rz 2 ?_;refine GC.co ?_ ?_
 ·intro h5; try simp only [tst_] at h5
  refine GC.sr_ ?_;refine GL.pure rfl (p_build ze_30 of_30 rfl rfl) ?_;refine GL.rn 1 ?_;refine GL.sn_ 2 ?_;refine GL.rz 1 ?_;refine GC.know (q := Pers.row Kd.u8 none []) (fun _ _ _ => .inl rfl) ?_;refine GC.ret ?_
  refine fun a w h => Fin.back (rs := [.tmp 6, .cell 7 30, .tmp 8]) (vs := [_, _, _]) (is := [1, 2]) (js := [0]) rfl ⟨rfl, ⟨2, _, _, _, _, rfl, rfl, .inr ⟨[_, _], rfl, ag_30, sz_30, ⟨rfl, rfl, trivial⟩⟩⟩, rfl, trivial⟩ rfl rfl ?_ h
  clear h
  have e : askF T cl se = (3, rz, 0) := by simp [askF, *]
  rw [e]; exact ⟨none, 0, by simp [rz], by simp, rfl, rfl, rfl⟩
 intro h5; try simp only [tst_] at h5
 refine GC.skip (?_ : GC _ _ _ _)
 refine GC.rr 1 ?_;refine GL.ln_ 0 2 ?_
 have hlen := hT _ _ s_m30
 refine GL.cl Tryz.call178 [] [0] rfl rfl rfl (by exact own_ct _ _ _ _ (by first | omega | exact Nat.le_trans hlen (by decide))) ?_
 rintro _ _ _ ⟨A63, cp63, l63, k63, rfl, rfl, rfl⟩
 refine GL.rn 1 ?_;refine GL.sn_ 3 ?_;refine GL.freezeB (i := 0) rfl ?_;refine GL.rz 1 ?_;refine GC.ret ?_
 refine fun a w h => Fin.back (rs := [.tmp 6, .cell 7 30, .tmp 8]) (vs := [_, _, _]) (is := [1, 2]) (js := [0]) rfl ⟨rfl, ⟨2, _, _, _, _, rfl, rfl, .inr ⟨[_, _], rfl, ag_30, sz_30, ⟨rfl, rfl, trivial⟩⟩⟩, rfl, trivial⟩ rfl rfl ?_ h
 clear h
 have e : askF T cl se = (2, u_m30.result, 0) := by simp [askF, *]; rw [if_neg (by omega), if_neg (by omega)]
 rw [e]; exact ⟨_, _, l63, k63, rfl, rfl, rfl⟩
def resOk (code : Int) (n : Nat) : Bool := (decide (code = 1 ∨ code = 4) && decide (n ≤ 262144)) || (decide (code = 2 ∨ code = 3) && decide (n = 0))
theorem zq6_ {X : Prop} (h : X := by (refine ⟨congrArg (Value.int .i64) ?_, rfl, rfl⟩; first | (exfalso; omega) | (simp [resOk, *]; done) | (simp [resOk, *]; omega))) : X := h
theorem bres_ct (code : Int) (A : Option Addr) (n cp : Nat) : Ct Tryz.prog 61 [.agg #[.int .u8 code, .slice A n cp]] [] [] (fun v G Q => v = .int .i64 (if resOk code n then 0 else 42) ∧ G = [] ∧ Q = []) := by
 refine Ct.intro Tryz.func61 rfl rfl rfl (fun c hc => ?_)
 refine GC.sr_ ?_;refine GL.step rfl (t_box rfl rfl rfl) (GL.ex fun b_t1 => ?_);refine GL.rz 1 ?_;refine GC.rg 1 ?_;refine GC.seq' ?_;refine GC.rr 1 ?_;refine GL.ld_ 0 ?_;refine GL.nl_ ?_;refine GC.block ?_;refine GC.seq' ?_
 refine GC.rg 2 ?_;refine GC.co ?_ ?_
 ·intro h1; try simp only [tst_] at h1
  refine GC.skip (?_ : GC _ _ _ _)
  refine GC.co ?_ ?_
  ·intro h2; try simp only [tst_] at h2
   refine GC.region ?_;refine GL.rn 1 ?_;refine GL.ld_ 0 ?_;refine GL.rn 3 ?_
   refine GL.nil (?_ : GC _ _ _ _)
   refine GC.seq' ?_;refine GC.rg 2 ?_;refine GC.co ?_ ?_
   ·intro h3; try simp only [tst_] at h3
    refine GC.rg 1 ?_;refine GC.ret (Fin.b1 2 [] [] ?_)
    exact zq6_
   intro h3; try simp only [tst_] at h3
   refine GC.skip (?_ : GC _ _ _ _)
   refine GC.rg 1 ?_;refine GC.ret (Fin.b1 2 [] [] ?_)
   exact zq6_
  intro h2; try simp only [tst_] at h2
  refine GC.seq' ?_;refine GC.rg 2 ?_;refine GC.co ?_ ?_
  ·intro h4; try simp only [tst_] at h4
   refine GC.skip (?_ : GC _ _ _ _)
   refine GC.co ?_ ?_
   ·intro h5; try simp only [tst_] at h5
    refine GC.region ?_;refine GL.rn 1 ?_;refine GL.ld_ 0 ?_;refine GL.rn 3 ?_
    refine GL.nil (?_ : GC _ _ _ _)
    refine GC.seq' ?_;refine GC.rg 2 ?_;refine GC.co ?_ ?_
    ·intro h6; try simp only [tst_] at h6
     refine GC.rg 1 ?_;refine GC.ret (Fin.b1 2 [] [] ?_)
     exact zq6_
    intro h6; try simp only [tst_] at h6
    refine GC.skip (?_ : GC _ _ _ _)
    refine GC.rg 1 ?_;refine GC.ret (Fin.b1 2 [] [] ?_)
    exact zq6_
   intro h5; try simp only [tst_] at h5
   refine GC.skip (?_ : GC _ _ _ _)
   refine GC.seq' ?_;refine GC.rg 2 ?_;refine GC.cond_true rfl ?_;refine GC.rg 1 ?_;refine GC.ret (Fin.b1 2 [] [] ?_)
   exact zq6_
  intro h4; try simp only [tst_] at h4
  refine GC.region ?_;refine GL.rn 2 ?_
  refine GL.nil (?_ : GC _ _ _ _)
  refine GC.co ?_ ?_
  ·intro h7; try simp only [tst_] at h7
   refine GC.region ?_;refine GL.rn 1 ?_;refine GL.ld_ 0 ?_;refine GL.rn 3 ?_
   refine GL.nil (?_ : GC _ _ _ _)
   refine GC.seq' ?_;refine GC.rg 2 ?_;refine GC.co ?_ ?_
   ·intro h8; try simp only [tst_] at h8
    refine GC.rg 1 ?_;refine GC.ret (Fin.b1 2 [] [] ?_)
    exact zq6_
   intro h8; try simp only [tst_] at h8
   refine GC.skip (?_ : GC _ _ _ _)
   refine GC.rg 1 ?_;refine GC.ret (Fin.b1 2 [] [] ?_)
   exact zq6_
  intro h7; try simp only [tst_] at h7
  refine GC.skip (?_ : GC _ _ _ _)
  refine GC.seq' ?_;refine GC.rg 2 ?_;refine GC.cond_true rfl ?_;refine GC.rg 1 ?_;refine GC.ret (Fin.b1 2 [] [] ?_)
  exact zq6_
 intro h1; try simp only [tst_] at h1
 refine GC.region ?_;refine GL.rn 2 ?_
 refine GL.nil (?_ : GC _ _ _ _)
 refine GC.co ?_ ?_
 ·intro h9; try simp only [tst_] at h9
  refine GC.region ?_;refine GL.rn 1 ?_;refine GL.ld_ 0 ?_;refine GL.rn 3 ?_
  refine GL.nil (?_ : GC _ _ _ _)
  refine GC.seq' ?_;refine GC.rg 2 ?_;refine GC.co ?_ ?_
  ·intro h10; try simp only [tst_] at h10
   refine GC.rg 1 ?_;refine GC.ret (Fin.b1 2 [] [] ?_)
   exact zq6_
  intro h10; try simp only [tst_] at h10
  refine GC.skip (?_ : GC _ _ _ _)
  refine GC.rg 1 ?_;refine GC.ret (Fin.b1 2 [] [] ?_)
  exact zq6_
 intro h9; try simp only [tst_] at h9
 refine GC.seq' ?_;refine GC.rg 2 ?_;refine GC.co ?_ ?_
 ·intro h11; try simp only [tst_] at h11
  refine GC.skip (?_ : GC _ _ _ _)
  refine GC.co ?_ ?_
  ·intro h12; try simp only [tst_] at h12
   refine GC.region ?_;refine GL.rn 1 ?_;refine GL.ld_ 0 ?_;refine GL.rn 3 ?_
   refine GL.nil (?_ : GC _ _ _ _)
   refine GC.seq' ?_;refine GC.rg 2 ?_;refine GC.co ?_ ?_
   ·intro h13; try simp only [tst_] at h13
    refine GC.rg 1 ?_;refine GC.ret (Fin.b1 2 [] [] ?_)
    exact zq6_
   intro h13; try simp only [tst_] at h13
   refine GC.skip (?_ : GC _ _ _ _)
   refine GC.rg 1 ?_;refine GC.ret (Fin.b1 2 [] [] ?_)
   exact zq6_
  intro h12; try simp only [tst_] at h12
  refine GC.skip (?_ : GC _ _ _ _)
  refine GC.seq' ?_;refine GC.rg 2 ?_;refine GC.cond_true rfl ?_;refine GC.rg 1 ?_;refine GC.ret (Fin.b1 2 [] [] ?_)
  exact zq6_
 intro h11; try simp only [tst_] at h11
 refine GC.region ?_;refine GL.rn 2 ?_
 refine GL.nil (?_ : GC _ _ _ _)
 refine GC.co ?_ ?_
 ·intro h14; try simp only [tst_] at h14
  refine GC.region ?_;refine GL.rn 1 ?_;refine GL.ld_ 0 ?_;refine GL.rn 3 ?_
  refine GL.nil (?_ : GC _ _ _ _)
  refine GC.seq' ?_;refine GC.rg 2 ?_;refine GC.co ?_ ?_
  ·intro h15; try simp only [tst_] at h15
   refine GC.rg 1 ?_;refine GC.ret (Fin.b1 2 [] [] ?_)
   exact zq6_
  intro h15; try simp only [tst_] at h15
  refine GC.skip (?_ : GC _ _ _ _)
  refine GC.rg 1 ?_;refine GC.ret (Fin.b1 2 [] [] ?_)
  exact zq6_
 intro h14; try simp only [tst_] at h14
 refine GC.skip (?_ : GC _ _ _ _)
 refine GC.seq' ?_;refine GC.rg 2 ?_;refine GC.cond_true rfl ?_;refine GC.rg 1 ?_;refine GC.ret (Fin.b1 2 [] [] ?_)
 exact zq6_
theorem resE_iff (b : Bool) : ((if b = true then (0 : Int) else 42) = 0) = (b = true) := by cases b <;> simp
def tputF (T : List (Int × Last)) (c s : Int) (r : Res) : Int × List (Int × Last) :=
  if (askF T c s).2.2 ≠ 0 then ((askF T c s).2.2, T)
  else if resOk r.code r.data.length = false then (60, T)
  else if (askF T c s).1 = 4 then (3, T)
  else if (askF T c s).1 ≠ 1 then (1, T)
  else (0, mput T c ⟨s, r⟩)
theorem resOk_len {c : Int} {n : Nat} (h : resOk c n = true) : n ≤ 262144 := by
  simp [resOk] at h; omega
theorem put_ct (p m : Nat) (es : Array MapEntry) (ck : Nat) (T : List (Int × Last)) (cl se : Int) (r : Res) (A : Option Addr) (cp : Nat) (hT : TabOk T) :
    Ct Tryz.prog 165 [.pointer (some ⟨p, 0, none⟩), .int .i64 cl, .int .i64 se, .agg #[.int .u8 r.code, .slice A r.data.length cp]] (tabG p m es ck) [Pers.map kLast true T es ck, Pers.row Kd.u8 A r.data]
      (fun v G Q => ∃ es' ck', v = .int .i64 (tputF T cl se r).1 ∧ G = tabG p m es' ck' ∧ Q = [Pers.map kLast true (tputF T cl se r).2 es' ck']) := by
 refine Ct.intro Tryz.func165 rfl rfl rfl (fun c hc => ?_)
 refine GC.sr_ ?_;refine GL.step rfl (t_box rfl rfl rfl) (GL.ex fun b_t7 => ?_);refine GL.rz 1 ?_;refine GC.rr 3 ?_;refine GL.cl Tryz.call177 [1, 1] [0] rfl rfl rfl (by exact ask_ct _ _ _ _ _ _ _ hT) ?_
 rintro _ _ _ ⟨A16, cp16, l16, m16, rfl, rfl, rfl⟩
 refine GL.rn 4 ?_;refine GL.step rfl (t_alloc rfl ze_30) (GL.ex fun b_t10 => ?_);refine GL.rn 1 ?_;refine GL.sn_ 0 ?_;refine GL.rz 1 ?_;refine GC.seq' ?_;refine GC.block ?_;refine GC.rg 3 ?_;refine GC.co ?_ ?_
 ·intro h1; try simp only [tst_, resE_iff] at h1
  refine GC.rg 2 ?_;refine GC.ret (Fin.b1 8 [1, 1] [1] ?_)
  refine ⟨es, ck, congrArg (Value.int .i64) ?_, rfl, ?_⟩ <;> simp [tputF, *]
 intro h1; try simp only [tst_, resE_iff] at h1
 refine GC.sr_ ?_;refine GL.ln_ 3 2 ?_;refine GL.cl Tryz.call61 [] [] rfl rfl rfl (by exact bres_ct _ _ _ _) ?_
 rintro _ _ _ ⟨rfl, rfl, rfl⟩
 refine GL.rz 2 ?_;refine GC.co ?_ ?_
 ·intro h2; try simp only [tst_, resE_iff] at h2
  refine GC.rg 1 ?_;refine GC.ret (Fin.b1 8 [1, 1] [1] ?_)
  refine ⟨es, ck, congrArg (Value.int .i64) ?_, rfl, ?_⟩ <;> simp [tputF, *]
 intro h2; try simp only [tst_, resE_iff] at h2
 refine GC.rg 3 ?_;refine GC.co ?_ ?_
 ·intro h3; try simp only [tst_, resE_iff] at h3
  refine GC.rg 1 ?_;refine GC.ret (Fin.b1 8 [1, 1] [1] ?_)
  refine ⟨es, ck, congrArg (Value.int .i64) ?_, rfl, ?_⟩ <;> simp [tputF, *]
 intro h3; try simp only [tst_, resE_iff] at h3
 refine GC.rg 3 ?_;refine GC.co ?_ ?_
 ·intro h4; try simp only [tst_, resE_iff] at h4
  refine GC.rg 1 ?_;refine GC.ret (Fin.b1 8 [1, 1] [1] ?_)
  refine ⟨es, ck, congrArg (Value.int .i64) ?_, rfl, ?_⟩ <;> simp [tputF, *]
 intro h4; try simp only [tst_, resE_iff] at h4
 refine GC.skip (?_ : GC _ _ _ _)
 refine GC.seq' ?_;refine GC.regionM (m := 10) (M := fun a w => ∃ es2 : Array MapEntry, ∃ ck2 : Nat, St c 43 [] [.cells p [.map (some m)] 223, .blk m (.map es2 ck2)] [Pers.map kLast true (mput T cl ⟨se, r⟩) es2 ck2] a w) (is := [0, 0, 1]) (js := [0, 1, 2]) wide_ rfl rfl rfl ?_ ?_
 ·refine GA.tk 0 [0, 0, 1] [0, 1, 2] ?_;refine GA.tk 1 [0, 0, 1] [0, 1, 2] ?_;refine GA.tk 2 [0, 0, 1] [0, 1, 2] ?_;refine GA.tp 3 rfl [0, 0, 1] [0, 1, 2] (i_mem (m_load (i := 1) rfl rfl ag_221 rfl)) ?_;refine GA.tk 4 [0, 0, 1] [0, 1, 2] ?_
  refine GA.tk 5 [0, 0, 1] [0, 1, 2] ?_;refine GA.tp 6 rfl [0, 0, 1] [0, 1, 2] (i_mem (m_loadN (i := 2) rfl rfl ag_30 (vs := [_, _]) sz_30 ⟨rfl, rfl, trivial⟩)) ?_
  have hlen : r.data.length ≤ 262144 := resOk_len h2
  refine GA.al [7] ?_
  refine GAs.cons (i := 7) rfl rfl (t_call rfl Tryz.call178 rfl (is := []) (js := [2]) rfl rfl (by exact own_ct _ _ _ _ (by first | omega | exact Nat.le_trans hlen (by decide)))) (by rintro a w ⟨_, _, _, ⟨A41, cp41, l41, k41, rfl, rfl, rfl⟩, h⟩; exact h.me [1, 1, 2] [0, 1, 2]) (GA.ret ?_) GAs.nil
  rintro _ _ _ ⟨A41, cp41, l41, k41, rfl, rfl, rfl⟩
  refine GA.tp 8 rfl [1, 1, 2] [0, 1, 2] (i_pure (p_build ze_229 of_229 rfl rfl)) ?_;refine GA.freezeB (i := 0) rfl ?_;refine GA.al [9] ?_
  refine GAs.cons (i := 9) rfl rfl (t_mapUpdate (i := 2) (j := 2) (u := (⟨se, r⟩ : Last)) (r := ((), ((), (A41, cp41)))) (js := [0]) rfl rfl rfl rfl rfl ⟨trivial, trivial, l41, k41⟩ rfl Tryz.underlying221 Tryz.underlying3 (fun _ _ => rfl)) (by rintro a w ⟨_, _, h⟩; exact h.me [0, 0, 1] [2, 3, 4]) (GA.ex fun es_mu10 => GA.ex fun ck_mu10 => ?_) GAs.nil
  exact GA.done (by kernel_rfl) (fun a w h => ⟨_, _, h.cut (is := [1, 1]) (js := [0]) trivial rfl rfl⟩)
 refine (?_ : GC _ _ _ _)
 refine GC.ex fun es2 => GC.ex fun ck2 => ?_;refine GC.rg 1 ?_;refine GC.ret (Fin.b1 8 [0, 0] [0] ?_)
 refine ⟨es2, ck2, congrArg (Value.int .i64) ?_, rfl, ?_⟩ <;> simp [tputF, *]
theorem TabOk.put {T : List (Int × Last)} (h : TabOk T) (cl se : Int) (r : Res) : TabOk (tputF T cl se r).2 := by
  unfold tputF
  split
  · exact h
  · split
    · exact h
    · rename_i hr
      split
      · exact h
      · split
        · exact h
        · intro k l hl
          by_cases hk : k = cl
          · subst hk
            rw [mget_mput_same] at hl
            simp only [Option.some.injEq] at hl
            subst hl
            exact resOk_len (by simpa using hr)
          · rw [mget_mput_other _ _ hk] at hl
            exact h k l hl
theorem tnew_ct : Ct Tryz.prog 164 [] [] [] (fun v G Q => ∃ p m, v = .pointer (some ⟨p, 0, none⟩) ∧ G = tabG p m #[] 0 ∧ Q = [Pers.map kLast true [] #[] 0]) := by
 refine Ct.intro Tryz.func164 rfl rfl rfl (fun c hc => ?_)
 refine GC.rg 1 ?_;refine GC.sr_ ?_;refine GL.step rfl (t_makeMap rfl) (GL.ex fun m_t1 => ?_);refine GL.pure rfl (p_build ze_223 of_223 rfl rfl) ?_;refine GL.step rfl (t_box rfl rfl rfl) (GL.ex fun b_t3 => ?_);refine GL.rz 1 ?_
 refine GC.know (q := Pers.map kLast true [] #[] 0) (fun _ _ _ => ⟨trivial, Stamped.nil⟩) ?_;refine GC.ret (Fin.b1 0 [0, 0] [0] ?_)
 exact ⟨_, _, rfl, rfl, rfl⟩
theorem put_eq (p m : Nat) (es : Array MapEntry) (ck : Nat) (T : List (Int × Last)) (cl se : Int) (r : Res) (A : Option Addr) (cp : Nat) (hT : TabOk T) (e : Int) (T' : List (Int × Last)) (he : tputF T cl se r = (e, T')) :
    Ct Tryz.prog 165 [.pointer (some ⟨p, 0, none⟩), .int .i64 cl, .int .i64 se, .agg #[.int .u8 r.code, .slice A r.data.length cp]] (tabG p m es ck) [Pers.map kLast true T es ck, Pers.row Kd.u8 A r.data]
      (fun v G Q => ∃ es' ck', v = .int .i64 e ∧ G = tabG p m es' ck' ∧ Q = [Pers.map kLast true T' es' ck']) := by
  have := put_ct p m es ck T cl se r A cp hT
  rw [he] at this
  exact this
theorem TabOk.nil : TabOk [] := fun k l h => by simp [mget] at h
theorem TabOk.one (c s : Int) (r : Res) (h : r.data.length ≤ 262144) : TabOk [(c, ⟨s, r⟩)] := fun k l hl => by
  simp only [mget] at hl
  split at hl
  · simp at hl; subst hl; exact h
  · cases hl
end Go.Proofs.YtdhdmbmknpjhbaaGreat
namespace Go.Sx
open Go
def rem {α : Type} (T : List (Int × α)) (es : List MapEntry) (seen : Array Nat) : List (Int × α) := ((T.zip es).filter fun p => !seen.contains p.2.born).map (·.1)
end Go.Sx
namespace Go.Proofs.YtdhdmbmknpjhbaaGreat
open Go Go.Sx Go.Proofs
theorem rnum_ct (n : Int) : Ct Tryz.prog 114 [.int .i64 n] [] [] (fun v G Q => v = .bool (isNum n) ∧ G = [] ∧ Q = []) := by
 refine Ct.intro Tryz.func114 rfl rfl rfl (fun c hc => ?_)
 refine GC.rg 1 ?_;refine GC.rr 3 ?_;refine GL.sp 5 ?_ ?_
 ·intro h1; try simp only [tst_] at h1
  refine GL.rz 4 ?_;refine GC.ret (Fin.b1 2 [] [] ?_)
  refine ⟨congrArg Value.bool ?_, rfl, rfl⟩; simp [isNum]; omega
 intro h1; try simp only [tst_] at h1
 refine GL.rz 4 ?_;refine GC.ret (Fin.b1 2 [] [] ?_)
 refine ⟨congrArg Value.bool ?_, rfl, rfl⟩; simp [isNum]; omega
theorem zq7_ {X : Prop} (h : X := by (refine ⟨congrArg (Value.int .i64) ?_, rfl, rfl⟩; first | (exfalso; omega) | (rw [if_pos (by simp [resOk]; omega)]) | (rw [if_neg (by simp [resOk]; omega)]))) : X := h
theorem rres_ct (code : Int) (A : Option Addr) (n cp : Nat) : Ct Tryz.prog 30 [.agg #[.int .u8 code, .slice A n cp]] [] [] (fun v G Q => v = .int .i64 (if resOk code n then 0 else 42) ∧ G = [] ∧ Q = []) := by
 refine Ct.intro Tryz.func30 rfl rfl rfl (fun c hc => ?_)
 refine GC.sr_ ?_;refine GL.step rfl (t_box rfl rfl rfl) (GL.ex fun b_t1 => ?_);refine GL.rz 1 ?_;refine GC.seq' ?_;refine GC.rr 1 ?_;refine GL.ld_ 0 ?_;refine GL.rn 2 ?_;refine GL.sp 6 ?_ ?_
 ·intro h1; try simp only [tst_] at h1
  refine GL.rz 10 ?_;refine GC.cond_true rfl ?_;refine GC.rg 1 ?_;refine GC.ret (Fin.b1 2 [] [] ?_)
  exact zq7_
 intro h1; try simp only [tst_] at h1
 refine GL.rn 1 ?_;refine GL.dg_ 0 ?_;refine GL.rn 3 ?_;refine GL.sp 11 ?_ ?_
 ·intro h2; try simp only [tst_] at h2
  refine GL.rz 5 ?_;refine GC.cond_true rfl ?_;refine GC.rg 1 ?_;refine GC.ret (Fin.b1 2 [] [] ?_)
  exact zq7_
 intro h2; try simp only [tst_] at h2
 refine GL.rn 1 ?_;refine GL.dg_ 0 ?_;refine GL.rz 3 ?_;refine GC.co ?_ ?_
 ·intro h3; try simp only [tst_] at h3
  refine GC.rg 1 ?_;refine GC.ret (Fin.b1 2 [] [] ?_)
  exact zq7_
 intro h3; try simp only [tst_] at h3
 refine GC.skip (?_ : GC _ _ _ _)
 refine GC.seq' ?_;refine GC.rr 1 ?_;refine GL.ld_ 0 ?_;refine GL.rn 3 ?_;refine GL.sp 21 ?_ ?_
 ·intro h4; try simp only [tst_] at h4
  refine GL.rn 1 ?_;refine GL.dg_ 0 ?_;refine GL.rn 3 ?_;refine GL.sp 26 ?_ ?_
  ·intro h5; try simp only [tst_] at h5
   refine GL.rn 1 ?_;refine GL.dg_ 0 ?_;refine GL.rz 2 ?_;refine GC.co ?_ ?_
   ·intro h6; try simp only [tst_] at h6
    refine GC.rg 1 ?_;refine GC.ret (Fin.b1 2 [] [] ?_)
    exact zq7_
   intro h6; try simp only [tst_] at h6
   refine GC.skip (?_ : GC _ _ _ _)
   refine GC.rg 1 ?_;refine GC.ret (Fin.b1 2 [] [] ?_)
   exact zq7_
  intro h5; try simp only [tst_] at h5
  refine GL.rz 4 ?_;refine GC.cond_false rfl ?_
  refine GC.skip (?_ : GC _ _ _ _)
  refine GC.rg 1 ?_;refine GC.ret (Fin.b1 2 [] [] ?_)
  exact zq7_
 intro h4; try simp only [tst_] at h4
 refine GL.rz 9 ?_;refine GC.cond_false rfl ?_
 refine GC.skip (?_ : GC _ _ _ _)
 refine GC.rg 1 ?_;refine GC.ret (Fin.b1 2 [] [] ?_)
 exact zq7_
def rowOk (r : Row) : Bool := isNum r.client && isNum r.serial && resOk r.result.code r.result.data.length
def incB : Int → List Row → Bool
  | _, [] => true
  | b, r :: l => rowOk r && decide (b < r.client) && incB r.client l
def rightF (l : List Row) : Bool := decide (l.length ≤ 64) && incB 0 l
def lastC (l : List Row) : Nat → Int
  | 0 => 0
  | k + 1 => (gt l (k : Int)).client
theorem tdrop_gt {α : Type} [Inhabited α] {l : List α} {k : Nat} (h : k < l.length) : l.drop k = gt l (k : Int) :: l.drop (k + 1) := by
  have := gt_ok (xs := l) (i := (k : Int)) (by omega) (by omega)
  simp only [Int.toNat_natCast] at this
  rw [List.drop_eq_getElem_cons h]
  rw [List.getElem?_eq_getElem h] at this
  simp only [Option.some.injEq] at this
  rw [this]
theorem incB_step {l : List Row} {k : Nat} {b : Int} (h : k < l.length) : incB b (l.drop k) = (rowOk (gt l (k : Int)) && decide (b < (gt l (k : Int)).client) && incB (gt l (k : Int)).client (l.drop (k + 1))) := by
  rw [tdrop_gt h]; rfl
theorem incB_ok {l : List Row} {k : Nat} {b : Int} (h : k < l.length) (h1 : isNum (gt l (k : Int)).client = true) (h2 : isNum (gt l (k : Int)).serial = true) (h3 : resOk (gt l (k : Int)).result.code (gt l (k : Int)).result.data.length = true) (h4 : b < (gt l (k : Int)).client) : incB b (l.drop k) = incB (gt l (k : Int)).client (l.drop (k + 1)) := by
  rw [incB_step h, rowOk, h1, h2, h3, decide_eq_true h4]; rfl
theorem incB_bad {l : List Row} {k : Nat} {b : Int} (h : k < l.length) (h1 : isNum (gt l (k : Int)).client = false ∨ isNum (gt l (k : Int)).serial = false ∨ ¬ resOk (gt l (k : Int)).result.code (gt l (k : Int)).result.data.length = true ∨ (gt l (k : Int)).client ≤ b) : incB b (l.drop k) = false := by
  rw [incB_step h, rowOk]
  rcases h1 with h1 | h1 | h1 | h1
  · simp [h1]
  · simp [h1]
  · simp [h1]
  · simp [show ¬ b < (gt l (k : Int)).client by omega]
theorem isNum_pos {n : Int} (h : isNum n = true) : 1 ≤ n ∧ n ≤ 4611686018427387904 := by simpa [isNum] using h
theorem right_ct (A : Option Addr) (l : List Row) (cp : Nat) (hl : l.length ≤ 140737488355328) : Ct Tryz.prog 68 [.slice A l.length cp] [] [Pers.row kRow A l] (fun u G Q => u = .bool (rightF l) ∧ G = [] ∧ Q = []) := by
 refine Ct.intro Tryz.func68 rfl rfl rfl (fun c hc => ?_)
 refine GC.rg 1 ?_;refine GC.seq' ?_;refine GC.rg 3 ?_;refine GC.co ?_ ?_
 ·intro h1; try simp only [tst_, resE_iff] at h1
  first
  | (exfalso; omega)
  |(skip
    refine GC.rg 1 ?_;refine GC.ret (Fin.b1 2 [] [] ?_)
    exact ⟨by rw [rightF, decide_eq_false (by omega)]; rfl, rfl, rfl⟩)
 intro h1; try simp only [tst_, resE_iff] at h1
 first
 | (exfalso; omega)
 |(skip
   refine GC.skip (?_ : GC _ _ _ _)
   refine GC.seq' ?_;refine GC.rg 1 ?_;refine GC.block ?_;refine GC.loopK1 (ks := [0]) (is := []) (js := [0]) (fun (k : Nat) => k ≤ l.length ∧ incB 0 l = incB (lastC l k) (l.drop k)) (fun (k : Nat) => [(3, .int .i64 (k : Int))]) (fun (k : Nat) => []) (fun (k : Nat) => []) (fun (k : Nat) => l.length - k) (0) rfl rfl rfl (fun a w h => ⟨⟨by omega, rfl⟩, h.cutK (is := []) (js := [0]) (ks := [0]) ⟨rfl, trivial⟩ rfl rfl rfl⟩) ?_
   intro k hk
   try dsimp only [List.cons_append, List.nil_append] at hk ⊢
   obtain ⟨hk, he⟩ := hk
   refine GC.seq' ?_;refine GC.rg 4 ?_;refine GC.co ?_ ?_
   ·intro h2; try simp only [tst_, resE_iff] at h2
    first
    | (exfalso; omega)
    |(skip
      refine GC.skip (?_ : GC _ _ _ _)
      refine GC.seq' ?_;refine GC.block ?_;refine GC.seq' ?_
      rcases k with _ | k
      ·skip
       refine GC.layQ (y := .tmp 3) (j := 0) rfl rfl (by omega) (gt_ok (by omega) (by omega)) (fun p_x15 r_x15 hA_x15 ok_x15 => ?_)
       rcases r_x15 with ⟨_, ⟨_, ⟨_, ⟨Ax15_0, cpx15_0⟩⟩⟩⟩
       refine GC.layQ (y := .tmp 3) (j := 2) rfl rfl (by omega) (gt_ok (by omega) (by omega)) (fun p_x23 r_x23 hA_x23 ok_x23 => ?_)
       rcases r_x23 with ⟨_, ⟨_, ⟨_, ⟨Ax23_0, cpx23_0⟩⟩⟩⟩
       refine GC.layQ (y := .tmp 3) (j := 4) rfl rfl (by omega) (gt_ok (by omega) (by omega)) (fun p_x35 r_x35 hA_x35 ok_x35 => ?_)
       rcases r_x35 with ⟨_, ⟨_, ⟨_, ⟨Ax35_0, cpx35_0⟩⟩⟩⟩
       refine GC.layQ (y := .tmp 3) (j := 6) rfl rfl (by omega) (gt_ok (by omega) (by omega)) (fun p_x50 r_x50 hA_x50 ok_x50 => ?_)
       rcases r_x50 with ⟨_, ⟨_, ⟨_, ⟨Ax50_0, cpx50_0⟩⟩⟩⟩
       refine GC.regionQ wide_ (by kernel_rfl) ?_;refine GQ.rn 2 ?_;refine GQ.step rfl (q_pure (p_indexL hA_x15 rfl rfl Tryz.underlying37 sz_61 (by omega) (by omega))) ?_;refine GQ.step rfl (q_pure (p_fieldAddr' fo_61_0 rfl)) ?_
       refine GQ.step rfl (q_mem (m_loadP (i := 6) rfl rfl ag_3 rfl)) ?_;refine GQ.step rfl (q_call Tryz.call114 rfl (js := []) rfl (by exact rnum_ct _)) ?_;refine GQ.rn 2 ?_;refine GQ.split (i := 20) rfl (fun h3 => ?_) (fun h3 => ?_)
       ·try simp only [tst_, resE_iff] at h3
        first
        | (exfalso; omega)
        |(skip
          refine GQ.rn 12 ?_
          iterate 12 refine GQ.passU (s := 32) rfl rfl rfl ?_
          refine GQ.rn 11 ?_
          refine GQ.nil (?_ : GC _ _ _ _)
          refine GC.cond_true rfl ?_;refine GC.rg 1 ?_;refine GC.ret (Fin.b1 2 [] [] ?_)
          refine ⟨?_, rfl, rfl⟩
          (try simp only [show ∀ x : Nat, ((x + 1 : Nat) : Int) - 1 = x by omega] at *)
          rw [rightF, he, incB_bad (by omega) (by first | exact .inl (by assumption) | exact .inr (.inl (by assumption)) | exact .inr (.inr (.inl (by assumption))) | exact .inr (.inr (.inr (by simp only [lastC]; omega))))]
          rw [Bool.and_false]; rfl)
       try simp only [tst_, resE_iff] at h3
       first
       | (exfalso; omega)
       |(skip
         refine GQ.rn 2 ?_;refine GQ.stepG (s := 20) rfl rfl rfl (q_pure (p_indexL hA_x23 rfl rfl Tryz.underlying37 sz_61 (by omega) (by omega))) ?_;refine GQ.stepG (s := 20) rfl rfl rfl (q_pure (p_fieldAddr' fo_61_1 rfl)) ?_
         refine GQ.stepG (s := 20) rfl rfl rfl (q_mem (m_loadP (i := 4) rfl rfl ag_3 rfl)) ?_;refine GQ.stepG (s := 20) rfl rfl rfl (q_call Tryz.call114 rfl (js := []) rfl (by exact rnum_ct _)) ?_;refine GQ.rn 3 ?_;refine GQ.split (i := 29) rfl (fun h4 => ?_) (fun h4 => ?_)
         ·try simp only [tst_, resE_iff] at h4
          first
          | (exfalso; omega)
          |(skip
            refine GQ.rn 3 ?_
            iterate 12 refine GQ.passU (s := 32) rfl rfl rfl ?_
            refine GQ.rn 11 ?_
            refine GQ.nil (?_ : GC _ _ _ _)
            refine GC.cond_true rfl ?_;refine GC.rg 1 ?_;refine GC.ret (Fin.b1 2 [] [] ?_)
            refine ⟨?_, rfl, rfl⟩
            (try simp only [show ∀ x : Nat, ((x + 1 : Nat) : Int) - 1 = x by omega] at *)
            rw [rightF, he, incB_bad (by omega) (by first | exact .inl (by assumption) | exact .inr (.inl (by assumption)) | exact .inr (.inr (.inl (by assumption))) | exact .inr (.inr (.inr (by simp only [lastC]; omega))))]
            rw [Bool.and_false]; rfl)
         try simp only [tst_, resE_iff] at h4
         first
         | (exfalso; omega)
         |(skip
           refine GQ.rn 3 ?_;refine GQ.split (i := 32) rfl (fun h5 => ?_) (fun h5 => ?_)
           ·try simp only [tst_, resE_iff] at h5
            first
            | (exfalso; omega)
            |(skip
              refine GQ.rn 2 ?_;refine GQ.stepG (s := 32) rfl rfl rfl (q_pure (p_indexL hA_x35 rfl rfl Tryz.underlying37 sz_61 (by omega) (by omega))) ?_;refine GQ.stepG (s := 32) rfl rfl rfl (q_pure (p_fieldAddr' fo_61_0 rfl)) ?_
              refine GQ.stepG (s := 32) rfl rfl rfl (q_mem (m_loadP (i := 2) rfl rfl ag_3 rfl)) ?_;refine GQ.rn 2 ?_;refine GQ.stepG (s := 32) rfl rfl rfl (q_pure (p_sub rfl rfl (w64 (by omega) (by omega)))) ?_
              exact (by omega : False).elim)
           try simp only [tst_, resE_iff] at h5
           first
           | (exfalso; omega)
           |(skip
             refine GQ.rn 17 ?_;refine GQ.stepG (s := 47) rfl rfl rfl (q_pure (p_indexL hA_x50 rfl rfl Tryz.underlying37 sz_61 (by omega) (by omega))) ?_;refine GQ.stepG (s := 47) rfl rfl rfl (q_pure (p_fieldAddr' fo_61_2 rfl)) ?_
             refine GQ.stepG (s := 47) rfl rfl rfl (q_mem (m_loadPN (i := 0) rfl rfl ag_30 (vs := [_, _]) sz_30 ⟨rfl, rfl, trivial⟩)) ?_;refine GQ.stepG (s := 47) rfl rfl rfl (q_call Tryz.call30 rfl (js := []) rfl (by exact rres_ct _ _ _ _)) ?_
             refine GQ.rn 2 ?_
             refine GQ.nil (?_ : GC _ _ _ _)
             refine GC.co ?_ ?_
             ·intro h6; try simp only [tst_, resE_iff] at h6
              first
              | (exfalso; omega)
              |(skip
                refine GC.rg 1 ?_;refine GC.ret (Fin.b1 2 [] [] ?_)
                refine ⟨?_, rfl, rfl⟩
                (try simp only [show ∀ x : Nat, ((x + 1 : Nat) : Int) - 1 = x by omega] at *)
                rw [rightF, he, incB_bad (by omega) (by first | exact .inl (by assumption) | exact .inr (.inl (by assumption)) | exact .inr (.inr (.inl (by assumption))) | exact .inr (.inr (.inr (by simp only [lastC]; omega))))]
                rw [Bool.and_false]; rfl)
             intro h6; try simp only [tst_, resE_iff] at h6
             first
             | (exfalso; omega)
             |(skip
               refine GC.skip (?_ : GC _ _ _ _)
               refine GC.region ?_;refine GL.rn 1 ?_;refine GL.pure rfl (p_add rfl rfl (w64 (by omega) (by omega))) ?_;refine GL.rn 1 ?_;refine GL.nil ?_
               (try simp only [show ∀ x : Nat, ((x + 1 : Nat) : Int) - 1 = x by omega] at *)
               exact fun a w h => ⟨(_ + 1), (by omega), ⟨by omega, by rw [he, incB_ok (by omega) (by assumption) (by assumption) (by assumption) (by first | (have := isNum_pos (by assumption : isNum (gt l ((0 : Nat) : Int)).client = true); simp only [lastC]; omega) | (simp only [lastC]; omega))]; rfl⟩, h.cut (is := []) (js := [8]) ⟨rfl, rfl, trivial⟩ rfl rfl⟩))))
      skip
      refine GC.lay (x := .tmp 0) (y := .const (.int .i64 (((k + 1 : Nat) : Int) - 1))) (j := 0) rfl rfl rfl (by omega) (gt_ok (by omega) (by omega)) (fun p_xp r_xp hA_xp ok_xp => ?_)
      rcases r_xp with ⟨_, ⟨_, ⟨_, ⟨Axp_0, cpxp_0⟩⟩⟩⟩
      refine GC.layQ (y := .tmp 3) (j := 2) rfl rfl (by omega) (gt_ok (by omega) (by omega)) (fun p_x15 r_x15 hA_x15 ok_x15 => ?_)
      rcases r_x15 with ⟨_, ⟨_, ⟨_, ⟨Ax15_0, cpx15_0⟩⟩⟩⟩
      refine GC.layQ (y := .tmp 3) (j := 4) rfl rfl (by omega) (gt_ok (by omega) (by omega)) (fun p_x23 r_x23 hA_x23 ok_x23 => ?_)
      rcases r_x23 with ⟨_, ⟨_, ⟨_, ⟨Ax23_0, cpx23_0⟩⟩⟩⟩
      refine GC.layQ (y := .tmp 3) (j := 6) rfl rfl (by omega) (gt_ok (by omega) (by omega)) (fun p_x35 r_x35 hA_x35 ok_x35 => ?_)
      rcases r_x35 with ⟨_, ⟨_, ⟨_, ⟨Ax35_0, cpx35_0⟩⟩⟩⟩
      refine GC.layQ (y := .tmp 3) (j := 8) rfl rfl (by omega) (gt_ok (by omega) (by omega)) (fun p_x50 r_x50 hA_x50 ok_x50 => ?_)
      rcases r_x50 with ⟨_, ⟨_, ⟨_, ⟨Ax50_0, cpx50_0⟩⟩⟩⟩
      refine GC.regionQ wide_ (by kernel_rfl) ?_;refine GQ.rn 2 ?_;refine GQ.step rfl (q_pure (p_indexL hA_x15 rfl rfl Tryz.underlying37 sz_61 (by omega) (by omega))) ?_;refine GQ.step rfl (q_pure (p_fieldAddr' fo_61_0 rfl)) ?_
      refine GQ.step rfl (q_mem (m_loadP (i := 6) rfl rfl ag_3 rfl)) ?_;refine GQ.step rfl (q_call Tryz.call114 rfl (js := []) rfl (by exact rnum_ct _)) ?_;refine GQ.rn 2 ?_;refine GQ.split (i := 20) rfl (fun h7 => ?_) (fun h7 => ?_)
      ·try simp only [tst_, resE_iff] at h7
       first
       | (exfalso; omega)
       |(skip
         refine GQ.rn 12 ?_
         iterate 12 refine GQ.passU (s := 32) rfl rfl rfl ?_
         refine GQ.rn 11 ?_
         refine GQ.nil (?_ : GC _ _ _ _)
         refine GC.cond_true rfl ?_;refine GC.rg 1 ?_;refine GC.ret (Fin.b1 2 [] [] ?_)
         refine ⟨?_, rfl, rfl⟩
         (try simp only [show ∀ x : Nat, ((x + 1 : Nat) : Int) - 1 = x by omega] at *)
         rw [rightF, he, incB_bad (by omega) (by first | exact .inl (by assumption) | exact .inr (.inl (by assumption)) | exact .inr (.inr (.inl (by assumption))) | exact .inr (.inr (.inr (by simp only [lastC]; omega))))]
         rw [Bool.and_false]; rfl)
      try simp only [tst_, resE_iff] at h7
      first
      | (exfalso; omega)
      |(skip
        refine GQ.rn 2 ?_;refine GQ.stepG (s := 20) rfl rfl rfl (q_pure (p_indexL hA_x23 rfl rfl Tryz.underlying37 sz_61 (by omega) (by omega))) ?_;refine GQ.stepG (s := 20) rfl rfl rfl (q_pure (p_fieldAddr' fo_61_1 rfl)) ?_
        refine GQ.stepG (s := 20) rfl rfl rfl (q_mem (m_loadP (i := 4) rfl rfl ag_3 rfl)) ?_;refine GQ.stepG (s := 20) rfl rfl rfl (q_call Tryz.call114 rfl (js := []) rfl (by exact rnum_ct _)) ?_;refine GQ.rn 3 ?_;refine GQ.split (i := 29) rfl (fun h8 => ?_) (fun h8 => ?_)
        ·try simp only [tst_, resE_iff] at h8
         first
         | (exfalso; omega)
         |(skip
           refine GQ.rn 3 ?_
           iterate 12 refine GQ.passU (s := 32) rfl rfl rfl ?_
           refine GQ.rn 11 ?_
           refine GQ.nil (?_ : GC _ _ _ _)
           refine GC.cond_true rfl ?_;refine GC.rg 1 ?_;refine GC.ret (Fin.b1 2 [] [] ?_)
           refine ⟨?_, rfl, rfl⟩
           (try simp only [show ∀ x : Nat, ((x + 1 : Nat) : Int) - 1 = x by omega] at *)
           rw [rightF, he, incB_bad (by omega) (by first | exact .inl (by assumption) | exact .inr (.inl (by assumption)) | exact .inr (.inr (.inl (by assumption))) | exact .inr (.inr (.inr (by simp only [lastC]; omega))))]
           rw [Bool.and_false]; rfl)
        try simp only [tst_, resE_iff] at h8
        first
        | (exfalso; omega)
        |(skip
          refine GQ.rn 3 ?_;refine GQ.split (i := 32) rfl (fun h9 => ?_) (fun h9 => ?_)
          ·try simp only [tst_, resE_iff] at h9
           first
           | (exfalso; omega)
           |(skip
             refine GQ.rn 2 ?_;refine GQ.stepG (s := 32) rfl rfl rfl (q_pure (p_indexL hA_x35 rfl rfl Tryz.underlying37 sz_61 (by omega) (by omega))) ?_;refine GQ.stepG (s := 32) rfl rfl rfl (q_pure (p_fieldAddr' fo_61_0 rfl)) ?_
             refine GQ.stepG (s := 32) rfl rfl rfl (q_mem (m_loadP (i := 2) rfl rfl ag_3 rfl)) ?_;refine GQ.rn 2 ?_;refine GQ.stepG (s := 32) rfl rfl rfl (q_pure (p_sub rfl rfl (w64 (by omega) (by omega)))) ?_;refine GQ.stepG (s := 32) rfl rfl rfl (q_pure (p_indexL hA_xp rfl rfl Tryz.underlying37 sz_61 (by omega) (by omega))) ?_
             refine GQ.stepG (s := 32) rfl rfl rfl (q_pure (p_fieldAddr' fo_61_0 rfl)) ?_;refine GQ.stepG (s := 32) rfl rfl rfl (q_mem (m_loadP (i := 8) rfl rfl ag_3 rfl)) ?_;refine GQ.rn 4 ?_;refine GQ.split (i := 47) rfl (fun h10 => ?_) (fun h10 => ?_)
             ·try simp only [tst_, resE_iff] at h10
              first
              | (exfalso; omega)
              |(skip
                refine GQ.rn 8 ?_
                refine GQ.nil (?_ : GC _ _ _ _)
                refine GC.cond_true rfl ?_;refine GC.rg 1 ?_;refine GC.ret (Fin.b1 2 [] [] ?_)
                refine ⟨?_, rfl, rfl⟩
                (try simp only [show ∀ x : Nat, ((x + 1 : Nat) : Int) - 1 = x by omega] at *)
                rw [rightF, he, incB_bad (by omega) (by first | exact .inl (by assumption) | exact .inr (.inl (by assumption)) | exact .inr (.inr (.inl (by assumption))) | exact .inr (.inr (.inr (by simp only [lastC]; omega))))]
                rw [Bool.and_false]; rfl)
             try simp only [tst_, resE_iff] at h10
             first
             | (exfalso; omega)
             |(skip
               refine GQ.rn 2 ?_;refine GQ.stepG (s := 47) rfl rfl rfl (q_pure (p_indexL hA_x50 rfl rfl Tryz.underlying37 sz_61 (by omega) (by omega))) ?_;refine GQ.stepG (s := 47) rfl rfl rfl (q_pure (p_fieldAddr' fo_61_2 rfl)) ?_
               refine GQ.stepG (s := 47) rfl rfl rfl (q_mem (m_loadPN (i := 0) rfl rfl ag_30 (vs := [_, _]) sz_30 ⟨rfl, rfl, trivial⟩)) ?_;refine GQ.stepG (s := 47) rfl rfl rfl (q_call Tryz.call30 rfl (js := []) rfl (by exact rres_ct _ _ _ _)) ?_
               refine GQ.rn 2 ?_
               refine GQ.nil (?_ : GC _ _ _ _)
               refine GC.co ?_ ?_
               ·intro h11; try simp only [tst_, resE_iff] at h11
                first
                | (exfalso; omega)
                |(skip
                  refine GC.rg 1 ?_;refine GC.ret (Fin.b1 2 [] [] ?_)
                  refine ⟨?_, rfl, rfl⟩
                  (try simp only [show ∀ x : Nat, ((x + 1 : Nat) : Int) - 1 = x by omega] at *)
                  rw [rightF, he, incB_bad (by omega) (by first | exact .inl (by assumption) | exact .inr (.inl (by assumption)) | exact .inr (.inr (.inl (by assumption))) | exact .inr (.inr (.inr (by simp only [lastC]; omega))))]
                  rw [Bool.and_false]; rfl)
               intro h11; try simp only [tst_, resE_iff] at h11
               first
               | (exfalso; omega)
               |(skip
                 refine GC.skip (?_ : GC _ _ _ _)
                 refine GC.region ?_;refine GL.rn 1 ?_;refine GL.pure rfl (p_add rfl rfl (w64 (by omega) (by omega))) ?_;refine GL.rn 1 ?_;refine GL.nil ?_
                 (try simp only [show ∀ x : Nat, ((x + 1 : Nat) : Int) - 1 = x by omega] at *)
                 exact fun a w h => ⟨(_ + 1), (by omega), ⟨by omega, by rw [he, incB_ok (by omega) (by assumption) (by assumption) (by assumption) (by first | (have := isNum_pos (by assumption : isNum (gt l ((0 : Nat) : Int)).client = true); simp only [lastC]; omega) | (simp only [lastC]; omega))]; rfl⟩, h.cut (is := []) (js := [10]) ⟨rfl, rfl, trivial⟩ rfl rfl⟩)))
          try simp only [tst_, resE_iff] at h9
          first
          | (exfalso; omega)
          |(skip
            refine GQ.rn 17 ?_;refine GQ.stepG (s := 47) rfl rfl rfl (q_pure (p_indexL hA_x50 rfl rfl Tryz.underlying37 sz_61 (by omega) (by omega))) ?_;refine GQ.stepG (s := 47) rfl rfl rfl (q_pure (p_fieldAddr' fo_61_2 rfl)) ?_
            refine GQ.stepG (s := 47) rfl rfl rfl (q_mem (m_loadPN (i := 0) rfl rfl ag_30 (vs := [_, _]) sz_30 ⟨rfl, rfl, trivial⟩)) ?_;refine GQ.stepG (s := 47) rfl rfl rfl (q_call Tryz.call30 rfl (js := []) rfl (by exact rres_ct _ _ _ _)) ?_
            refine GQ.rn 2 ?_
            refine GQ.nil (?_ : GC _ _ _ _)
            refine GC.co ?_ ?_
            ·intro h12; try simp only [tst_, resE_iff] at h12
             first
             | (exfalso; omega)
             |(skip
               refine GC.rg 1 ?_;refine GC.ret (Fin.b1 2 [] [] ?_)
               refine ⟨?_, rfl, rfl⟩
               (try simp only [show ∀ x : Nat, ((x + 1 : Nat) : Int) - 1 = x by omega] at *)
               rw [rightF, he, incB_bad (by omega) (by first | exact .inl (by assumption) | exact .inr (.inl (by assumption)) | exact .inr (.inr (.inl (by assumption))) | exact .inr (.inr (.inr (by simp only [lastC]; omega))))]
               rw [Bool.and_false]; rfl)
            intro h12; try simp only [tst_, resE_iff] at h12
            first
            | (exfalso; omega)
            |(skip
              refine GC.skip (?_ : GC _ _ _ _)
              refine GC.region ?_;refine GL.rn 1 ?_;refine GL.pure rfl (p_add rfl rfl (w64 (by omega) (by omega))) ?_;refine GL.rn 1 ?_;refine GL.nil ?_
              (try simp only [show ∀ x : Nat, ((x + 1 : Nat) : Int) - 1 = x by omega] at *)
              exact fun a w h => ⟨(_ + 1), (by omega), ⟨by omega, by rw [he, incB_ok (by omega) (by assumption) (by assumption) (by assumption) (by first | (have := isNum_pos (by assumption : isNum (gt l ((0 : Nat) : Int)).client = true); simp only [lastC]; omega) | (simp only [lastC]; omega))]; rfl⟩, h.cut (is := []) (js := [10]) ⟨rfl, rfl, trivial⟩ rfl rfl⟩)))))
   intro h2; try simp only [tst_, resE_iff] at h2
   first
   | (exfalso; omega)
   |(skip
     refine GC.exit (?_ : GC _ _ _ _)
     refine GC.rg 1 ?_;refine GC.ret (Fin.b1 2 [] [] ?_)
     exact ⟨by rw [rightF, he, List.drop_of_length_le (by omega), decide_eq_true (by omega)]; rfl, rfl, rfl⟩))
theorem sameRes_iff (r s : Res) : sameRes r s = decide (r = s) := by
  cases r; cases s; simp [sameRes]
theorem row_ext {r s : Row} (h1 : r.client = s.client) (h2 : r.serial = s.serial) (h3 : r.result = s.result) : r = s := by
  cases r; cases s; simp_all
theorem gt_ne {α : Type} [Inhabited α] {a b : List α} {k : Int} (h : gt a k ≠ gt b k) : a ≠ b := fun e => h (by rw [e])
theorem list_ext_gt {α : Type} [Inhabited α] {a b : List α} (hl : a.length = b.length) (h : ∀ j : Nat, j < a.length → gt a (j : Int) = gt b (j : Int)) : a = b := by
  apply List.ext_getElem hl
  intro i h1 h2
  have g1 := gt_ok (xs := a) (i := (i : Int)) (by omega) (by omega)
  have g2 := gt_ok (xs := b) (i := (i : Int)) (by omega) (by omega)
  simp only [Int.toNat_natCast, List.getElem?_eq_getElem h1, List.getElem?_eq_getElem h2, Option.some.injEq] at g1 g2
  rw [g1, g2, h i h1]
theorem rsame_ct (A : Option Addr) (a_ : List Row) (cp : Nat) (B : Option Addr) (b_ : List Row) (cq : Nat) (hl : a_.length ≤ 140737488355328) : Ct Tryz.prog 74 [.slice A a_.length cp, .slice B b_.length cq] [] [Pers.row kRow A a_, Pers.row kRow B b_] (fun u G Q => u = .bool (decide (a_ = b_)) ∧ G = [] ∧ Q = []) := by
 refine Ct.intro Tryz.func74 rfl rfl rfl (fun c hc => ?_)
 refine GC.rg 1 ?_;refine GC.seq' ?_;refine GC.rg 5 ?_;refine GC.co ?_ ?_
 ·intro h1; try simp only [tst_, sameRes_iff] at h1
  first
  | (exfalso; omega)
  |(skip
    refine GC.rg 1 ?_;refine GC.ret (Fin.b1 4 [] [] ?_)
    exact ⟨congrArg Value.bool (decide_eq_false fun e => by subst e; omega).symm, rfl, rfl⟩)
 intro h1; try simp only [tst_, sameRes_iff] at h1
 first
 | (exfalso; omega)
 |(skip
   refine GC.skip (?_ : GC _ _ _ _)
   refine GC.seq' ?_;refine GC.rg 1 ?_;refine GC.block ?_;refine GC.loopK1 (ks := [0, 1]) (is := []) (js := [0, 1]) (fun (k : Nat) => k ≤ a_.length ∧ ∀ j : Nat, j < k → gt a_ (j : Int) = gt b_ (j : Int)) (fun (k : Nat) => [(5, .int .i64 (k : Int))]) (fun (k : Nat) => []) (fun (k : Nat) => []) (fun (k : Nat) => a_.length - k) (0) rfl rfl rfl (fun a w h => ⟨⟨by omega, fun j hj => by omega⟩, h.cutK (is := []) (js := [0, 1]) (ks := [0, 1]) ⟨rfl, trivial⟩ rfl rfl rfl⟩) ?_
   intro k hk
   try dsimp only [List.cons_append, List.nil_append] at hk ⊢
   obtain ⟨hk, he⟩ := hk
   refine GC.seq' ?_;refine GC.rg 4 ?_;refine GC.co ?_ ?_
   ·intro h2; try simp only [tst_, sameRes_iff] at h2
    first
    | (exfalso; omega)
    |(skip
      refine GC.skip (?_ : GC _ _ _ _)
      refine GC.seq' ?_;refine GC.block ?_;refine GC.seq' ?_;refine GC.layQ (y := .tmp 5) (j := 0) rfl rfl (by omega) (gt_ok (by omega) (by omega)) (fun p_x19 r_x19 hA_x19 ok_x19 => ?_)
      rcases r_x19 with ⟨_, ⟨_, ⟨_, ⟨Ax19_0, cpx19_0⟩⟩⟩⟩
      refine GC.layQ (y := .tmp 5) (j := 3) rfl rfl (by omega) (gt_ok (by omega) (by omega)) (fun p_x24 r_x24 hA_x24 ok_x24 => ?_)
      rcases r_x24 with ⟨_, ⟨_, ⟨_, ⟨Ax24_0, cpx24_0⟩⟩⟩⟩
      refine GC.layQ (y := .tmp 5) (j := 4) rfl rfl (by omega) (gt_ok (by omega) (by omega)) (fun p_x31 r_x31 hA_x31 ok_x31 => ?_)
      rcases r_x31 with ⟨_, ⟨_, ⟨_, ⟨Ax31_0, cpx31_0⟩⟩⟩⟩
      refine GC.layQ (y := .tmp 5) (j := 7) rfl rfl (by omega) (gt_ok (by omega) (by omega)) (fun p_x36 r_x36 hA_x36 ok_x36 => ?_)
      rcases r_x36 with ⟨_, ⟨_, ⟨_, ⟨Ax36_0, cpx36_0⟩⟩⟩⟩
      refine GC.layQ (y := .tmp 5) (j := 8) rfl rfl (by omega) (gt_ok (by omega) (by omega)) (fun p_x44 r_x44 hA_x44 ok_x44 => ?_)
      rcases r_x44 with ⟨_, ⟨_, ⟨_, ⟨Ax44_0, cpx44_0⟩⟩⟩⟩
      refine GC.layQ (y := .tmp 5) (j := 11) rfl rfl (by omega) (gt_ok (by omega) (by omega)) (fun p_x49 r_x49 hA_x49 ok_x49 => ?_)
      rcases r_x49 with ⟨_, ⟨_, ⟨_, ⟨Ax49_0, cpx49_0⟩⟩⟩⟩
      refine GC.regionQ wide_ (by kernel_rfl) ?_;refine GQ.rn 2 ?_;refine GQ.step rfl (q_pure (p_indexL hA_x19 rfl rfl Tryz.underlying37 sz_61 (by omega) (by omega))) ?_;refine GQ.step rfl (q_pure (p_fieldAddr' fo_61_0 rfl)) ?_
      refine GQ.step rfl (q_mem (m_loadP (i := 10) rfl rfl ag_3 rfl)) ?_;refine GQ.rn 2 ?_;refine GQ.step rfl (q_pure (p_indexL hA_x24 rfl rfl Tryz.underlying37 sz_61 (by omega) (by omega))) ?_;refine GQ.step rfl (q_pure (p_fieldAddr' fo_61_0 rfl)) ?_
      refine GQ.step rfl (q_mem (m_loadP (i := 8) rfl rfl ag_3 rfl)) ?_;refine GQ.rn 2 ?_;refine GQ.split (i := 28) rfl (fun h3 => ?_) (fun h3 => ?_)
      ·try simp only [tst_, sameRes_iff] at h3
       first
       | (exfalso; omega)
       |(skip
         refine GQ.rn 26 ?_
         refine GQ.nil (?_ : GC _ _ _ _)
         refine GC.cond_true rfl ?_;refine GC.rg 1 ?_;refine GC.ret (Fin.b1 4 [] [] ?_)
         exact ⟨congrArg Value.bool (decide_eq_false (gt_ne (k := (k : Int)) fun e => by simp_all)).symm, rfl, rfl⟩)
      try simp only [tst_, sameRes_iff] at h3
      first
      | (exfalso; omega)
      |(skip
        refine GQ.rn 2 ?_;refine GQ.stepG (s := 28) rfl rfl rfl (q_pure (p_indexL hA_x31 rfl rfl Tryz.underlying37 sz_61 (by omega) (by omega))) ?_;refine GQ.stepG (s := 28) rfl rfl rfl (q_pure (p_fieldAddr' fo_61_1 rfl)) ?_
        refine GQ.stepG (s := 28) rfl rfl rfl (q_mem (m_loadP (i := 6) rfl rfl ag_3 rfl)) ?_;refine GQ.rn 2 ?_;refine GQ.stepG (s := 28) rfl rfl rfl (q_pure (p_indexL hA_x36 rfl rfl Tryz.underlying37 sz_61 (by omega) (by omega))) ?_
        refine GQ.stepG (s := 28) rfl rfl rfl (q_pure (p_fieldAddr' fo_61_1 rfl)) ?_;refine GQ.stepG (s := 28) rfl rfl rfl (q_mem (m_loadP (i := 4) rfl rfl ag_3 rfl)) ?_;refine GQ.rn 3 ?_;refine GQ.split (i := 41) rfl (fun h4 => ?_) (fun h4 => ?_)
        ·try simp only [tst_, sameRes_iff] at h4
         first
         | (exfalso; omega)
         |(skip
           refine GQ.rn 13 ?_
           refine GQ.nil (?_ : GC _ _ _ _)
           refine GC.cond_true rfl ?_;refine GC.rg 1 ?_;refine GC.ret (Fin.b1 4 [] [] ?_)
           exact ⟨congrArg Value.bool (decide_eq_false (gt_ne (k := (k : Int)) fun e => by simp_all)).symm, rfl, rfl⟩)
        try simp only [tst_, sameRes_iff] at h4
        first
        | (exfalso; omega)
        |(skip
          refine GQ.rn 2 ?_;refine GQ.stepG (s := 41) rfl rfl rfl (q_pure (p_indexL hA_x44 rfl rfl Tryz.underlying37 sz_61 (by omega) (by omega))) ?_;refine GQ.stepG (s := 41) rfl rfl rfl (q_pure (p_fieldAddr' fo_61_2 rfl)) ?_
          refine GQ.stepG (s := 41) rfl rfl rfl (q_mem (m_loadPN (i := 2) rfl rfl ag_30 (vs := [_, _]) sz_30 ⟨rfl, rfl, trivial⟩)) ?_;refine GQ.rn 2 ?_;refine GQ.stepG (s := 41) rfl rfl rfl (q_pure (p_indexL hA_x49 rfl rfl Tryz.underlying37 sz_61 (by omega) (by omega))) ?_
          refine GQ.stepG (s := 41) rfl rfl rfl (q_pure (p_fieldAddr' fo_61_2 rfl)) ?_;refine GQ.stepG (s := 41) rfl rfl rfl (q_mem (m_loadPN (i := 0) rfl rfl ag_30 (vs := [_, _]) sz_30 ⟨rfl, rfl, trivial⟩)) ?_;refine GQ.stepG (s := 41) rfl rfl rfl (q_call Tryz.call41 rfl (js := [3, 1]) rfl (by exact same_ct _ _ _ _ _ _)) ?_
          refine GQ.rn 2 ?_
          refine GQ.nil (?_ : GC _ _ _ _)
          refine GC.co ?_ ?_
          ·intro h5; try simp only [tst_, sameRes_iff] at h5
           first
           | (exfalso; omega)
           |(skip
             refine GC.rg 1 ?_;refine GC.ret (Fin.b1 4 [] [] ?_)
             exact ⟨congrArg Value.bool (decide_eq_false (gt_ne (k := (k : Int)) fun e => by simp_all)).symm, rfl, rfl⟩)
          intro h5; try simp only [tst_, sameRes_iff] at h5
          first
          | (exfalso; omega)
          |(skip
            refine GC.skip (?_ : GC _ _ _ _)
            refine GC.region ?_;refine GL.rn 1 ?_;refine GL.pure rfl (p_add rfl rfl (w64 (by omega) (by omega))) ?_;refine GL.rn 1 ?_;refine GL.nil ?_
            exact fun a w h => ⟨(k + 1), (by omega), ⟨by omega, fun j hj => (Nat.lt_succ_iff_lt_or_eq.1 hj).elim (he j) (fun e => by subst e; exact row_ext (by assumption) (by assumption) (by assumption))⟩, h.ct [] [12, 13]⟩))))
   intro h2; try simp only [tst_, sameRes_iff] at h2
   first
   | (exfalso; omega)
   |(skip
     refine GC.exit (?_ : GC _ _ _ _)
     refine GC.rg 1 ?_;refine GC.ret (Fin.b1 4 [] [] ?_)
     exact ⟨congrArg Value.bool (decide_eq_true (list_ext_gt (by omega) fun j hj => he j (by omega))).symm, rfl, rfl⟩))
theorem samec_ct (r s : Row) (A : Option Addr) (cp : Nat) (B : Option Addr) (cq : Nat) : Ct Tryz.prog 116 [.agg #[.int .i64 r.client, .int .i64 r.serial, .int .u8 r.result.code, .slice A r.result.data.length cp], .agg #[.int .i64 s.client, .int .i64 s.serial, .int .u8 s.result.code, .slice B s.result.data.length cq]] [] [Pers.row Kd.u8 A r.result.data, Pers.row Kd.u8 B s.result.data] (fun u G Q => u = .bool (decide (r = s)) ∧ G = [] ∧ Q = []) := by
 refine Ct.intro Tryz.func116 rfl rfl rfl (fun c hc => ?_)
 refine GC.sr_ ?_;refine GL.step rfl (t_box rfl rfl rfl) (GL.ex fun b_t2 => ?_);refine GL.step rfl (t_box rfl rfl rfl) (GL.ex fun b_t3 => ?_);refine GL.rz 1 ?_;refine GC.rr 1 ?_;refine GL.ld_ 1 ?_;refine GL.rn 1 ?_
 refine GL.ld_ 0 ?_;refine GL.rn 2 ?_;refine GL.sp 10 ?_ ?_
 ·intro h1; try simp only [tst_] at h1
  refine GL.rn 1 ?_;refine GL.dg_ 1 ?_;refine GL.rn 1 ?_;refine GL.dg_ 0 ?_;refine GL.rn 3 ?_;refine GL.sp 17 ?_ ?_
  ·intro h2; try simp only [tst_] at h2
   refine GL.rn 2 ?_;refine GL.dg_ 1 ?_;refine GL.rn 2 ?_;refine GL.dg_ 0 ?_;refine GL.rn 3 ?_;refine GL.sp 26 ?_ ?_
   ·intro h3; try simp only [tst_] at h3
    refine GL.rn 2 ?_;refine GL.dg_ 1 ?_;refine GL.rn 2 ?_;refine GL.dg_ 0 ?_;refine GL.stepG rfl (s := 26) rfl rfl (t_call rfl Tryz.call35 rfl (is := []) (js := [0, 1]) rfl rfl (by exact equal_ct _ _ _ _ _ _)) (GL.ret ?_)
    rintro _ _ _ ⟨rfl, rfl, rfl⟩
    refine GL.rz 2 ?_;refine GC.ret (Fin.b1 4 [] [] ?_)
    refine ⟨congrArg Value.bool ?_, rfl, rfl⟩; obtain ⟨r1, r2, r3, r4⟩ := r; obtain ⟨s1, s2, s3, s4⟩ := s; simp_all
   intro h3; try simp only [tst_] at h3
   refine GL.rz 9 ?_;refine GC.ret (Fin.b1 4 [] [] ?_)
   refine ⟨congrArg Value.bool ?_, rfl, rfl⟩; obtain ⟨r1, r2, r3, r4⟩ := r; obtain ⟨s1, s2, s3, s4⟩ := s; simp_all
  intro h2; try simp only [tst_] at h2
  refine GL.rz 18 ?_;refine GC.ret (Fin.b1 4 [] [] ?_)
  refine ⟨congrArg Value.bool ?_, rfl, rfl⟩; obtain ⟨r1, r2, r3, r4⟩ := r; obtain ⟨s1, s2, s3, s4⟩ := s; simp_all
 intro h1; try simp only [tst_] at h1
 refine GL.rz 25 ?_;refine GC.ret (Fin.b1 4 [] [] ?_)
 refine ⟨congrArg Value.bool ?_, rfl, rfl⟩; obtain ⟨r1, r2, r3, r4⟩ := r; obtain ⟨s1, s2, s3, s4⟩ := s; simp_all
theorem eqfunc_ct (A : Option Addr) (a_ : List Row) (cp : Nat) (B : Option Addr) (b_ : List Row) (cq : Nat) (hl : a_.length ≤ 140737488355328) : Ct Tryz.prog 115 [.slice A a_.length cp, .slice B b_.length cq, .func (.func 116) #[] #[]] [] [Pers.row kRow A a_, Pers.row kRow B b_] (fun u G Q => u = .bool (decide (a_ = b_)) ∧ G = [] ∧ Q = []) := by
 refine Ct.intro Tryz.func115 rfl rfl rfl (fun c hc => ?_)
 refine GC.rg 1 ?_;refine GC.seq' ?_;refine GC.rg 5 ?_;refine GC.co ?_ ?_
 ·intro h1; try simp only [tst_] at h1
  first
  | (exfalso; omega)
  |(skip
    refine GC.rg 1 ?_;refine GC.ret (Fin.b1 6 [] [] ?_)
    exact ⟨congrArg Value.bool (decide_eq_false fun e => by subst e; omega).symm, rfl, rfl⟩)
 intro h1; try simp only [tst_] at h1
 first
 | (exfalso; omega)
 |(skip
   refine GC.skip (?_ : GC _ _ _ _)
   refine GC.seq' ?_;refine GC.rg 3 ?_;refine GC.block ?_;refine GC.loopK1 (ks := [1, 2, 15, 16]) (is := []) (js := [0, 1]) (fun (k : Nat) => k ≤ a_.length ∧ ∀ j : Nat, j < k → gt a_ (j : Int) = gt b_ (j : Int)) (fun (k : Nat) => [(17, .int .i64 (k : Int))]) (fun (k : Nat) => []) (fun (k : Nat) => []) (fun (k : Nat) => a_.length - k) (0) rfl rfl rfl (fun a w h => ⟨⟨by omega, fun j hj => by omega⟩, h.cutK (is := []) (js := [0, 1]) (ks := [1, 2, 15, 16]) ⟨rfl, trivial⟩ rfl rfl rfl⟩) ?_
   intro k hk
   try dsimp only [List.cons_append, List.nil_append] at hk ⊢
   obtain ⟨hk, he⟩ := hk
   refine GC.rg 1 ?_;refine GC.seq' ?_;refine GC.co ?_ ?_
   ·intro h2; try simp only [tst_] at h2
    first
    | (exfalso; omega)
    |(skip
      refine GC.skip (?_ : GC _ _ _ _)
      refine GC.seq' ?_;refine GC.block ?_;refine GC.rr 1 ?_;refine GL.step rfl (t_index (i := 0) rfl rfl rfl rfl Tryz.underlying37 sz_61 (by omega) (gt_ok (by omega) (by omega))) (GL.ex fun p_x20 => GL.ex fun r_x20 => GL.and fun ok_x20 => ?_)
      rcases r_x20 with ⟨_, ⟨_, ⟨_, ⟨Ax20_0, cpx20_0⟩⟩⟩⟩
      refine GL.step rfl (t_mem rfl (m_loadPN (i := 0) rfl rfl ag_61 (vs := [_, _, _, _]) sz_61 ⟨rfl, rfl, rfl, rfl, trivial⟩)) ?_;refine GL.step rfl (t_alloc rfl ze_61) (GL.ex fun b_t8 => ?_);refine GL.rn 1 ?_;refine GL.sn_ 0 ?_
      refine GL.nr 2 ?_;refine GL.step rfl (t_index (i := 3) rfl rfl rfl rfl Tryz.underlying37 sz_61 (by omega) (gt_ok (by omega) (by omega))) (GL.ex fun p_x24 => GL.ex fun r_x24 => GL.and fun ok_x24 => ?_)
      rcases r_x24 with ⟨_, ⟨_, ⟨_, ⟨Ax24_0, cpx24_0⟩⟩⟩⟩
      refine GL.step rfl (t_mem rfl (m_loadPN (i := 0) rfl rfl ag_61 (vs := [_, _, _, _]) sz_61 ⟨rfl, rfl, rfl, rfl, trivial⟩)) ?_;refine GL.step rfl (t_alloc rfl ze_61) (GL.ex fun b_t9 => ?_);refine GL.sn_ 0 ?_;refine GL.nr 1 ?_
      refine GL.ln_ 1 4 ?_;refine GL.ln_ 0 4 ?_;refine GL.step rfl (t_callv rfl Tryz.call116 rfl rfl (is := []) (js := [3, 1]) rfl rfl (by exact samec_ct _ _ _ _ _ _)) (GL.ret ?_)
      rintro _ _ _ ⟨rfl, rfl, rfl⟩
      refine GL.rz 1 ?_;refine GC.co ?_ ?_
      ·intro h3; try simp only [tst_] at h3
       first
       | (exfalso; omega)
       |(skip
         refine GC.rg 1 ?_;refine GC.ret (Fin.b1 6 [] [] ?_)
         exact ⟨congrArg Value.bool (decide_eq_false (gt_ne (k := (k : Int)) (by assumption))).symm, rfl, rfl⟩)
      intro h3; try simp only [tst_] at h3
      first
      | (exfalso; omega)
      |(skip
        refine GC.skip (?_ : GC _ _ _ _)
        refine GC.region ?_;refine GL.pure rfl (p_add rfl rfl (w64 (by omega) (by omega))) ?_;refine GL.rn 1 ?_;refine GL.nil ?_
        exact fun a w h => ⟨(k + 1), (by omega), ⟨by omega, fun j hj => (Nat.lt_succ_iff_lt_or_eq.1 hj).elim (he j) (fun e => by subst e; assumption)⟩, h.ct [] [4, 5]⟩))
   intro h2; try simp only [tst_] at h2
   first
   | (exfalso; omega)
   |(skip
     refine GC.exit (?_ : GC _ _ _ _)
     refine GC.rg 1 ?_;refine GC.ret (Fin.b1 6 [] [] ?_)
     exact ⟨congrArg Value.bool (decide_eq_true (list_ext_gt (by omega) fun j hj => he j (by omega))).symm, rfl, rfl⟩))
theorem tsame_ct (A : Option Addr) (a_ : List Row) (cp : Nat) (B : Option Addr) (b_ : List Row) (cq : Nat) (hl : a_.length ≤ 140737488355328) : Ct Tryz.prog 71 [.slice A a_.length cp, .slice B b_.length cq] [] [Pers.row kRow A a_, Pers.row kRow B b_] (fun u G Q => u = .bool (decide (a_ = b_)) ∧ G = [] ∧ Q = []) := by
 refine Ct.intro Tryz.func71 rfl rfl rfl (fun c hc => ?_)
 refine GC.rg 1 ?_;refine GC.rr 2 ?_;refine GL.cl Tryz.call115 [] [0, 1] rfl rfl rfl (by exact eqfunc_ct _ _ _ _ _ _ (by first | assumption | omega)) ?_
 rintro _ _ _ ⟨rfl, rfl, rfl⟩
 refine GL.rz 1 ?_;refine GC.ret (Fin.b1 4 [] [] ?_)
 exact ⟨rfl, rfl, rfl⟩
def IncL (L : List Row) : Prop := L.Pairwise fun r s => r.client < s.client
theorem incB_iff : ∀ {L : List Row} {b : Int}, incB b L = true ↔ ((∀ x ∈ L, rowOk x = true ∧ b < x.client) ∧ IncL L)
  | [], b => by simp [incB, IncL]
  | x :: xs, b => by
    rw [incB, Bool.and_eq_true, Bool.and_eq_true, decide_eq_true_eq, incB_iff (L := xs)]
    constructor
    · rintro ⟨⟨h1, h2⟩, h3, h4⟩
      refine ⟨fun y hy => ?_, List.pairwise_cons.2 ⟨fun y hy => (h3 y hy).2, h4⟩⟩
      rcases List.mem_cons.1 hy with rfl | hy
      · exact ⟨h1, h2⟩
      · have := (h3 y hy).2; exact ⟨(h3 y hy).1, by omega⟩
    · rintro ⟨h1, h2⟩
      obtain ⟨h3, h4⟩ := List.pairwise_cons.1 h2
      exact ⟨h1 x (List.mem_cons_self ..), fun y hy => ⟨(h1 y (List.mem_cons_of_mem _ hy)).1, h3 y hy⟩, h4⟩
theorem right_iff {L : List Row} : rightF L = true ↔ (L.length ≤ 64 ∧ (∀ x ∈ L, rowOk x = true) ∧ IncL L) := by
  rw [rightF, Bool.and_eq_true, decide_eq_true_eq, incB_iff]
  constructor
  · rintro ⟨h1, h2, h3⟩; exact ⟨h1, fun x hx => (h2 x hx).1, h3⟩
  · rintro ⟨h1, h2, h3⟩
    refine ⟨h1, fun x hx => ⟨h2 x hx, ?_⟩, h3⟩
    have := h2 x hx
    simp only [rowOk, Bool.and_eq_true] at this
    have := isNum_pos this.1.1
    omega
def toLast (r : Row) : Last := ⟨r.serial, r.result⟩
def tabOf (l : List Row) : List (Int × Last) := l.map fun r => (r.client, toLast r)
def okAt (l : List Row) (k : Nat) : Prop := rowOk (gt l (k : Int)) = true ∧ lastC l k < (gt l (k : Int)).client
theorem incB_at {l : List Row} : ∀ (k : Nat), k ≤ l.length → (∀ j, j < k → okAt l j) → incB 0 l = incB (lastC l k) (l.drop k)
  | 0, _, _ => rfl
  | k + 1, hk, h => by
    rw [incB_at k (by omega) fun j hj => h j (by omega), incB_step (by omega), (h k (by omega)).1, decide_eq_true (h k (by omega)).2]; rfl
theorem right_at {l : List Row} (h : rightF l = true) : ∀ k, k < l.length → okAt l k := by
  intro k
  induction k using Nat.strongRecOn with
  | _ k ih =>
    intro hk
    have h1 := incB_at k (by omega) fun j hj => ih j hj (by omega)
    simp only [rightF, Bool.and_eq_true] at h
    rw [h.2, incB_step hk] at h1
    have := h1.symm
    simp only [Bool.and_eq_true, decide_eq_true_eq] at this
    exact this.1
theorem right_of {l : List Row} (h : ∀ k, k < l.length → okAt l k) (h64 : l.length ≤ 64) : rightF l = true := by
  rw [rightF, incB_at l.length (Nat.le_refl _) h, List.drop_of_length_le (Nat.le_refl _), decide_eq_true h64]; rfl
theorem cl_le {l : List Row} : ∀ (k : Nat), k ≤ l.length → (∀ j, j < k → okAt l j) → ∀ r ∈ l.take k, r.client ≤ lastC l k
  | 0, _, _, r, hr => by simp at hr
  | k + 1, hk, h, r, hr => by
    rw [take_gt (by omega)] at hr
    rcases List.mem_append.1 hr with hr | hr
    · have := cl_le k (by omega) (fun j hj => h j (by omega)) r hr
      have := (h k (by omega)).2
      simp only [lastC]; omega
    · rw [List.mem_singleton.1 hr]; exact Int.le_refl _
theorem mget_out {l : List Row} {c : Int} (h : ∀ r ∈ l, r.client ≠ c) : mget (tabOf l) c = none := by
  induction l with
  | nil => rfl
  | cons x xs ih =>
    simp only [tabOf, List.map_cons, mget]
    rw [if_neg (h x (List.mem_cons_self ..))]
    exact ih fun r hr => h r (List.mem_cons_of_mem _ hr)
theorem mput_out {α : Type} {c : Int} {x : α} : ∀ {T : List (Int × α)}, mget T c = none → mput T c x = T ++ [(c, x)]
  | [], _ => rfl
  | (j, y) :: T, h => by
    rw [mget] at h
    split at h
    · cases h
    · rename_i hj
      rw [mput, if_neg hj, mput_out h]; rfl
theorem mget_in {l : List Row} {c : Int} {x : Last} (h : mget (tabOf l) c = some x) : ∃ r ∈ l, r.client = c ∧ toLast r = x := by
  induction l with
  | nil => cases h
  | cons y ys ih =>
    simp only [tabOf, List.map_cons, mget] at h
    split at h
    · rename_i e
      simp only [Option.some.injEq] at h
      exact ⟨y, List.mem_cons_self .., e, h⟩
    · obtain ⟨r, hr, h1⟩ := ih h
      exact ⟨r, List.mem_cons_of_mem _ hr, h1⟩
theorem tabOk_of {l : List Row} (h : ∀ r ∈ l, rowOk r = true) : TabOk (tabOf l) := fun c x hx => by
  obtain ⟨r, hr, _, rfl⟩ := mget_in hx
  have := h r hr
  simp only [rowOk, Bool.and_eq_true] at this
  exact resOk_len this.2
theorem take_ok {l : List Row} {k : Nat} (hk : k ≤ l.length) (h : ∀ j, j < k → okAt l j) : ∀ r ∈ l.take k, rowOk r = true := fun r hr => by
  obtain ⟨j, hj, rfl⟩ := List.getElem_of_mem hr
  simp only [List.length_take] at hj
  have g := gt_ok (xs := l) (i := (j : Int)) (by omega) (by omega)
  simp only [Int.toNat_natCast, List.getElem?_eq_getElem (show j < l.length by omega), Option.some.injEq] at g
  rw [List.getElem_take, g]
  exact (h j (by omega)).1
theorem put_next {l : List Row} {k : Nat} (hk : k < l.length) (h : ∀ j, j < k → okAt l j) (hok : okAt l k) (h64 : k < 64) :
    tputF (tabOf (l.take k)) (gt l (k : Int)).client (gt l (k : Int)).serial (gt l (k : Int)).result = (0, tabOf (l.take (k + 1))) := by
  have h1 := hok.1
  simp only [rowOk, Bool.and_eq_true] at h1
  have hn : mget (tabOf (l.take k)) (gt l (k : Int)).client = none := mget_out fun r hr => by
    have := cl_le k (by omega) h r hr
    have := hok.2
    omega
  have hlen : (tabOf (l.take k)).length = k := by simp [tabOf]; omega
  have e : askF (tabOf (l.take k)) (gt l (k : Int)).client (gt l (k : Int)).serial = (1, rz, 0) := by
    unfold askF
    rw [if_neg (by rw [h1.1.1, h1.1.2]; simp), hn]
    simp only
    rw [if_neg (by rw [hlen]; omega)]
  unfold tputF
  rw [e]
  rw [if_neg (by simp), if_neg (by rw [h1.2]; simp), if_neg (by simp), if_neg (by simp), mput_out hn, take_gt hk]
  simp only [tabOf, List.map_append]; rfl
theorem put_bad {l : List Row} {k : Nat} (hk : k < l.length) (h : ∀ j, j < k → okAt l j) (hk64 : k ≤ 64) (hbad : ¬ (okAt l k ∧ k < 64)) (hlt : lastC l k < (gt l (k : Int)).client) :
    (tputF (tabOf (l.take k)) (gt l (k : Int)).client (gt l (k : Int)).serial (gt l (k : Int)).result).1 ≠ 0 := by
  have hlen : (tabOf (l.take k)).length = k := by simp [tabOf]; omega
  have hn : mget (tabOf (l.take k)) (gt l (k : Int)).client = none := mget_out fun r hr => by
    have := cl_le k (by omega) h r hr
    omega
  unfold tputF
  by_cases hc : isNum (gt l (k : Int)).client = false ∨ isNum (gt l (k : Int)).serial = false
  · have e : askF (tabOf (l.take k)) (gt l (k : Int)).client (gt l (k : Int)).serial = (0, rz, 5) := by unfold askF; rw [if_pos hc]
    rw [e]; simp
  · have e : askF (tabOf (l.take k)) (gt l (k : Int)).client (gt l (k : Int)).serial = if (((tabOf (l.take k)).length : Nat) : Int) = 64 then (4, rz, 0) else (1, rz, 0) := by
      unfold askF; rw [if_neg hc, hn]
    rw [e, hlen]
    by_cases hr : resOk (gt l (k : Int)).result.code (gt l (k : Int)).result.data.length = true
    · have hok : okAt l k := ⟨by
        simp only [rowOk, hr, Bool.and_true, Bool.and_eq_true]
        simpa using hc, hlt⟩
      have h64 : ¬ k < 64 := fun h => hbad ⟨hok, h⟩
      rw [if_pos (show ((k : Nat) : Int) = 64 by omega)]; simp [hr]
    · split <;> simp [hr]
theorem tload_ok (A : Option Addr) (l : List Row) (cp : Nat) (hl : l.length ≤ 140737488355328) (hr : rightF l = true) : Ct Tryz.prog 146 [.slice A l.length cp] [] [Pers.row kRow A l]
    (fun u G Q => ∃ p m es ck, u = .tuple #[.pointer (some ⟨p, 0, none⟩), .int .i64 0] ∧ G = tabG p m es ck ∧ Q = [Pers.map kLast true (tabOf l) es ck]) := by
 have hall := right_at hr
 have h64 : l.length ≤ 64 := (right_iff.1 hr).1
 refine Ct.intro Tryz.func146 rfl rfl rfl (fun c hc => ?_)
 refine GC.rg 2 ?_;refine GC.sr_ ?_;refine GL.cl Tryz.call164 [] [] rfl rfl rfl (by exact tnew_ct) ?_
 rintro _ _ _ ⟨p8, m8, rfl, rfl, rfl⟩
 refine GL.rz 1 ?_;refine GC.rg 1 ?_;refine GC.seq' ?_;refine GC.rg 3 ?_;refine GC.block ?_;refine GC.loopK3 (ks := [4, 9, 10]) (is := [0]) (js := [0, 1]) (fun (k : Nat) (es : Array MapEntry) (ck : Nat) => k ≤ l.length) (fun (k : Nat) (es : Array MapEntry) (ck : Nat) => [(5, .int .i64 (lastC l k)), (11, .int .i64 (k : Int))]) (fun (k : Nat) (es : Array MapEntry) (ck : Nat) => [.blk m8 (.map es ck)]) (fun (k : Nat) (es : Array MapEntry) (ck : Nat) => [Pers.map kLast true (tabOf (l.take k)) es ck]) (fun (k : Nat) (es : Array MapEntry) (ck : Nat) => l.length - k) (0) (_) (_) rfl rfl rfl (fun a w h => ⟨by omega, h.cutK (is := [1, 0]) (js := [0, 0, 1]) (ks := [4, 9, 10]) ⟨rfl, rfl, trivial⟩ rfl rfl rfl⟩) ?_
 intro k es ck hk
 try dsimp only [List.cons_append, List.nil_append] at hk ⊢
 refine GC.rg 1 ?_;refine GC.seq' ?_;refine GC.co ?_ ?_
 ·intro h1; try simp only [tst_] at h1
  first
  | (exfalso; first | omega | (have := (hall k (by omega)).2; omega))
  |(skip
    refine GC.skip (?_ : GC _ _ _ _)
    refine GC.seq' ?_;refine GC.block ?_;refine GC.sr_ ?_;refine GL.step rfl (t_index (i := 2) rfl rfl rfl rfl Tryz.underlying37 sz_61 (by omega) (gt_ok (by omega) (by omega))) (GL.ex fun p_x13 => GL.ex fun r_x13 => GL.and fun ok_x13 => ?_)
    rcases r_x13 with ⟨_, ⟨_, ⟨_, ⟨Ax13_0, cpx13_0⟩⟩⟩⟩
    refine GL.step rfl (t_mem rfl (m_loadPN (i := 0) rfl rfl ag_61 (vs := [_, _, _, _]) sz_61 ⟨rfl, rfl, rfl, rfl, trivial⟩)) ?_;refine GL.step rfl (t_alloc rfl ze_61) (GL.ex fun b_t7 => ?_);refine GL.sn_ 0 ?_;refine GL.nl_ ?_
    refine GC.seq' ?_;refine GC.rr 1 ?_;refine GL.ld_ 0 ?_;refine GL.rn 3 ?_;refine GL.sp 19 ?_ ?_
    ·intro h2; try simp only [tst_] at h2
     first
     | (exfalso; first | omega | (have := (hall k (by omega)).2; omega))
     |(skip
       refine GL.rz 10 ?_;refine GC.cond_true rfl ?_;refine GC.rg 2 ?_;refine GC.ret (Fin.b2 2 3 [2, 1] [2] ?_)
       exact ⟨rfl, rfl, rfl⟩)
    intro h2; try simp only [tst_] at h2
    first
    | (exfalso; first | omega | (have := (hall k (by omega)).2; omega))
    |(skip
      refine GL.rn 2 ?_;refine GL.dg_ 0 ?_;refine GL.rn 1 ?_;refine GL.dg_ 0 ?_;refine GL.rn 1 ?_;refine GL.lg_ 0 2 ?_;refine GL.stepG rfl (s := 19) rfl rfl (t_call rfl Tryz.call165 rfl (is := [2, 1]) (js := [2, 1]) rfl rfl (by exact put_eq _ _ _ _ (tabOf (l.take k)) _ _ (gt l (k : Int)).result _ _ (tabOk_of (take_ok hk fun j hj => hall j (by omega))) 0 (tabOf (l.take (k + 1))) (put_next (by omega) (fun j hj => hall j (by omega)) (hall k (by omega)) (by omega)))) (GL.ret ?_)
      rintro _ _ _ ⟨es27, ck27, rfl, rfl, rfl⟩
      refine GL.rz 2 ?_;refine GC.cond_false rfl ?_
      refine GC.skip (?_ : GC _ _ _ _)
      refine GC.region ?_;refine GL.rn 1 ?_;refine GL.ld_ 2 ?_;refine GL.rn 1 ?_
      refine GL.nil (?_ : GC _ _ _ _)
      refine GC.region ?_;refine GL.pure rfl (p_add rfl rfl (w64 (by omega) (by omega))) ?_;refine GL.rn 1 ?_;refine GL.nil ?_
      exact fun a w h => ⟨(k + 1), (_), (_), (by omega), by omega, h.cut (is := [1, 0]) (js := [0, 4, 5]) ⟨rfl, rfl, rfl, rfl, rfl, trivial⟩ rfl rfl⟩))
 intro h1; try simp only [tst_] at h1
 first
 | (exfalso; first | omega | (have := (hall k (by omega)).2; omega))
 |(skip
   refine GC.exit (?_ : GC _ _ _ _)
   refine GC.rg 3 ?_;refine GC.ret (Fin.b2 2 3 [1, 0] [0] ?_)
   obtain rfl : k = l.length := by omega
   rw [List.take_length]
   exact ⟨_, _, _, _, rfl, rfl, rfl⟩)
theorem tload_bad (A : Option Addr) (l : List Row) (cp : Nat) (hl : l.length ≤ 140737488355328) (hr : rightF l = false) : Ct Tryz.prog 146 [.slice A l.length cp] [] [Pers.row kRow A l] (fun u G Q => u = .tuple #[.pointer none, .int .i64 60] ∧ G = [] ∧ Q = []) := by
 refine Ct.intro Tryz.func146 rfl rfl rfl (fun c hc => ?_)
 refine GC.rg 2 ?_;refine GC.sr_ ?_;refine GL.cl Tryz.call164 [] [] rfl rfl rfl (by exact tnew_ct) ?_
 rintro _ _ _ ⟨p8, m8, rfl, rfl, rfl⟩
 refine GL.rz 1 ?_;refine GC.rg 1 ?_;refine GC.seq' ?_;refine GC.rg 3 ?_;refine GC.block ?_;refine GC.loopK3 (ks := [4, 9, 10]) (is := [0]) (js := [0, 1]) (fun (k : Nat) (es : Array MapEntry) (ck : Nat) => k ≤ l.length ∧ (∀ j, j < k → okAt l j) ∧ k ≤ 64) (fun (k : Nat) (es : Array MapEntry) (ck : Nat) => [(5, .int .i64 (lastC l k)), (11, .int .i64 (k : Int))]) (fun (k : Nat) (es : Array MapEntry) (ck : Nat) => [.blk m8 (.map es ck)]) (fun (k : Nat) (es : Array MapEntry) (ck : Nat) => [Pers.map kLast true (tabOf (l.take k)) es ck]) (fun (k : Nat) (es : Array MapEntry) (ck : Nat) => l.length - k) (0) (_) (_) rfl rfl rfl (fun a w h => ⟨⟨by omega, fun j hj => by omega, by omega⟩, h.cutK (is := [1, 0]) (js := [0, 0, 1]) (ks := [4, 9, 10]) ⟨rfl, rfl, trivial⟩ rfl rfl rfl⟩) ?_
 intro k es ck hk
 try dsimp only [List.cons_append, List.nil_append] at hk ⊢
 refine GC.rg 1 ?_;refine GC.seq' ?_;refine GC.co ?_ ?_
 ·intro h1; try simp only [tst_] at h1
  first
  | (exfalso; first | omega | (simp at h1; done))
  |(skip
    refine GC.skip (?_ : GC _ _ _ _)
    refine GC.seq' ?_;refine GC.block ?_;refine GC.sr_ ?_
    by_cases hok : okAt l k ∧ k < 64
    ·skip
     refine GL.step rfl (t_index (i := 2) rfl rfl rfl rfl Tryz.underlying37 sz_61 (by omega) (gt_ok (by omega) (by omega))) (GL.ex fun p_x13 => GL.ex fun r_x13 => GL.and fun ok_x13 => ?_)
     rcases r_x13 with ⟨_, ⟨_, ⟨_, ⟨Ax13_0, cpx13_0⟩⟩⟩⟩
     refine GL.step rfl (t_mem rfl (m_loadPN (i := 0) rfl rfl ag_61 (vs := [_, _, _, _]) sz_61 ⟨rfl, rfl, rfl, rfl, trivial⟩)) ?_;refine GL.step rfl (t_alloc rfl ze_61) (GL.ex fun b_t7 => ?_);refine GL.sn_ 0 ?_;refine GL.nl_ ?_
     refine GC.seq' ?_;refine GC.rr 1 ?_;refine GL.ld_ 0 ?_;refine GL.rn 3 ?_;refine GL.sp 19 ?_ ?_
     ·intro h2; try simp only [tst_] at h2
      first
      | (exfalso; first | omega | (have := hok.1.2; omega))
      |(skip
        refine GL.rz 10 ?_;refine GC.cond_true rfl ?_;refine GC.rg 2 ?_;refine GC.ret (Fin.b2 2 3 [] [] ?_)
        exact ⟨rfl, rfl, rfl⟩)
     intro h2; try simp only [tst_] at h2
     first
     | (exfalso; first | omega | (have := hok.1.2; omega))
     |(skip
       refine GL.rn 2 ?_;refine GL.dg_ 0 ?_;refine GL.rn 1 ?_;refine GL.dg_ 0 ?_;refine GL.rn 1 ?_;refine GL.lg_ 0 2 ?_;refine GL.stepG rfl (s := 19) rfl rfl (t_call rfl Tryz.call165 rfl (is := [2, 1]) (js := [2, 1]) rfl rfl (by exact put_eq _ _ _ _ (tabOf (l.take k)) _ _ (gt l (k : Int)).result _ _ (tabOk_of (take_ok hk.1 hk.2.1)) 0 (tabOf (l.take (k + 1))) (put_next (by omega) hk.2.1 hok.1 hok.2))) (GL.ret ?_)
       rintro _ _ _ ⟨es27, ck27, rfl, rfl, rfl⟩
       refine GL.rz 2 ?_;refine GC.cond_false rfl ?_
       refine GC.skip (?_ : GC _ _ _ _)
       refine GC.region ?_;refine GL.rn 1 ?_;refine GL.ld_ 2 ?_;refine GL.rn 1 ?_
       refine GL.nil (?_ : GC _ _ _ _)
       refine GC.region ?_;refine GL.pure rfl (p_add rfl rfl (w64 (by omega) (by omega))) ?_;refine GL.rn 1 ?_;refine GL.nil ?_
       exact fun a w h => ⟨(k + 1), (_), (_), (by omega), ⟨by omega, fun j hj => (Nat.lt_succ_iff_lt_or_eq.1 hj).elim (hk.2.1 j) (fun e => by subst e; exact hok.1), by omega⟩, h.cut (is := [1, 0]) (js := [0, 4, 5]) ⟨rfl, rfl, rfl, rfl, rfl, trivial⟩ rfl rfl⟩)
    skip
    refine GL.step rfl (t_index (i := 2) rfl rfl rfl rfl Tryz.underlying37 sz_61 (by omega) (gt_ok (by omega) (by omega))) (GL.ex fun p_x13 => GL.ex fun r_x13 => GL.and fun ok_x13 => ?_)
    rcases r_x13 with ⟨_, ⟨_, ⟨_, ⟨Ax13_0, cpx13_0⟩⟩⟩⟩
    refine GL.step rfl (t_mem rfl (m_loadPN (i := 0) rfl rfl ag_61 (vs := [_, _, _, _]) sz_61 ⟨rfl, rfl, rfl, rfl, trivial⟩)) ?_;refine GL.step rfl (t_alloc rfl ze_61) (GL.ex fun b_t7 => ?_);refine GL.sn_ 0 ?_;refine GL.nl_ ?_
    refine GC.seq' ?_;refine GC.rr 1 ?_;refine GL.ld_ 0 ?_;refine GL.rn 3 ?_;refine GL.sp 19 ?_ ?_
    ·intro h3; try simp only [tst_] at h3
     first
     | (exfalso; first | omega | exact put_bad (by omega) hk.2.1 hk.2.2 hok (by omega) h3)
     |(skip
       refine GL.rz 10 ?_;refine GC.cond_true rfl ?_;refine GC.rg 2 ?_;refine GC.ret (Fin.b2 2 3 [] [] ?_)
       exact ⟨rfl, rfl, rfl⟩)
    intro h3; try simp only [tst_] at h3
    first
    | (exfalso; first | omega | exact put_bad (by omega) hk.2.1 hk.2.2 hok (by omega) h3)
    |(skip
      refine GL.rn 2 ?_;refine GL.dg_ 0 ?_;refine GL.rn 1 ?_;refine GL.dg_ 0 ?_;refine GL.rn 1 ?_;refine GL.lg_ 0 2 ?_;refine GL.stepG rfl (s := 19) rfl rfl (t_call rfl Tryz.call165 rfl (is := [2, 1]) (js := [2, 1]) rfl rfl (by exact put_ct _ _ _ _ (tabOf (l.take k)) _ _ (gt l (k : Int)).result _ _ (tabOk_of (take_ok hk.1 hk.2.1)))) (GL.ret ?_)
      rintro _ _ _ ⟨es27, ck27, rfl, rfl, rfl⟩
      refine GL.rz 2 ?_;refine GC.co ?_ ?_
      ·intro h4; try simp only [tst_] at h4
       first
       | (exfalso; first | omega | exact put_bad (by omega) hk.2.1 hk.2.2 hok (by omega) h4)
       |(skip
         refine GC.rg 2 ?_;refine GC.ret (Fin.b2 2 3 [] [] ?_)
         exact ⟨rfl, rfl, rfl⟩)
      intro h4; try simp only [tst_] at h4
      first
      | (exfalso; first | omega | exact put_bad (by omega) hk.2.1 hk.2.2 hok (by omega) h4)
      |(skip
        refine GC.skip (?_ : GC _ _ _ _)
        refine GC.region ?_;refine GL.rn 1 ?_;refine GL.ld_ 2 ?_;refine GL.rn 1 ?_
        refine GL.nil (?_ : GC _ _ _ _)
        refine GC.region ?_;refine GL.pure rfl (p_add rfl rfl (w64 (by omega) (by omega))) ?_;refine GL.rn 1 ?_;refine GL.nil ?_
        exact fun a w h => ⟨(k + 1), (_), (_), (by omega), ⟨by omega, fun j hj => (Nat.lt_succ_iff_lt_or_eq.1 hj).elim (hk.2.1 j) (fun e => by subst e; exact hok.1), by omega⟩, h.cut (is := [1, 0]) (js := [0, 4, 5]) ⟨rfl, rfl, rfl, rfl, rfl, trivial⟩ rfl rfl⟩)))
 intro h1; try simp only [tst_] at h1
 first
 | (exfalso; first | omega | (simp at h1; done))
 |(skip
   refine GC.exit (?_ : GC _ _ _ _)
   refine GC.rg 3 ?_;refine GC.ret (Fin.b2 2 3 [] [] ?_)
   exfalso
   obtain rfl : k = l.length := by omega
   rw [right_of hk.2.1 hk.2.2] at hr
   cases hr)
abbrev kI : Kd Int := Kd.int .i64
abbrev iv (x : Int) : Value := Value.int .i64 x
theorem mem_gt {α : Type} [Inhabited α] {l : List α} {x : α} (h : x ∈ l) : ∃ k : Nat, k < l.length ∧ gt l (k : Int) = x := by
  obtain ⟨k, hk, rfl⟩ := List.getElem_of_mem h
  have g := gt_ok (xs := l) (i := (k : Int)) (by omega) (by omega)
  simp only [Int.toNat_natCast, List.getElem?_eq_getElem hk, Option.some.injEq] at g
  exact ⟨k, hk, g.symm⟩
theorem ext_gtI {α : Type} [Inhabited α] {a b : List α} (hl : a.length = b.length) (h : ∀ j : Nat, j < a.length → gt a (j : Int) = gt b (j : Int)) : a = b := by
  apply List.ext_getElem hl
  intro i h1 h2
  have g1 := gt_ok (xs := a) (i := (i : Int)) (by omega) (by omega)
  have g2 := gt_ok (xs := b) (i := (i : Int)) (by omega) (by omega)
  simp only [Int.toNat_natCast, List.getElem?_eq_getElem h1, List.getElem?_eq_getElem h2, Option.some.injEq] at g1 g2
  rw [g1, g2, h i h1]
theorem zq8_ {X : Prop} (h : X := by (exact ⟨congrArg Value.bool (decide_eq_false fun e => by subst e; omega).symm, rfl, rfl⟩)) : X := h
theorem zq9_ {X : Prop} (h : X := by (exact ⟨congrArg Value.bool (decide_eq_false (fun e => by subst e; omega)).symm, rfl, rfl⟩)) : X := h
theorem zq10_ {X : Prop} (h : X := by (exact ⟨congrArg Value.bool (decide_eq_true (ext_gtI (by omega) fun j hj => he j (by omega))).symm, rfl, rfl⟩)) : X := h
theorem equal_i (A : Option Addr) (x : List Int) (cp : Nat) (B : Option Addr) (y : List Int) (cq : Nat) (hl : x.length ≤ 140737488355328) : Ct Tryz.prog 36 [.slice A x.length cp, .slice B y.length cq] [] [Pers.row kI A x, Pers.row kI B y] (fun u G Q => u = .bool (decide (x = y)) ∧ G = [] ∧ Q = []) := by
 refine Ct.intro Tryz.func36 rfl rfl rfl (fun c hc => ?_)
 refine GC.rg 1 ?_;refine GC.seq' ?_;refine GC.rg 5 ?_;refine GC.co ?_ ?_
 ·intro h1; try simp only [tst_] at h1
  refine GC.rg 1 ?_;refine GC.ret (Fin.b1 4 [] [] ?_)
  exact zq8_
 intro h1; try simp only [tst_] at h1
 refine GC.skip (?_ : GC _ _ _ _)
 refine GC.seq' ?_;refine GC.rg 3 ?_;refine GC.block ?_;refine GC.loopK1 (ks := [0, 1, 12]) (is := []) (js := [0, 1]) (fun (k : Nat) => k ≤ x.length ∧ ∀ j : Nat, j < k → gt x (j : Int) = gt y (j : Int)) (fun (k : Nat) => [(13, .int .i64 (k : Int))]) (fun (k : Nat) => []) (fun (k : Nat) => []) (fun (k : Nat) => x.length - k) (0) rfl rfl rfl (fun a w h => ⟨⟨by omega, fun j hj => by omega⟩, h.cutK (is := []) (js := [0, 1]) (ks := [0, 1, 12]) ⟨rfl, trivial⟩ rfl rfl rfl⟩) ?_
 intro k hk
 try dsimp only [List.cons_append, List.nil_append] at hk ⊢
 obtain ⟨hk, he⟩ := hk
 refine GC.rg 1 ?_;refine GC.seq' ?_;refine GC.co ?_ ?_
 ·intro h2; try simp only [tst_] at h2
  refine GC.skip (?_ : GC _ _ _ _)
  refine GC.seq' ?_;refine GC.block ?_;refine GC.rg 2 ?_;refine GC.seq' ?_;refine GC.layQ (y := .tmp 5) (j := 0) rfl rfl (by omega) (gt_ok (by omega) (by omega)) (fun p_x18 r_x18 hA_x18 ok_x18 => ?_)
  rcases r_x18 with _
  refine GC.layQ (y := .tmp 5) (j := 2) rfl rfl (by omega) (gt_ok (by omega) (by omega)) (fun p_x22 r_x22 hA_x22 ok_x22 => ?_)
  rcases r_x22 with _
  refine GC.regionQ wide_ (by kernel_rfl) ?_;refine GQ.rn 2 ?_;refine GQ.step rfl (q_pure (p_indexL hA_x18 rfl rfl Tryz.underlying31 sz_3 (by omega) (by omega))) ?_;refine GQ.step rfl (q_mem (m_loadP (i := 1) rfl rfl ag_3 rfl)) ?_
  refine GQ.rn 2 ?_;refine GQ.step rfl (q_pure (p_indexL hA_x22 rfl rfl Tryz.underlying31 sz_3 (by omega) (by omega))) ?_;refine GQ.step rfl (q_mem (m_loadP (i := 0) rfl rfl ag_3 rfl)) ?_;refine GQ.rn 1 ?_
  refine GQ.nil (?_ : GC _ _ _ _)
  refine GC.co ?_ ?_
  ·intro h3; try simp only [tst_] at h3
   refine GC.rg 1 ?_;refine GC.ret (Fin.b1 4 [] [] ?_)
   exact zq9_
  intro h3; try simp only [tst_] at h3
  refine GC.skip (?_ : GC _ _ _ _)
  refine GC.region ?_;refine GL.pure rfl (p_add rfl rfl (w64 (by omega) (by omega))) ?_;refine GL.rn 1 ?_;refine GL.nil ?_
  exact fun a w h => ⟨(k + 1), (by omega), ⟨by omega, fun j hj => (Nat.lt_succ_iff_lt_or_eq.1 hj).elim (he j) (fun e => by subst e; omega)⟩, h.ct [] [2, 3]⟩
 intro h2; try simp only [tst_] at h2
 refine GC.exit (?_ : GC _ _ _ _)
 refine GC.rg 1 ?_;refine GC.ret (Fin.b1 4 [] [] ?_)
 exact zq10_
theorem clone_i (A : Option Addr) (xs : List Int) (cp : Nat) (hx : xs.length ≤ 17592186044416) : Ct Tryz.prog 167 [.slice A xs.length cp] [] [Pers.row kI A xs]
    (fun v G Q => ∃ A' cp', xs.length ≤ cp' ∧ cp' ≤ 9223372036854775807 ∧ v = .slice A' xs.length cp' ∧ G = [.row (.slice A' xs.length cp') 3 1 xs.length (xs.map iv)] ∧ Q = []) := by
 cases A with
 | none =>
   refine Ct.pure (fun w S h => row_none (h.per _ (List.mem_singleton.2 rfl))) fun hx0 => ?_
   subst hx0
   refine Ct.intro Tryz.func167 rfl rfl rfl (fun c hc => ?_)
   refine GC.rg 1 ?_;refine GC.seq' ?_;refine GC.rr 1 ?_;refine GL.pure rfl (p_slnil_eql Tryz.underlying31 rfl rfl) ?_;refine GL.nl_ ?_;refine GC.cond_true rfl ?_;refine GC.rg 1 ?_;refine GC.nilrow 3 1 ?_;refine GC.ret (Fin.b1 2 [0] [] ?_)
   exact ⟨_, _, by simp, by simp, rfl, rfl, rfl⟩
 | some a =>
   refine Ct.intro Tryz.func167 rfl rfl rfl (fun c hc => ?_)
   refine GC.rg 1 ?_;refine GC.seq' ?_;refine GC.rr 1 ?_;refine GL.pure rfl (p_slnil_eql Tryz.underlying31 rfl rfl) ?_;refine GL.nl_ ?_;refine GC.cond_false rfl ?_
   refine GC.skip (?_ : GC _ _ _ _)
   refine GC.sr_ ?_;refine GL.step rfl (t_buildSlice rfl Tryz.underlying31 sz_3 ze_3 rfl rfl rfl rfl rfl rfl) (GL.ex fun b_t5 => ?_);refine GL.rn 1 ?_;refine GL.torow (i := 0) (m := 0) (sz := 1) rfl rfl (by decide) rfl ?_
   refine GL.step rfl (t_appendS (i := 0) (k := 0) rfl el_31 rfl rfl rfl rfl (by simp; omega) (fun _ => rfl)) (GL.ex fun v7 => ?_);refine GL.rz 1 ?_;refine GC.shape (i := 0) rfl (fun A1 c1 e1 l1 l2 => ?_)
   subst e1
   simp only [Nat.zero_add, List.nil_append] at l1 ⊢
   refine GC.ret (Fin.b1 2 [0] [] ?_)
   exact ⟨_, _, l1, l2, rfl, rfl, rfl⟩
def incI : Int → List Int → Bool
  | _, [] => true
  | b, x :: l => decide (b < x) && decide (x < 64) && incI x l
def groupOk (e : Int) (l : List Int) : Bool := decide (0 ≤ e) && decide (e ≤ 4611686018427387904) && decide (1 ≤ l.length) && decide (l.length ≤ 9) && incI (-1) l
def lastI (l : List Int) : Nat → Int
  | 0 => -1
  | k + 1 => gt l (k : Int)
theorem drop_gtI {α : Type} [Inhabited α] {l : List α} {k : Nat} (h : k < l.length) : l.drop k = gt l (k : Int) :: l.drop (k + 1) := by
  have := gt_ok (xs := l) (i := (k : Int)) (by omega) (by omega)
  simp only [Int.toNat_natCast] at this
  rw [List.drop_eq_getElem_cons h]
  rw [List.getElem?_eq_getElem h] at this
  simp only [Option.some.injEq] at this
  rw [this]
theorem incI_step {l : List Int} {k : Nat} {b : Int} (h : k < l.length) : incI b (l.drop k) = (decide (b < gt l (k : Int)) && decide (gt l (k : Int) < 64) && incI (gt l (k : Int)) (l.drop (k + 1))) := by
  rw [drop_gtI h]; rfl
theorem incI_ok {l : List Int} {k : Nat} {b : Int} (h : k < l.length) (h1 : b < gt l (k : Int)) (h2 : gt l (k : Int) < 64) : incI b (l.drop k) = incI (gt l (k : Int)) (l.drop (k + 1)) := by
  rw [incI_step h, decide_eq_true h1, decide_eq_true h2]; rfl
theorem incI_bad {l : List Int} {k : Nat} {b : Int} (h : k < l.length) (h1 : gt l (k : Int) ≤ b ∨ 64 ≤ gt l (k : Int)) : incI b (l.drop k) = false := by
  rw [incI_step h]
  rcases h1 with h1 | h1
  · rw [decide_eq_false (by omega)]; rfl
  · rw [decide_eq_false (show ¬ gt l (k : Int) < 64 by omega), Bool.and_false, Bool.false_and]
theorem grp_next {x b nb : Bool} {l : List Int} {k : Nat} (hk : k < l.length) (he : x = (b && incI (lastI l k) (l.drop k))) (hb : nb = (b && decide (lastI l k < gt l (k : Int)) && decide (gt l (k : Int) < 64))) : x = (nb && incI (lastI l (k + 1)) (l.drop (k + 1))) := by
  subst hb; rw [he, incI_step hk, lastI, Bool.and_assoc, Bool.and_assoc, Bool.and_assoc]
abbrev grpV (e : Int) (A : Option Addr) (n cp : Nat) : Value := .agg #[.int .i64 e, .slice A n cp]
theorem zq11_ {X : Prop} (h : X := by (exact fun a w h => ⟨(k + 1), (_), (by omega), ⟨by omega, grp_next (by omega) he (by rw [Bool.eq_iff_iff]; (try simp [*]) <;> omega)⟩, h.cut (is := [0]) (js := [1]) ⟨rfl, rfl, rfl, rfl, rfl, trivial⟩ rfl rfl⟩)) : X := h
theorem mgroup_ct (e : Int) (A : Option Addr) (l : List Int) (cp : Nat) (hl : l.length ≤ 140737488355328) : Ct Tryz.prog 62 [grpV e A l.length cp] [] [Pers.row kI A l] (fun u G Q => u = .int .i64 (if groupOk e l = true then 0 else 71) ∧ G = [] ∧ Q = []) := by
 refine Ct.intro Tryz.func62 rfl rfl rfl (fun c hc => ?_)
 refine GC.sr_ ?_;refine GL.step rfl (t_box rfl rfl rfl) (GL.ex fun b_t1 => ?_);refine GL.rz 1 ?_;refine GC.rr 1 ?_;refine GL.ld_ 0 ?_;refine GL.rn 2 ?_;refine GL.sp 10 ?_ ?_
 ·intro h1; try simp only [tst_] at h1
  refine GL.rn 1 ?_;refine GL.dg_ 0 ?_;refine GL.rn 3 ?_;refine GL.sp 15 ?_ ?_
  ·intro h2; try simp only [tst_] at h2
   refine GL.rn 1 ?_;refine GL.dg_ 0 ?_;refine GL.rn 4 ?_;refine GL.sp 21 ?_ ?_
   ·intro h3; try simp only [tst_] at h3
    refine GL.rn 1 ?_;refine GL.dg_ 0 ?_;refine GL.rz 4 ?_;refine GC.rg 1 ?_;refine GC.seq' ?_;refine GC.rr 1 ?_;refine GL.ld_ 0 ?_;refine GL.rz 2 ?_;refine GC.block ?_;refine GC.loopK2 (ks := [28, 29]) (is := [0]) (js := [0]) (fun (k : Nat) (b : Bool) => k ≤ l.length ∧ groupOk e l = (b && incI (lastI l k) (l.drop k))) (fun (k : Nat) (b : Bool) => [(3, .bool b), (4, .int .i64 (lastI l k)), (30, .int .i64 (k : Int))]) (fun (k : Nat) (b : Bool) => []) (fun (k : Nat) (b : Bool) => []) (fun (k : Nat) (b : Bool) => l.length - k) (0) (_) rfl rfl rfl (fun a w h => ⟨⟨by omega, by unfold groupOk; congr 1; rw [Bool.eq_iff_iff]; (try simp) <;> omega⟩, h.cutK (is := [0]) (js := [0]) (ks := [28, 29]) ⟨rfl, rfl, rfl, trivial⟩ rfl rfl rfl⟩) ?_
    intro k b hk
    try dsimp only [List.cons_append, List.nil_append] at hk ⊢
    obtain ⟨hk, he⟩ := hk
    refine GC.rg 1 ?_;refine GC.seq' ?_;refine GC.co ?_ ?_
    ·intro h4; try simp only [tst_] at h4
     refine GC.skip (?_ : GC _ _ _ _)
     refine GC.seq' ?_;refine GC.block ?_;refine GC.sr_ ?_;refine GL.step rfl (t_index (i := 0) rfl rfl rfl rfl Tryz.underlying31 sz_3 (by omega) (gt_ok (by omega) (by omega))) (GL.ex fun p_x32 => GL.ex fun r_x32 => GL.and fun ok_x32 => ?_)
     rcases r_x32 with _
     refine GL.step rfl (t_mem rfl (m_loadP (i := 0) rfl rfl ag_3 rfl)) ?_;refine GL.rz 1 ?_;refine GC.rr 2 ?_;refine GL.sp 35 ?_ ?_
     ·intro h5; try simp only [tst_] at h5
      refine GL.rn 5 ?_;refine GL.sp 40 ?_ ?_
      ·intro h6; try simp only [tst_] at h6
       refine GL.rz 4 ?_;refine GC.region ?_;refine GL.rn 2 ?_
       refine GL.nil (?_ : GC _ _ _ _)
       refine GC.region ?_;refine GL.pure rfl (p_add rfl rfl (w64 (by omega) (by omega))) ?_;refine GL.rn 1 ?_;refine GL.nil ?_
       exact zq11_
      intro h6; try simp only [tst_] at h6
      refine GL.rz 4 ?_;refine GC.region ?_;refine GL.rn 2 ?_
      refine GL.nil (?_ : GC _ _ _ _)
      refine GC.region ?_;refine GL.pure rfl (p_add rfl rfl (w64 (by omega) (by omega))) ?_;refine GL.rn 1 ?_;refine GL.nil ?_
      exact zq11_
     intro h5; try simp only [tst_] at h5
     refine GL.rz 9 ?_;refine GC.region ?_;refine GL.rn 2 ?_
     refine GL.nil (?_ : GC _ _ _ _)
     refine GC.region ?_;refine GL.pure rfl (p_add rfl rfl (w64 (by omega) (by omega))) ?_;refine GL.rn 1 ?_;refine GL.nil ?_
     exact zq11_
    intro h4; try simp only [tst_] at h4
    refine GC.exit (?_ : GC _ _ _ _)
    refine GC.seq' ?_;refine GC.rg 2 ?_;refine GC.co ?_ ?_
    ·intro h7; try simp only [tst_] at h7
     refine GC.rg 1 ?_;refine GC.ret (Fin.b1 2 [] [] ?_)
     obtain rfl : k = l.length := by omega
     rw [List.drop_of_length_le (Nat.le_refl _)] at he
     refine ⟨congrArg (Value.int .i64) ?_, rfl, rfl⟩
     rw [he]; simp [incI, *]
    intro h7; try simp only [tst_] at h7
    refine GC.skip (?_ : GC _ _ _ _)
    refine GC.rg 1 ?_;refine GC.ret (Fin.b1 2 [] [] ?_)
    obtain rfl : k = l.length := by omega
    rw [List.drop_of_length_le (Nat.le_refl _)] at he
    refine ⟨congrArg (Value.int .i64) ?_, rfl, rfl⟩
    rw [he]; simp [incI, *]
   intro h3; try simp only [tst_] at h3
   refine GL.rz 6 ?_;refine GC.rg 1 ?_;refine GC.seq' ?_;refine GC.rr 1 ?_;refine GL.ld_ 0 ?_;refine GL.rz 2 ?_;refine GC.block ?_;refine GC.loopK2 (ks := [28, 29]) (is := [0]) (js := [0]) (fun (k : Nat) (b : Bool) => k ≤ l.length ∧ groupOk e l = (b && incI (lastI l k) (l.drop k))) (fun (k : Nat) (b : Bool) => [(3, .bool b), (4, .int .i64 (lastI l k)), (30, .int .i64 (k : Int))]) (fun (k : Nat) (b : Bool) => []) (fun (k : Nat) (b : Bool) => []) (fun (k : Nat) (b : Bool) => l.length - k) (0) (_) rfl rfl rfl (fun a w h => ⟨⟨by omega, by unfold groupOk; congr 1; rw [Bool.eq_iff_iff]; (try simp) <;> omega⟩, h.cutK (is := [0]) (js := [0]) (ks := [28, 29]) ⟨rfl, rfl, rfl, trivial⟩ rfl rfl rfl⟩) ?_
   intro k b hk
   try dsimp only [List.cons_append, List.nil_append] at hk ⊢
   obtain ⟨hk, he⟩ := hk
   refine GC.rg 1 ?_;refine GC.seq' ?_;refine GC.co ?_ ?_
   ·intro h8; try simp only [tst_] at h8
    refine GC.skip (?_ : GC _ _ _ _)
    refine GC.seq' ?_;refine GC.block ?_;refine GC.sr_ ?_;refine GL.step rfl (t_index (i := 0) rfl rfl rfl rfl Tryz.underlying31 sz_3 (by omega) (gt_ok (by omega) (by omega))) (GL.ex fun p_x32 => GL.ex fun r_x32 => GL.and fun ok_x32 => ?_)
    rcases r_x32 with _
    refine GL.step rfl (t_mem rfl (m_loadP (i := 0) rfl rfl ag_3 rfl)) ?_;refine GL.rz 1 ?_;refine GC.rr 2 ?_;refine GL.sp 35 ?_ ?_
    ·intro h9; try simp only [tst_] at h9
     refine GL.rn 5 ?_;refine GL.sp 40 ?_ ?_
     ·intro h10; try simp only [tst_] at h10
      refine GL.rz 4 ?_;refine GC.region ?_;refine GL.rn 2 ?_
      refine GL.nil (?_ : GC _ _ _ _)
      refine GC.region ?_;refine GL.pure rfl (p_add rfl rfl (w64 (by omega) (by omega))) ?_;refine GL.rn 1 ?_;refine GL.nil ?_
      exact zq11_
     intro h10; try simp only [tst_] at h10
     refine GL.rz 4 ?_;refine GC.region ?_;refine GL.rn 2 ?_
     refine GL.nil (?_ : GC _ _ _ _)
     refine GC.region ?_;refine GL.pure rfl (p_add rfl rfl (w64 (by omega) (by omega))) ?_;refine GL.rn 1 ?_;refine GL.nil ?_
     exact zq11_
    intro h9; try simp only [tst_] at h9
    refine GL.rz 9 ?_;refine GC.region ?_;refine GL.rn 2 ?_
    refine GL.nil (?_ : GC _ _ _ _)
    refine GC.region ?_;refine GL.pure rfl (p_add rfl rfl (w64 (by omega) (by omega))) ?_;refine GL.rn 1 ?_;refine GL.nil ?_
    exact zq11_
   intro h8; try simp only [tst_] at h8
   refine GC.exit (?_ : GC _ _ _ _)
   refine GC.seq' ?_;refine GC.rg 2 ?_;refine GC.co ?_ ?_
   ·intro h11; try simp only [tst_] at h11
    refine GC.rg 1 ?_;refine GC.ret (Fin.b1 2 [] [] ?_)
    obtain rfl : k = l.length := by omega
    rw [List.drop_of_length_le (Nat.le_refl _)] at he
    refine ⟨congrArg (Value.int .i64) ?_, rfl, rfl⟩
    rw [he]; simp [incI, *]
   intro h11; try simp only [tst_] at h11
   refine GC.skip (?_ : GC _ _ _ _)
   refine GC.rg 1 ?_;refine GC.ret (Fin.b1 2 [] [] ?_)
   obtain rfl : k = l.length := by omega
   rw [List.drop_of_length_le (Nat.le_refl _)] at he
   refine ⟨congrArg (Value.int .i64) ?_, rfl, rfl⟩
   rw [he]; simp [incI, *]
  intro h2; try simp only [tst_] at h2
  refine GL.rz 12 ?_;refine GC.rg 1 ?_;refine GC.seq' ?_;refine GC.rr 1 ?_;refine GL.ld_ 0 ?_;refine GL.rz 2 ?_;refine GC.block ?_;refine GC.loopK2 (ks := [28, 29]) (is := [0]) (js := [0]) (fun (k : Nat) (b : Bool) => k ≤ l.length ∧ groupOk e l = (b && incI (lastI l k) (l.drop k))) (fun (k : Nat) (b : Bool) => [(3, .bool b), (4, .int .i64 (lastI l k)), (30, .int .i64 (k : Int))]) (fun (k : Nat) (b : Bool) => []) (fun (k : Nat) (b : Bool) => []) (fun (k : Nat) (b : Bool) => l.length - k) (0) (_) rfl rfl rfl (fun a w h => ⟨⟨by omega, by unfold groupOk; congr 1; rw [Bool.eq_iff_iff]; (try simp) <;> omega⟩, h.cutK (is := [0]) (js := [0]) (ks := [28, 29]) ⟨rfl, rfl, rfl, trivial⟩ rfl rfl rfl⟩) ?_
  intro k b hk
  try dsimp only [List.cons_append, List.nil_append] at hk ⊢
  obtain ⟨hk, he⟩ := hk
  refine GC.rg 1 ?_;refine GC.seq' ?_;refine GC.co ?_ ?_
  ·intro h12; try simp only [tst_] at h12
   refine GC.skip (?_ : GC _ _ _ _)
   refine GC.seq' ?_;refine GC.block ?_;refine GC.sr_ ?_;refine GL.step rfl (t_index (i := 0) rfl rfl rfl rfl Tryz.underlying31 sz_3 (by omega) (gt_ok (by omega) (by omega))) (GL.ex fun p_x32 => GL.ex fun r_x32 => GL.and fun ok_x32 => ?_)
   rcases r_x32 with _
   refine GL.step rfl (t_mem rfl (m_loadP (i := 0) rfl rfl ag_3 rfl)) ?_;refine GL.rz 1 ?_;refine GC.rr 2 ?_;refine GL.sp 35 ?_ ?_
   ·intro h13; try simp only [tst_] at h13
    refine GL.rn 5 ?_;refine GL.sp 40 ?_ ?_
    ·intro h14; try simp only [tst_] at h14
     refine GL.rz 4 ?_;refine GC.region ?_;refine GL.rn 2 ?_
     refine GL.nil (?_ : GC _ _ _ _)
     refine GC.region ?_;refine GL.pure rfl (p_add rfl rfl (w64 (by omega) (by omega))) ?_;refine GL.rn 1 ?_;refine GL.nil ?_
     exact zq11_
    intro h14; try simp only [tst_] at h14
    refine GL.rz 4 ?_;refine GC.region ?_;refine GL.rn 2 ?_
    refine GL.nil (?_ : GC _ _ _ _)
    refine GC.region ?_;refine GL.pure rfl (p_add rfl rfl (w64 (by omega) (by omega))) ?_;refine GL.rn 1 ?_;refine GL.nil ?_
    exact zq11_
   intro h13; try simp only [tst_] at h13
   refine GL.rz 9 ?_;refine GC.region ?_;refine GL.rn 2 ?_
   refine GL.nil (?_ : GC _ _ _ _)
   refine GC.region ?_;refine GL.pure rfl (p_add rfl rfl (w64 (by omega) (by omega))) ?_;refine GL.rn 1 ?_;refine GL.nil ?_
   exact zq11_
  intro h12; try simp only [tst_] at h12
  refine GC.exit (?_ : GC _ _ _ _)
  refine GC.seq' ?_;refine GC.rg 2 ?_;refine GC.co ?_ ?_
  ·intro h15; try simp only [tst_] at h15
   refine GC.rg 1 ?_;refine GC.ret (Fin.b1 2 [] [] ?_)
   obtain rfl : k = l.length := by omega
   rw [List.drop_of_length_le (Nat.le_refl _)] at he
   refine ⟨congrArg (Value.int .i64) ?_, rfl, rfl⟩
   rw [he]; simp [incI, *]
  intro h15; try simp only [tst_] at h15
  refine GC.skip (?_ : GC _ _ _ _)
  refine GC.rg 1 ?_;refine GC.ret (Fin.b1 2 [] [] ?_)
  obtain rfl : k = l.length := by omega
  rw [List.drop_of_length_le (Nat.le_refl _)] at he
  refine ⟨congrArg (Value.int .i64) ?_, rfl, rfl⟩
  rw [he]; simp [incI, *]
 intro h1; try simp only [tst_] at h1
 refine GL.rz 17 ?_;refine GC.rg 1 ?_;refine GC.seq' ?_;refine GC.rr 1 ?_;refine GL.ld_ 0 ?_;refine GL.rz 2 ?_;refine GC.block ?_;refine GC.loopK2 (ks := [28, 29]) (is := [0]) (js := [0]) (fun (k : Nat) (b : Bool) => k ≤ l.length ∧ groupOk e l = (b && incI (lastI l k) (l.drop k))) (fun (k : Nat) (b : Bool) => [(3, .bool b), (4, .int .i64 (lastI l k)), (30, .int .i64 (k : Int))]) (fun (k : Nat) (b : Bool) => []) (fun (k : Nat) (b : Bool) => []) (fun (k : Nat) (b : Bool) => l.length - k) (0) (_) rfl rfl rfl (fun a w h => ⟨⟨by omega, by unfold groupOk; congr 1; rw [Bool.eq_iff_iff]; (try simp) <;> omega⟩, h.cutK (is := [0]) (js := [0]) (ks := [28, 29]) ⟨rfl, rfl, rfl, trivial⟩ rfl rfl rfl⟩) ?_
 intro k b hk
 try dsimp only [List.cons_append, List.nil_append] at hk ⊢
 obtain ⟨hk, he⟩ := hk
 refine GC.rg 1 ?_;refine GC.seq' ?_;refine GC.co ?_ ?_
 ·intro h16; try simp only [tst_] at h16
  refine GC.skip (?_ : GC _ _ _ _)
  refine GC.seq' ?_;refine GC.block ?_;refine GC.sr_ ?_;refine GL.step rfl (t_index (i := 0) rfl rfl rfl rfl Tryz.underlying31 sz_3 (by omega) (gt_ok (by omega) (by omega))) (GL.ex fun p_x32 => GL.ex fun r_x32 => GL.and fun ok_x32 => ?_)
  rcases r_x32 with _
  refine GL.step rfl (t_mem rfl (m_loadP (i := 0) rfl rfl ag_3 rfl)) ?_;refine GL.rz 1 ?_;refine GC.rr 2 ?_;refine GL.sp 35 ?_ ?_
  ·intro h17; try simp only [tst_] at h17
   refine GL.rn 5 ?_;refine GL.sp 40 ?_ ?_
   ·intro h18; try simp only [tst_] at h18
    refine GL.rz 4 ?_;refine GC.region ?_;refine GL.rn 2 ?_
    refine GL.nil (?_ : GC _ _ _ _)
    refine GC.region ?_;refine GL.pure rfl (p_add rfl rfl (w64 (by omega) (by omega))) ?_;refine GL.rn 1 ?_;refine GL.nil ?_
    exact zq11_
   intro h18; try simp only [tst_] at h18
   refine GL.rz 4 ?_;refine GC.region ?_;refine GL.rn 2 ?_
   refine GL.nil (?_ : GC _ _ _ _)
   refine GC.region ?_;refine GL.pure rfl (p_add rfl rfl (w64 (by omega) (by omega))) ?_;refine GL.rn 1 ?_;refine GL.nil ?_
   exact zq11_
  intro h17; try simp only [tst_] at h17
  refine GL.rz 9 ?_;refine GC.region ?_;refine GL.rn 2 ?_
  refine GL.nil (?_ : GC _ _ _ _)
  refine GC.region ?_;refine GL.pure rfl (p_add rfl rfl (w64 (by omega) (by omega))) ?_;refine GL.rn 1 ?_;refine GL.nil ?_
  exact zq11_
 intro h16; try simp only [tst_] at h16
 refine GC.exit (?_ : GC _ _ _ _)
 refine GC.seq' ?_;refine GC.rg 2 ?_;refine GC.co ?_ ?_
 ·intro h19; try simp only [tst_] at h19
  refine GC.rg 1 ?_;refine GC.ret (Fin.b1 2 [] [] ?_)
  obtain rfl : k = l.length := by omega
  rw [List.drop_of_length_le (Nat.le_refl _)] at he
  refine ⟨congrArg (Value.int .i64) ?_, rfl, rfl⟩
  rw [he]; simp [incI, *]
 intro h19; try simp only [tst_] at h19
 refine GC.skip (?_ : GC _ _ _ _)
 refine GC.rg 1 ?_;refine GC.ret (Fin.b1 2 [] [] ?_)
 obtain rfl : k = l.length := by omega
 rw [List.drop_of_length_le (Nat.le_refl _)] at he
 refine ⟨congrArg (Value.int .i64) ?_, rfl, rfl⟩
 rw [he]; simp [incI, *]
theorem incI_end {l : List Int} {k : Nat} (h : l.length ≤ k) (b : Int) : incI b (l.drop k) = true := by rw [List.drop_of_length_le h]; rfl
theorem rgroup_ct (e : Int) (A : Option Addr) (l : List Int) (cp : Nat) (hl : l.length ≤ 140737488355328) : Ct Tryz.prog 32 [grpV e A l.length cp] [] [Pers.row kI A l] (fun u G Q => u = .int .i64 (if groupOk e l = true then 0 else 71) ∧ G = [] ∧ Q = []) := by
 refine Ct.intro Tryz.func32 rfl rfl rfl (fun c hc => ?_)
 refine GC.sr_ ?_;refine GL.step rfl (t_box rfl rfl rfl) (GL.ex fun b_t1 => ?_);refine GL.rz 1 ?_;refine GC.seq' ?_;refine GC.rr 1 ?_;refine GL.ld_ 0 ?_;refine GL.rn 2 ?_;refine GL.sp 7 ?_ ?_
 ·intro h1; try simp only [tst_] at h1
  first
  | (exfalso; omega)
  |(skip
    refine GL.rz 16 ?_;refine GC.cond_true rfl ?_;refine GC.rg 1 ?_;refine GC.ret (Fin.b1 2 [] [] ?_)
    exact ⟨by rw [if_neg (by unfold groupOk; simp; omega)]; rfl, rfl, rfl⟩)
 intro h1; try simp only [tst_] at h1
 first
 | (exfalso; omega)
 |(skip
   refine GL.rn 1 ?_;refine GL.dg_ 0 ?_;refine GL.rn 3 ?_;refine GL.sp 12 ?_ ?_
   ·intro h2; try simp only [tst_] at h2
    first
    | (exfalso; omega)
    |(skip
      refine GL.rz 11 ?_;refine GC.cond_true rfl ?_;refine GC.rg 1 ?_;refine GC.ret (Fin.b1 2 [] [] ?_)
      exact ⟨by rw [if_neg (by unfold groupOk; simp; omega)]; rfl, rfl, rfl⟩)
   intro h2; try simp only [tst_] at h2
   first
   | (exfalso; omega)
   |(skip
     refine GL.rn 1 ?_;refine GL.dg_ 0 ?_;refine GL.rn 4 ?_;refine GL.sp 18 ?_ ?_
     ·intro h3; try simp only [tst_] at h3
      first
      | (exfalso; omega)
      |(skip
        refine GL.rz 5 ?_;refine GC.cond_true rfl ?_;refine GC.rg 1 ?_;refine GC.ret (Fin.b1 2 [] [] ?_)
        exact ⟨by rw [if_neg (by unfold groupOk; simp; omega)]; rfl, rfl, rfl⟩)
     intro h3; try simp only [tst_] at h3
     first
     | (exfalso; omega)
     |(skip
       refine GL.rn 1 ?_;refine GL.dg_ 0 ?_;refine GL.rz 3 ?_;refine GC.co ?_ ?_
       ·intro h4; try simp only [tst_] at h4
        first
        | (exfalso; omega)
        |(skip
          refine GC.rg 1 ?_;refine GC.ret (Fin.b1 2 [] [] ?_)
          exact ⟨by rw [if_neg (by unfold groupOk; simp; omega)]; rfl, rfl, rfl⟩)
       intro h4; try simp only [tst_] at h4
       first
       | (exfalso; omega)
       |(skip
         refine GC.skip (?_ : GC _ _ _ _)
         refine GC.seq' ?_;refine GC.rg 1 ?_;refine GC.block ?_;refine GC.loopK1 (ks := [1]) (is := [0]) (js := [0]) (fun (k : Nat) => k ≤ l.length ∧ incI (-1) l = incI (lastI l k) (l.drop k) ∧ -1 ≤ lastI l k) (fun (k : Nat) => [(3, .int .i64 (k : Int))]) (fun (k : Nat) => []) (fun (k : Nat) => []) (fun (k : Nat) => l.length - k) (0) rfl rfl rfl (fun a w h => ⟨⟨by omega, rfl, by simp [lastI]⟩, h.cutK (is := [0]) (js := [0]) (ks := [1]) ⟨rfl, trivial⟩ rfl rfl rfl⟩) ?_
         intro k hk
         try dsimp only [List.cons_append, List.nil_append] at hk ⊢
         obtain ⟨hk, he, hlast⟩ := hk
         refine GC.seq' ?_;refine GC.rr 2 ?_;refine GL.ld_ 0 ?_;refine GL.rz 2 ?_;refine GC.co ?_ ?_
         ·intro h5; try simp only [tst_] at h5
          first
          | (exfalso; omega)
          |(skip
            refine GC.skip (?_ : GC _ _ _ _)
            refine GC.seq' ?_;refine GC.block ?_;refine GC.seq' ?_
            rcases k with _ | k
            ·skip
             refine GC.layQ (y := .tmp 3) (j := 0) rfl rfl (by omega) (gt_ok (by omega) (by omega)) (fun p_x34 r_x34 hA_x34 ok_x34 => ?_)
             rcases r_x34 with _
             refine GC.layQ (y := .tmp 3) (j := 1) rfl rfl (by omega) (gt_ok (by omega) (by omega)) (fun p_x41 r_x41 hA_x41 ok_x41 => ?_)
             rcases r_x41 with _
             refine GC.layQ (y := .tmp 3) (j := 2) rfl rfl (by omega) (gt_ok (by omega) (by omega)) (fun p_x52 r_x52 hA_x52 ok_x52 => ?_)
             rcases r_x52 with _
             refine GC.regionQ wide_ (by kernel_rfl) ?_;refine GQ.rn 1 ?_;refine GQ.step rfl (q_mem (m_load (i := 0) rfl rfl ag_31 rfl)) ?_;refine GQ.rn 1 ?_;refine GQ.step rfl (q_pure (p_indexL hA_x34 rfl rfl Tryz.underlying31 sz_3 (by omega) (by omega))) ?_
             refine GQ.step rfl (q_mem (m_loadP (i := 2) rfl rfl ag_3 rfl)) ?_;refine GQ.rn 2 ?_;refine GQ.split (i := 37) rfl (fun h6 => ?_) (fun h6 => ?_)
             ·try simp only [tst_] at h6
              first
              | (exfalso; omega)
              |(skip
                refine GQ.rn 11 ?_
                iterate 12 refine GQ.passU (s := 48) rfl rfl rfl ?_
                refine GQ.rn 2 ?_
                refine GQ.nil (?_ : GC _ _ _ _)
                refine GC.cond_true rfl ?_;refine GC.rg 1 ?_;refine GC.ret (Fin.b1 2 [] [] ?_)
                refine ⟨?_, rfl, rfl⟩
                (try simp only [show ∀ x : Nat, ((x + 1 : Nat) : Int) - 1 = x by omega] at *)
                rw [if_neg (by unfold groupOk; rw [he, incI_bad (by omega) (by simp only [lastI] at hlast ⊢; omega), Bool.and_false]; simp)]
                rfl)
             try simp only [tst_] at h6
             first
             | (exfalso; omega)
             |(skip
               refine GQ.rn 1 ?_;refine GQ.stepG (s := 37) rfl rfl rfl (q_mem (m_load (i := 0) rfl rfl ag_31 rfl)) ?_;refine GQ.rn 1 ?_;refine GQ.stepG (s := 37) rfl rfl rfl (q_pure (p_indexL hA_x41 rfl rfl Tryz.underlying31 sz_3 (by omega) (by omega))) ?_
               refine GQ.stepG (s := 37) rfl rfl rfl (q_mem (m_loadP (i := 1) rfl rfl ag_3 rfl)) ?_;refine GQ.rn 3 ?_;refine GQ.split (i := 45) rfl (fun h7 => ?_) (fun h7 => ?_)
               ·try simp only [tst_] at h7
                first
                | (exfalso; omega)
                |(skip
                  refine GQ.rn 3 ?_
                  iterate 12 refine GQ.passU (s := 48) rfl rfl rfl ?_
                  refine GQ.rn 2 ?_
                  refine GQ.nil (?_ : GC _ _ _ _)
                  refine GC.cond_true rfl ?_;refine GC.rg 1 ?_;refine GC.ret (Fin.b1 2 [] [] ?_)
                  refine ⟨?_, rfl, rfl⟩
                  (try simp only [show ∀ x : Nat, ((x + 1 : Nat) : Int) - 1 = x by omega] at *)
                  rw [if_neg (by unfold groupOk; rw [he, incI_bad (by omega) (by simp only [lastI] at hlast ⊢; omega), Bool.and_false]; simp)]
                  rfl)
               try simp only [tst_] at h7
               first
               | (exfalso; omega)
               |(skip
                 refine GQ.rn 3 ?_;refine GQ.split (i := 48) rfl (fun h8 => ?_) (fun h8 => ?_)
                 ·try simp only [tst_] at h8
                  first
                  | (exfalso; omega)
                  |(skip
                    refine GQ.rn 1 ?_;refine GQ.stepG (s := 48) rfl rfl rfl (q_mem (m_load (i := 0) rfl rfl ag_31 rfl)) ?_;refine GQ.rn 1 ?_;refine GQ.stepG (s := 48) rfl rfl rfl (q_pure (p_indexL hA_x52 rfl rfl Tryz.underlying31 sz_3 (by omega) (by omega))) ?_
                    refine GQ.stepG (s := 48) rfl rfl rfl (q_mem (m_loadP (i := 0) rfl rfl ag_3 rfl)) ?_;refine GQ.rn 1 ?_;refine GQ.stepG (s := 48) rfl rfl rfl (q_mem (m_load (i := 0) rfl rfl ag_31 rfl)) ?_;refine GQ.rn 1 ?_
                    refine GQ.stepG (s := 48) rfl rfl rfl (q_pure (p_sub rfl rfl (w64 (by omega) (by omega)))) ?_
                    exact (by omega : False).elim)
                 try simp only [tst_] at h8
                 first
                 | (exfalso; omega)
                 |(skip
                   refine GQ.rn 14 ?_
                   refine GQ.nil (?_ : GC _ _ _ _)
                   refine GC.cond_false rfl ?_
                   refine GC.skip (?_ : GC _ _ _ _)
                   refine GC.region ?_;refine GL.rn 1 ?_;refine GL.pure rfl (p_add rfl rfl (w64 (by omega) (by omega))) ?_;refine GL.rn 1 ?_;refine GL.nil ?_
                   (try simp only [show ∀ x : Nat, ((x + 1 : Nat) : Int) - 1 = x by omega] at *)
                   exact fun a w h => ⟨(_ + 1), (by omega), ⟨by omega, by rw [he, incI_ok (by omega) (by simp only [lastI]; omega) (by omega)]; rfl, by simp only [lastI]; omega⟩, h.cut (is := [0]) (js := [3]) ⟨rfl, rfl, trivial⟩ rfl rfl⟩)))
            skip
            refine GC.lay (x := .const (.slice A l.length cp)) (y := .const (.int .i64 (((k + 1 : Nat) : Int) - 1))) (j := 0) rfl rfl rfl (by omega) (gt_ok (by omega) (by omega)) (fun p_xp r_xp hA_xp ok_xp => ?_)
            rcases r_xp with _
            refine GC.layQ (y := .tmp 3) (j := 1) rfl rfl (by omega) (gt_ok (by omega) (by omega)) (fun p_x34 r_x34 hA_x34 ok_x34 => ?_)
            rcases r_x34 with _
            refine GC.layQ (y := .tmp 3) (j := 2) rfl rfl (by omega) (gt_ok (by omega) (by omega)) (fun p_x41 r_x41 hA_x41 ok_x41 => ?_)
            rcases r_x41 with _
            refine GC.layQ (y := .tmp 3) (j := 3) rfl rfl (by omega) (gt_ok (by omega) (by omega)) (fun p_x52 r_x52 hA_x52 ok_x52 => ?_)
            rcases r_x52 with _
            refine GC.regionQ wide_ (by kernel_rfl) ?_;refine GQ.rn 1 ?_;refine GQ.step rfl (q_mem (m_load (i := 0) rfl rfl ag_31 rfl)) ?_;refine GQ.rn 1 ?_;refine GQ.step rfl (q_pure (p_indexL hA_x34 rfl rfl Tryz.underlying31 sz_3 (by omega) (by omega))) ?_
            refine GQ.step rfl (q_mem (m_loadP (i := 2) rfl rfl ag_3 rfl)) ?_;refine GQ.rn 2 ?_;refine GQ.split (i := 37) rfl (fun h9 => ?_) (fun h9 => ?_)
            ·try simp only [tst_] at h9
             first
             | (exfalso; omega)
             |(skip
               refine GQ.rn 11 ?_
               iterate 12 refine GQ.passU (s := 48) rfl rfl rfl ?_
               refine GQ.rn 2 ?_
               refine GQ.nil (?_ : GC _ _ _ _)
               refine GC.cond_true rfl ?_;refine GC.rg 1 ?_;refine GC.ret (Fin.b1 2 [] [] ?_)
               refine ⟨?_, rfl, rfl⟩
               (try simp only [show ∀ x : Nat, ((x + 1 : Nat) : Int) - 1 = x by omega] at *)
               rw [if_neg (by unfold groupOk; rw [he, incI_bad (by omega) (by simp only [lastI] at hlast ⊢; omega), Bool.and_false]; simp)]
               rfl)
            try simp only [tst_] at h9
            first
            | (exfalso; omega)
            |(skip
              refine GQ.rn 1 ?_;refine GQ.stepG (s := 37) rfl rfl rfl (q_mem (m_load (i := 0) rfl rfl ag_31 rfl)) ?_;refine GQ.rn 1 ?_;refine GQ.stepG (s := 37) rfl rfl rfl (q_pure (p_indexL hA_x41 rfl rfl Tryz.underlying31 sz_3 (by omega) (by omega))) ?_
              refine GQ.stepG (s := 37) rfl rfl rfl (q_mem (m_loadP (i := 1) rfl rfl ag_3 rfl)) ?_;refine GQ.rn 3 ?_;refine GQ.split (i := 45) rfl (fun h10 => ?_) (fun h10 => ?_)
              ·try simp only [tst_] at h10
               first
               | (exfalso; omega)
               |(skip
                 refine GQ.rn 3 ?_
                 iterate 12 refine GQ.passU (s := 48) rfl rfl rfl ?_
                 refine GQ.rn 2 ?_
                 refine GQ.nil (?_ : GC _ _ _ _)
                 refine GC.cond_true rfl ?_;refine GC.rg 1 ?_;refine GC.ret (Fin.b1 2 [] [] ?_)
                 refine ⟨?_, rfl, rfl⟩
                 (try simp only [show ∀ x : Nat, ((x + 1 : Nat) : Int) - 1 = x by omega] at *)
                 rw [if_neg (by unfold groupOk; rw [he, incI_bad (by omega) (by simp only [lastI] at hlast ⊢; omega), Bool.and_false]; simp)]
                 rfl)
              try simp only [tst_] at h10
              first
              | (exfalso; omega)
              |(skip
                refine GQ.rn 3 ?_;refine GQ.split (i := 48) rfl (fun h11 => ?_) (fun h11 => ?_)
                ·try simp only [tst_] at h11
                 first
                 | (exfalso; omega)
                 |(skip
                   refine GQ.rn 1 ?_;refine GQ.stepG (s := 48) rfl rfl rfl (q_mem (m_load (i := 0) rfl rfl ag_31 rfl)) ?_;refine GQ.rn 1 ?_;refine GQ.stepG (s := 48) rfl rfl rfl (q_pure (p_indexL hA_x52 rfl rfl Tryz.underlying31 sz_3 (by omega) (by omega))) ?_
                   refine GQ.stepG (s := 48) rfl rfl rfl (q_mem (m_loadP (i := 0) rfl rfl ag_3 rfl)) ?_;refine GQ.rn 1 ?_;refine GQ.stepG (s := 48) rfl rfl rfl (q_mem (m_load (i := 0) rfl rfl ag_31 rfl)) ?_;refine GQ.rn 1 ?_
                   refine GQ.stepG (s := 48) rfl rfl rfl (q_pure (p_sub rfl rfl (w64 (by omega) (by omega)))) ?_;refine GQ.stepG (s := 48) rfl rfl rfl (q_pure (p_indexL hA_xp rfl rfl Tryz.underlying31 sz_3 (by omega) (by omega))) ?_
                   refine GQ.stepG (s := 48) rfl rfl rfl (q_mem (m_loadP (i := 3) rfl rfl ag_3 rfl)) ?_;refine GQ.rn 3 ?_
                   refine GQ.nil (?_ : GC _ _ _ _)
                   refine GC.co ?_ ?_
                   ·intro h12; try simp only [tst_] at h12
                    first
                    | (exfalso; omega)
                    |(skip
                      refine GC.rg 1 ?_;refine GC.ret (Fin.b1 2 [] [] ?_)
                      refine ⟨?_, rfl, rfl⟩
                      (try simp only [show ∀ x : Nat, ((x + 1 : Nat) : Int) - 1 = x by omega] at *)
                      rw [if_neg (by unfold groupOk; rw [he, incI_bad (by omega) (by simp only [lastI] at hlast ⊢; omega), Bool.and_false]; simp)]
                      rfl)
                   intro h12; try simp only [tst_] at h12
                   first
                   | (exfalso; omega)
                   |(skip
                     refine GC.skip (?_ : GC _ _ _ _)
                     refine GC.region ?_;refine GL.rn 1 ?_;refine GL.pure rfl (p_add rfl rfl (w64 (by omega) (by omega))) ?_;refine GL.rn 1 ?_;refine GL.nil ?_
                     (try simp only [show ∀ x : Nat, ((x + 1 : Nat) : Int) - 1 = x by omega] at *)
                     exact fun a w h => ⟨(_ + 1), (by omega), ⟨by omega, by rw [he, incI_ok (by omega) (by simp only [lastI]; omega) (by omega)]; rfl, by simp only [lastI]; omega⟩, h.cut (is := [0]) (js := [4]) ⟨rfl, rfl, trivial⟩ rfl rfl⟩))
                try simp only [tst_] at h11
                first
                | (exfalso; omega)
                |(skip
                  refine GQ.rn 14 ?_
                  refine GQ.nil (?_ : GC _ _ _ _)
                  refine GC.cond_false rfl ?_
                  refine GC.skip (?_ : GC _ _ _ _)
                  refine GC.region ?_;refine GL.rn 1 ?_;refine GL.pure rfl (p_add rfl rfl (w64 (by omega) (by omega))) ?_;refine GL.rn 1 ?_;refine GL.nil ?_
                  (try simp only [show ∀ x : Nat, ((x + 1 : Nat) : Int) - 1 = x by omega] at *)
                  exact fun a w h => ⟨(_ + 1), (by omega), ⟨by omega, by rw [he, incI_ok (by omega) (by simp only [lastI]; omega) (by omega)]; rfl, by simp only [lastI]; omega⟩, h.cut (is := [0]) (js := [4]) ⟨rfl, rfl, trivial⟩ rfl rfl⟩))))
         intro h5; try simp only [tst_] at h5
         first
         | (exfalso; omega)
         |(skip
           refine GC.exit (?_ : GC _ _ _ _)
           refine GC.rg 1 ?_;refine GC.ret (Fin.b1 2 [] [] ?_)
           exact ⟨by rw [if_pos (by unfold groupOk; rw [he, incI_end (by omega)]; simp; omega)]; rfl, rfl, rfl⟩)))))
def sameG (e : Int) (l : List Int) (f : Int) (m : List Int) : Bool := decide (e = f) && decide (l = m)
theorem rgsame_ct (e : Int) (A : Option Addr) (l : List Int) (cp : Nat) (f : Int) (B : Option Addr) (m : List Int) (cq : Nat) (hl : l.length ≤ 140737488355328) : Ct Tryz.prog 42 [grpV e A l.length cp, grpV f B m.length cq] [] [Pers.row kI A l, Pers.row kI B m] (fun u G Q => u = .bool (sameG e l f m) ∧ G = [] ∧ Q = []) := by
 refine Ct.intro Tryz.func42 rfl rfl rfl (fun c hc => ?_)
 refine GC.sr_ ?_;refine GL.step rfl (t_box rfl rfl rfl) (GL.ex fun b_t2 => ?_);refine GL.step rfl (t_box rfl rfl rfl) (GL.ex fun b_t3 => ?_);refine GL.rz 1 ?_;refine GC.seq' ?_;refine GC.rr 1 ?_;refine GL.ld_ 1 ?_
 refine GL.rn 1 ?_;refine GL.ld_ 0 ?_;refine GL.rn 2 ?_;refine GL.sp 11 ?_ ?_
 ·intro h1; try simp only [tst_] at h1
  first
  | (exfalso; omega)
  |(skip
    refine GL.rz 8 ?_;refine GC.cond_true rfl ?_;refine GC.rg 1 ?_;refine GC.ret (Fin.b1 4 [] [] ?_)
    refine ⟨congrArg Value.bool ?_, rfl, rfl⟩
    unfold sameG
    symm
    first | (rw [decide_eq_false (show ¬ e = f by assumption)]; rfl) | (rw [decide_eq_false (show ¬ l = m from fun g => by subst g; first | omega | contradiction), Bool.and_false]) | (rw [decide_eq_true (show e = f by omega), decide_eq_true (ext_gtI (by omega) fun j hj => he j (by omega))]; rfl))
 intro h1; try simp only [tst_] at h1
 first
 | (exfalso; omega)
 |(skip
   refine GL.rn 1 ?_;refine GL.dg_ 1 ?_;refine GL.rn 2 ?_;refine GL.dg_ 0 ?_;refine GL.rz 3 ?_;refine GC.co ?_ ?_
   ·intro h2; try simp only [tst_] at h2
    first
    | (exfalso; omega)
    |(skip
      refine GC.rg 1 ?_;refine GC.ret (Fin.b1 4 [] [] ?_)
      refine ⟨congrArg Value.bool ?_, rfl, rfl⟩
      unfold sameG
      symm
      first | (rw [decide_eq_false (show ¬ e = f by assumption)]; rfl) | (rw [decide_eq_false (show ¬ l = m from fun g => by subst g; first | omega | contradiction), Bool.and_false]) | (rw [decide_eq_true (show e = f by omega), decide_eq_true (ext_gtI (by omega) fun j hj => he j (by omega))]; rfl))
   intro h2; try simp only [tst_] at h2
   first
   | (exfalso; omega)
   |(skip
     refine GC.skip (?_ : GC _ _ _ _)
     refine GC.seq' ?_;refine GC.rg 1 ?_;refine GC.block ?_;refine GC.loopK1 (ks := [2, 3]) (is := [0, 1]) (js := [0, 1]) (fun (k : Nat) => k ≤ l.length ∧ ∀ j : Nat, j < k → gt l (j : Int) = gt m (j : Int)) (fun (k : Nat) => [(5, .int .i64 (k : Int))]) (fun (k : Nat) => []) (fun (k : Nat) => []) (fun (k : Nat) => l.length - k) (0) rfl rfl rfl (fun a w h => ⟨⟨by omega, fun j hj => by omega⟩, h.cutK (is := [0, 0]) (js := [0, 1]) (ks := [2, 3]) ⟨rfl, trivial⟩ rfl rfl rfl⟩) ?_
     intro k hk
     try dsimp only [List.cons_append, List.nil_append] at hk ⊢
     obtain ⟨hk, he⟩ := hk
     refine GC.seq' ?_;refine GC.rr 2 ?_;refine GL.ld_ 1 ?_;refine GL.rz 2 ?_;refine GC.co ?_ ?_
     ·intro h3; try simp only [tst_] at h3
      first
      | (exfalso; omega)
      |(skip
        refine GC.skip (?_ : GC _ _ _ _)
        refine GC.seq' ?_;refine GC.block ?_;refine GC.seq' ?_;refine GC.layQ (y := .tmp 5) (j := 0) rfl rfl (by omega) (gt_ok (by omega) (by omega)) (fun p_x30 r_x30 hA_x30 ok_x30 => ?_)
        rcases r_x30 with _
        refine GC.layQ (y := .tmp 5) (j := 2) rfl rfl (by omega) (gt_ok (by omega) (by omega)) (fun p_x35 r_x35 hA_x35 ok_x35 => ?_)
        rcases r_x35 with _
        refine GC.regionQ wide_ (by kernel_rfl) ?_;refine GQ.rn 1 ?_;refine GQ.step rfl (q_mem (m_load (i := 1) rfl rfl ag_31 rfl)) ?_;refine GQ.rn 1 ?_;refine GQ.step rfl (q_pure (p_indexL hA_x30 rfl rfl Tryz.underlying31 sz_3 (by omega) (by omega))) ?_
        refine GQ.step rfl (q_mem (m_loadP (i := 1) rfl rfl ag_3 rfl)) ?_;refine GQ.rn 1 ?_;refine GQ.step rfl (q_mem (m_load (i := 0) rfl rfl ag_31 rfl)) ?_;refine GQ.rn 1 ?_;refine GQ.step rfl (q_pure (p_indexL hA_x35 rfl rfl Tryz.underlying31 sz_3 (by omega) (by omega))) ?_
        refine GQ.step rfl (q_mem (m_loadP (i := 0) rfl rfl ag_3 rfl)) ?_;refine GQ.rn 1 ?_
        refine GQ.nil (?_ : GC _ _ _ _)
        refine GC.co ?_ ?_
        ·intro h4; try simp only [tst_] at h4
         first
         | (exfalso; omega)
         |(skip
           refine GC.rg 1 ?_;refine GC.ret (Fin.b1 4 [] [] ?_)
           refine ⟨congrArg Value.bool ?_, rfl, rfl⟩
           unfold sameG
           symm
           first | (rw [decide_eq_false (show ¬ e = f by assumption)]; rfl) | (rw [decide_eq_false (show ¬ l = m from fun g => by subst g; first | omega | contradiction), Bool.and_false]) | (rw [decide_eq_true (show e = f by omega), decide_eq_true (ext_gtI (by omega) fun j hj => he j (by omega))]; rfl))
        intro h4; try simp only [tst_] at h4
        first
        | (exfalso; omega)
        |(skip
          refine GC.skip (?_ : GC _ _ _ _)
          refine GC.region ?_;refine GL.rn 1 ?_;refine GL.pure rfl (p_add rfl rfl (w64 (by omega) (by omega))) ?_;refine GL.rn 1 ?_;refine GL.nil ?_
          exact fun a w h => ⟨(k + 1), (by omega), ⟨by omega, fun j hj => (Nat.lt_succ_iff_lt_or_eq.1 hj).elim (he j) (fun e => by subst e; omega)⟩, h.ct [0, 0] [2, 3]⟩))
     intro h3; try simp only [tst_] at h3
     first
     | (exfalso; omega)
     |(skip
       refine GC.exit (?_ : GC _ _ _ _)
       refine GC.rg 1 ?_;refine GC.ret (Fin.b1 4 [] [] ?_)
       refine ⟨congrArg Value.bool ?_, rfl, rfl⟩
       unfold sameG
       symm
       first | (rw [decide_eq_false (show ¬ e = f by assumption)]; rfl) | (rw [decide_eq_false (show ¬ l = m from fun g => by subst g; first | omega | contradiction), Bool.and_false]) | (rw [decide_eq_true (show e = f by omega), decide_eq_true (ext_gtI (by omega) fun j hj => he j (by omega))]; rfl))))
theorem grp_len {e : Int} {l : List Int} (h : groupOk e l = true) : 1 ≤ l.length ∧ l.length ≤ 9 ∧ 0 ≤ e ∧ e ≤ 4611686018427387904 := by simp [groupOk] at h; omega
def leN : Nat → Nat → List UInt8
  | 0, _ => []
  | n + 1, v => UInt8.ofNat (v % 256) :: leN n (v / 256)
def valN : List UInt8 → Nat
  | [] => 0
  | b :: r => b.toNat + 256 * valN r
theorem leN_length : ∀ (n v : Nat), (leN n v).length = n
  | 0, _ => rfl
  | n + 1, v => by rw [leN, List.length_cons, leN_length n]
theorem leN_succ : ∀ (k v : Nat), leN (k + 1) v = leN k v ++ [UInt8.ofNat (v / 256 ^ k % 256)]
  | 0, v => by simp [leN]
  | k + 1, v => by
    rw [leN, leN_succ k (v / 256), leN, List.cons_append, Nat.div_div_eq_div_mul, Nat.pow_succ, Nat.mul_comm 256]
theorem valN_lt : ∀ (l : List UInt8), valN l < 256 ^ l.length
  | [] => by simp [valN]
  | b :: r => by
    have := valN_lt r
    have hb := b.toNat_lt
    rw [valN, List.length_cons, Nat.pow_succ]
    omega
theorem valN_snoc : ∀ (l : List UInt8) (b : UInt8), valN (l ++ [b]) = valN l + b.toNat * 256 ^ l.length
  | [], b => by simp [valN]
  | c :: r, b => by
    rw [List.cons_append, valN, valN, valN_snoc r b, List.length_cons, Nat.pow_succ, Nat.mul_add, ← Nat.add_assoc]
    congr 1
    rw [Nat.mul_left_comm, Nat.mul_comm 256]
theorem ofNat_mod (v : Nat) : (UInt8.ofNat (v % 256)).toNat = v % 256 := by simp
theorem valN_leN : ∀ (n v : Nat), v < 256 ^ n → valN (leN n v) = v
  | 0, v, h => by simp at h; subst h; rfl
  | n + 1, v, h => by
    rw [Nat.pow_succ] at h
    rw [leN, valN, valN_leN n (v / 256) (Nat.div_lt_of_lt_mul (by rw [Nat.mul_comm]; exact h)), ofNat_mod]
    omega
theorem leN_valN : ∀ (l : List UInt8), leN l.length (valN l) = l
  | [] => rfl
  | b :: r => by
    have hb := b.toNat_lt
    have h1 : (b.toNat + 256 * valN r) % 256 = b.toNat := by omega
    have h2 : (b.toNat + 256 * valN r) / 256 = valN r := by omega
    rw [List.length_cons, leN, valN, h1, h2, leN_valN r]
    simp
theorem fdivN (v p : Nat) : (v : Int).fdiv ((p : Nat) : Int) = ((v / p : Nat) : Int) := by
  rw [Int.fdiv_eq_ediv_of_nonneg _ (by omega)]; rfl
theorem pow256 (k : Nat) : 256 ^ k = 2 ^ (8 * k) := by rw [Nat.pow_mul]
theorem shr8 {v k : Nat} (hk : k ≤ 8) : (v : Int).fdiv (2 ^ (min ((8 * k : Nat) : Int).toNat IntKind.u64.bits)) = ((v / 256 ^ k : Nat) : Int) := by
  have h1 : min ((8 * k : Nat) : Int).toNat IntKind.u64.bits = 8 * k := by show min _ 64 = _; omega
  rw [h1, pow256, ← fdivN]; norm_cast
theorem wrapB (m : Nat) : IntKind.u8.wrap (m : Int) = ((UInt8.ofNat (m % 256)).toNat : Int) := by
  rw [ofNat_mod]
  simp [IntKind.wrap, IntKind.bits, IntKind.signed]
theorem wrap64 {m : Nat} (h : m < 18446744073709551616) : IntKind.u64.wrap (m : Int) = (m : Int) := by
  simp [IntKind.wrap, IntKind.bits, IntKind.signed]; omega
theorem cvU {m : Int} (h : 0 ≤ m) (h' : m < 18446744073709551616) : IntKind.u64.wrap m = m := by
  simp [IntKind.wrap, IntKind.bits, IntKind.signed]; omega
theorem cvU' (m : Int) : IntKind.u64.wrap m = ((m % 18446744073709551616).toNat : Int) := by
  simp [IntKind.wrap, IntKind.bits, IntKind.signed]; omega
theorem cvI {m : Int} (h : -9223372036854775808 ≤ m) (h' : m ≤ 9223372036854775807) : IntKind.i64.wrap m = m := by
  simp [IntKind.wrap, IntKind.bits, IntKind.signed]; omega
theorem ofInt64 {m : Nat} : BitVec.ofInt 64 (m : Int) = BitVec.ofNat 64 m := by
  apply BitVec.eq_of_toNat_eq; simp
theorem or8 {a c k : Nat} (hk : k ≤ 7) (ha : a < 256 ^ k) (hc : c < 256) : IntKind.u64.wrap ((BitVec.ofInt IntKind.u64.bits (a : Int) ||| BitVec.ofInt IntKind.u64.bits ((c * 256 ^ k : Nat) : Int)).toNat : Int) = ((a + c * 256 ^ k : Nat) : Int) := by
  have h7 : 256 ^ k ≤ 256 ^ 7 := Nat.pow_le_pow_right (by decide) hk
  have h8 : (256 : Nat) ^ 7 = 72057594037927936 := by decide
  have hb : c * 256 ^ k ≤ 255 * 256 ^ k := Nat.mul_le_mul_right _ (by omega)
  show IntKind.u64.wrap ((BitVec.ofInt 64 (a : Int) ||| BitVec.ofInt 64 ((c * 256 ^ k : Nat) : Int)).toNat : Int) = _
  have e : (BitVec.ofInt 64 (a : Int) ||| BitVec.ofInt 64 ((c * 256 ^ k : Nat) : Int)).toNat = a + c * 256 ^ k := by
    rw [ofInt64, ofInt64, BitVec.toNat_or, BitVec.toNat_ofNat, BitVec.toNat_ofNat, Nat.mod_eq_of_lt (by omega), Nat.mod_eq_of_lt (by omega)]
    rw [pow256] at ha ⊢
    have := Nat.shiftLeft_add_eq_or_of_lt ha c
    rw [Nat.shiftLeft_eq] at this
    rw [Nat.or_comm, ← this]; omega
  rw [e]
  exact wrap64 (by omega)
theorem shl8 {c k : Nat} (hk : k ≤ 7) (hc : c < 256) : IntKind.u64.wrap ((c : Int) * 2 ^ (min ((8 * k : Nat) : Int).toNat IntKind.u64.bits)) = ((c * 256 ^ k : Nat) : Int) := by
  have h1 : min ((8 * k : Nat) : Int).toNat IntKind.u64.bits = 8 * k := by show min _ 64 = _; omega
  have h7 : 256 ^ k ≤ 256 ^ 7 := Nat.pow_le_pow_right (by decide) hk
  have h8 : (256 : Nat) ^ 7 = 72057594037927936 := by decide
  have hb : c * 256 ^ k ≤ 255 * 256 ^ k := Nat.mul_le_mul_right _ (by omega)
  have e : (c : Int) * 2 ^ (8 * k) = ((c * 256 ^ k : Nat) : Int) := by rw [pow256]; norm_cast
  rw [h1, e]
  exact wrap64 (by omega)
end Go.Proofs.YtdhdmbmknpjhbaaGreat
namespace Go.Sx
open Go
def PanOf (E : Value → Prop) (L : List Nat) (w w' : World) (e : Ending) : Prop := ∃ v, e = .panicked [{ v := v, recovered := false }] ∧ E v ∧ Fr L w w'
def CtP (P : Program) (f : FuncId) (args : List Value) (G : List Own) (Q : List Pers) (R : Value → List Own → List Pers → Prop) (E : Value → Prop) : Prop :=
  ∀ w S, Heap S G Q w → Calls P f args.toArray w fun e w' => (∃ v G' Q' S', e = .returned v ∧ R v G' Q' ∧ Heap S' G' Q' w' ∧ Fr (keysOf G) w w' ∧
    (∀ k, k < w.heap.size → k ∉ keysOf G → (S' k ↔ S k)) ∧ (∀ k ∈ keysOf G', k ∈ keysOf G ∨ w.heap.size ≤ k)) ∨ PanOf E (keysOf G) w w' e
theorem CtP.mono {P : Program} {f : FuncId} {args : List Value} {G : List Own} {Q : List Pers} {R R' : Value → List Own → List Pers → Prop} {E E' : Value → Prop} (h : CtP P f args G Q R E) (hr : ∀ v G' Q', R v G' Q' → R' v G' Q') (he : ∀ v, E v → E' v) : CtP P f args G Q R' E' :=
  fun w S hh => (h w S hh).mono fun e w' h => h.imp (fun ⟨v, G', Q', S', h1, h2, h3⟩ => ⟨v, G', Q', S', h1, hr _ _ _ h2, h3⟩) (fun ⟨v, h1, h2, h3⟩ => ⟨v, h1, he _ h2, h3⟩)
end Go.Sx
namespace Go.Sx
open Go
section
variable {P : Program} {c : Cx} {n : Nat} {env env' : List (Nat × Value)} {G G' Gr : List Own} {Q Q' : List Pers} {d : Nat} {ty : TypeId} {pos : String} {aft : Array Edge} {g : Option (Nat × Bool)} {x y : Operand} {t : TypeId} {a a' : Act} {w w' : World}
def FinP (P : Program) (fn : Func) (c : Cx) (R : Value → List Own → List Pers → Prop) (E : Value → Prop) : Exit → Asr := fun e a w => c.D = [] → bodyPost P fn (fun e w' => retOf c R e w' ∨ PanOf E c.L0 c.w0 w' e) e a w
theorem CtP.intro {f : FuncId} {fn : Func} {code : Code} {args : List Value} {R : Value → List Own → List Pers → Prop} {E : Value → Prop} (hf : P.funcs[f]? = some fn) (hb : fn.body = some code) (hn : fn.ntmps = n) (hl : Nat.ble args.length n = true)
    (h : ∀ c : Cx, c.L0 = keysOf G → GC P (FinP P fn c R E) code (St c n (enum 0 args) G Q)) : CtP P f args G Q R E := by
  intro w S hh
  refine calls_of_wp hf hb ?_
  have hl := Nat.le_of_ble_eq_true hl
  let c : Cx := ⟨w, S, keysOf G, []⟩
  refine Code.wp_mono ?_ (h c rfl _ w ⟨S, ?_, hh, ?_⟩)
  · intro e a w' he
    exact he rfl
  · refine ⟨⟨by simp [hn]; omega, fun i v hi => ?_⟩, rfl⟩
    obtain ⟨k, rfl, hk⟩ := look_enum args 0 i v hi
    rw [Nat.zero_add]
    have hlt : k < args.length := (List.getElem?_eq_some_iff.1 hk).1
    simp only [List.size_toArray]
    rw [Array.getElem?_append_left (by simpa using hlt)]
    simpa using hk
  · exact ⟨Fr.refl _ _, fun _ _ _ => Iff.rfl, fun k hk => .inl hk⟩
theorem FinP.of {fn : Func} {R : Value → List Own → List Pers → Prop} {E : Value → Prop} (h : Fin P fn c R .ret a w) : FinP P fn c R E .ret a w := fun hD =>
  let ⟨h1, v, h2, h3⟩ := h hD
  ⟨h1, v, h2, .inl h3⟩
theorem FinP.back {fn : Func} {rs : List ResultVar} {vs : List Value} {is js : List Nat} {R : Value → List Own → List Pers → Prop} {E : Value → Prop} (hr : fn.results = rs.toArray) (hv : resV P env G rs vs) (hsel : sel G is = some (G', Gr)) (hq : pickQ Q js = some Q') (hR : R (tupV vs) G' Q') (h : St c n env G Q a w) : FinP P fn c R E .ret a w :=
  FinP.of (Fin.back hr hv hsel hq hR h)
theorem FinP.back0 {fn : Func} {is js : List Nat} {R : Value → List Own → List Pers → Prop} {E : Value → Prop} (hr : fn.results = #[]) (hsel : sel G is = some (G', Gr)) (hq : pickQ Q js = some Q') (hR : R (.tuple #[]) G' Q') (h : St c n env G Q a w) : FinP P fn c R E .normal a w :=
  FinP.of (Fin.back (rs := []) (vs := []) (by rw [hr]) trivial hsel hq hR h)
theorem FinP.panic {fn : Func} {R : Value → List Own → List Pers → Prop} {E : Value → Prop} {v : Value} (he : E v) (h : St c n env G Q a w) : FinP P fn c R E (.panic [{ v := v, recovered := false }]) a w := fun hD => by
  obtain ⟨S, hen, hh, hrel⟩ := h
  exact ⟨hen.defers.trans hD, .inr ⟨v, rfl, he, hrel.fr⟩⟩
theorem St.lost {S : Blocks} {G1 : List Own} (he : EnvD c.D n env a) (hh : Heap S (G1 ++ Gr) Q w) (hrel : Rel c S (G1 ++ Gr) w) (hf : Fr (keysOf G1) w w') : St c n env Gr Q a w' := by
  have h2 : Heap S [] [] w' := ⟨fun o ho => (by cases ho), List.nodup_nil, fun k hk => (by cases hk), fun q hq => (by cases hq)⟩
  exact St.called (Gr := Gr) (G2 := []) (Q2 := []) hh hrel h2 hf (fun _ _ _ => Iff.rfl) (fun k hk => by cases hk) he
theorem GL.callP {ops : Array Oper} {X : Exit → Asr} {rest : List Oper} {f : FuncId} {xs : List Operand} {vs : List Value} {ts : Array TypeId} {is js : List Nat} {G1 : List Own} {Q1 : List Pers} {R : Value → List Own → List Pers → Prop} {E : Value → Prop} (hd : Nat.blt d n = true) (hf : Ent P f) (hx : evs env xs = some vs)
    (hsel : sel G is = some (G1, Gr)) (hq : pickQ Q js = some Q1) (h : CtP P f vs G1 Q1 R E) (hp : ∀ v a w, E v → St c n env Gr Q a w → X (.panic [{ v := v, recovered := false }]) a w)
    (k : GL P ops X rest (fun a w => ∃ v G2 Q2, R v G2 Q2 ∧ St c n ((d, v) :: env) (G2 ++ Gr) (Q2 ++ Q) a w)) :
    GL P ops X (⟨some d, .call { callee := .value (.func f), args := xs.toArray, argTypes := ts }, ty, pos, aft, none⟩ :: rest) (St c n env G Q) := by
  rintro a w ⟨S, he, hh, hrel⟩
  refine wpList_plain rfl fun K hK => ?_
  have hp' := sel_perm hsel
  have hh1 := hh.perm hp'
  have hrel1 := hrel.perm hp'
  have hin : Heap S G1 Q1 w := hh1.sub (List.sublist_append_left _ _) (pickQ_mem hq)
  unfold Oper.wp
  rw [run_call hf hx a w he.toEnv]
  rw [Oper.upon_enter]
  refine (h w S hin).mono ?_
  rintro e w' (⟨v, G2, Q2, S', rfl, hR, h', hfr, hS, hkk⟩ | ⟨v, rfl, hE, hfr⟩)
  · exact hK _ _ (k _ _ ⟨v, G2, Q2, hR, St.called hh1 hrel1 h' hfr hS hkk (he.put hd v)⟩)
  · exact hp v a w' hE (St.lost he hh1 hrel1 hfr)
theorem p_mkIface {v : Value} {ut : TypeDesc} (hu : P.underlying t = some ut) (hn : ∀ m, ut ≠ .interface m) (hx : ev env x = some v) : Pv P n env ⟨some d, .makeInterface t x, ty, pos, aft, g⟩ (.iface t v) := fun a w he => by
  simp only [execOp, he.eval hx, Instr.makeInterface, Sem.run_bind, run_underlying hu, Result.andThen_ok]
  cases ut <;> first | rfl | exact absurd rfl (hn _)
theorem GL.panic {ops : Array Oper} {X : Exit → Asr} {rest : List Oper} {k : TypeId} {u : Value} (hx : ev env x = some (.iface k u)) (hp : ∀ a w, St c n env G Q a w → X (.panic [{ v := .iface k u, recovered := false }]) a w) :
    GL P ops X (⟨some d, .panic x, ty, pos, aft, none⟩ :: rest) (St c n env G Q) := by
  intro a w h
  refine wpList_plain rfl fun K hK => ?_
  unfold Oper.wp
  have : (execOp a.eval ⟨some d, .panic x, ty, pos, aft, none⟩).run P w = .halt (.panic (.iface k u)) w := by
    simp only [execOp, h.en.eval hx]; rfl
  rw [this]
  exact hp a w h
end
end Go.Sx
namespace Go.Proofs.YtdhdmbmknpjhbaaGreat
open Go Go.Sx Go.Proofs
structure Grp where
  epoch : Int
  members : List Int
  deriving Inhabited, DecidableEq
def kGrp : Kd Grp := Kd.iso (Kd.pair (Kd.int .i64) (Kd.slice (Kd.int .i64))) (fun r => (r.epoch, r.members))
structure Entry where
  kind : Int
  num : Int
  view : Int
  client : Int
  serial : Int
  op : OpD
  grp : Grp
  deriving Inhabited, DecidableEq
def kEntry : Kd Entry := Kd.iso (Kd.pair (Kd.int .u8) (Kd.pair (Kd.int .i64) (Kd.pair (Kd.int .i64) (Kd.pair (Kd.int .i64) (Kd.pair (Kd.int .i64) (Kd.pair kOpD (kGrp))))))) (fun r => (r.kind, r.num, r.view, r.client, r.serial, r.op, r.grp))
structure Stt where
  num : Int
  shp : Shp
  pages : List Page
  rows : List Row
  grp : Grp
  deriving Inhabited, DecidableEq
structure Msg where
  kind : Int
  src : Int
  dst : Int
  epoch : Int
  view : Int
  num : Int
  commit : Int
  normal : Int
  nonce : Int
  client : Int
  serial : Int
  op : OpD
  res : Res
  grp : Grp
  stt : Stt
  log : List Entry
  deriving Inhabited, DecidableEq
def zop : OpD := ⟨0, 0, 0, [], []⟩
def zgr : Grp := ⟨0, []⟩
def zst : Stt := ⟨0, ⟨0, 0⟩, [], [], zgr⟩
def zms : Msg := ⟨0, 0, 0, 0, 0, 0, 0, 0, 0, 0, 0, zop, rz, zgr, zst, []⟩
abbrev opD (o : OpD) (A : Option Addr) (cp : Nat) (B : Option Addr) (cq : Nat) : Value := opV o.kind o.at_ o.n A o.data.length cp B o.old.length cq
abbrev entV (e : Entry) (A : Option Addr) (cp : Nat) (B : Option Addr) (cq : Nat) (C : Option Addr) (cr : Nat) : Value := .agg #[.int .u8 e.kind, .int .i64 e.num, .int .i64 e.view, .int .i64 e.client, .int .i64 e.serial, .int .u8 e.op.kind, .int .i64 e.op.at_, .int .i64 e.op.n, .slice A e.op.data.length cp, .slice B e.op.old.length cq, .int .i64 e.grp.epoch, .slice C e.grp.members.length cr]
abbrev entQ (e : Entry) (A B C : Option Addr) : List Pers := [Pers.row Kd.u8 A e.op.data, Pers.row Kd.u8 B e.op.old, Pers.row kI C e.grp.members]
abbrev sttV (s : Stt) (A : Option Addr) (cp : Nat) (B : Option Addr) (cq : Nat) (C : Option Addr) (cr : Nat) : Value := .agg #[.int .i64 s.num, .int .i64 s.shp.bl, .int .i64 s.shp.sz, .slice A s.pages.length cp, .slice B s.rows.length cq, .int .i64 s.grp.epoch, .slice C s.grp.members.length cr]
abbrev sttQ (s : Stt) (A B C : Option Addr) : List Pers := [Pers.row kPage A s.pages, Pers.row kRow B s.rows, Pers.row kI C s.grp.members]
structure Lie where
  a1 : Option Addr
  c1 : Nat
  a2 : Option Addr
  c2 : Nat
  a3 : Option Addr
  c3 : Nat
  a4 : Option Addr
  c4 : Nat
  a5 : Option Addr
  c5 : Nat
  a6 : Option Addr
  c6 : Nat
  a7 : Option Addr
  c7 : Nat
  a8 : Option Addr
  c8 : Nat
abbrev msgL (m : Msg) (s : Lie) : List Value := [.int .u8 m.kind, .int .i64 m.src, .int .i64 m.dst, .int .i64 m.epoch, .int .i64 m.view, .int .i64 m.num, .int .i64 m.commit, .int .i64 m.normal, .int .u64 m.nonce, .int .i64 m.client, .int .i64 m.serial,
  .int .u8 m.op.kind, .int .i64 m.op.at_, .int .i64 m.op.n, .slice s.a1 m.op.data.length s.c1, .slice s.a2 m.op.old.length s.c2, .int .u8 m.res.code, .slice s.a3 m.res.data.length s.c3, .int .i64 m.grp.epoch, .slice s.a4 m.grp.members.length s.c4,
  .int .i64 m.stt.num, .int .i64 m.stt.shp.bl, .int .i64 m.stt.shp.sz, .slice s.a5 m.stt.pages.length s.c5, .slice s.a6 m.stt.rows.length s.c6, .int .i64 m.stt.grp.epoch, .slice s.a7 m.stt.grp.members.length s.c7, .slice s.a8 m.log.length s.c8]
abbrev msgV (m : Msg) (s : Lie) : Value := .agg (msgL m s).toArray
abbrev msgQ (m : Msg) (s : Lie) : List Pers := [Pers.row Kd.u8 s.a1 m.op.data, Pers.row Kd.u8 s.a2 m.op.old, Pers.row Kd.u8 s.a3 m.res.data, Pers.row kI s.a4 m.grp.members, Pers.row kPage s.a5 m.stt.pages, Pers.row kRow s.a6 m.stt.rows, Pers.row kI s.a7 m.stt.grp.members, Pers.row kEntry s.a8 m.log]
abbrev lenOk (n : Nat) : Prop := n ≤ 140737488351232
structure EntLen (e : Entry) : Prop where
  d : lenOk e.op.data.length
  o : lenOk e.op.old.length
  m : e.grp.members.length ≤ 17592186043904
structure SttLen (s : Stt) : Prop where
  p : s.pages.length ≤ 17592186043904
  r : s.rows.length ≤ 17592186043904
  m : s.grp.members.length ≤ 17592186043904
  pd : ∀ p ∈ s.pages, lenOk p.data.length
  rd : ∀ r ∈ s.rows, lenOk r.result.data.length
structure MsgLen (m : Msg) : Prop where
  d : lenOk m.op.data.length
  o : lenOk m.op.old.length
  r : lenOk m.res.data.length
  g : m.grp.members.length ≤ 17592186043904
  s : SttLen m.stt
  l : m.log.length ≤ 17592186043904
  e : ∀ e ∈ m.log, EntLen e
def formD (o : OpD) : Prop := formP o.kind o.at_ o.n o.data.length o.old.length
instance (o : OpD) : Decidable (formD o) := by unfold formD; infer_instance
def in62 (n : Int) : Prop := 0 ≤ n ∧ n ≤ 4611686018427387904
instance (n : Int) : Decidable (in62 n) := by unfold in62; infer_instance
def entOk (e : Entry) : Prop := isNum e.num = true ∧ isNum e.client = true ∧ isNum e.serial = true ∧ in62 e.view ∧ ((e.kind = 1 ∧ formD e.op ∧ e.grp.epoch = 0 ∧ e.grp.members.length = 0) ∨ (e.kind = 2 ∧ e.op = zop ∧ groupOk e.grp.epoch e.grp.members = true ∧ e.view < 4611686018427387904))
instance (e : Entry) : Decidable (entOk e) := by unfold entOk; infer_instance
def entE (e : Entry) : Int := if entOk e then 0 else 71
def heldOk (s : Stt) : Prop := in62 s.num ∧ groupOk s.grp.epoch s.grp.members = true ∧ shapeOk s.shp.bl s.shp.sz ∧ laidF s.shp.bl s.shp.sz (-1) s.pages = true ∧ rightF s.rows = true ∧ ∀ p ∈ s.pages, p.ver ≤ s.num
instance (s : Stt) : Decidable (heldOk s) := by unfold heldOk; infer_instance
def rowOkE (l : List Entry) : Prop := ∀ k : Nat, k < l.length → entOk (gt l (k : Int)) ∧ (0 < k → (gt l (k : Int)).num - 1 = (gt l ((k : Int) - 1)).num)
instance (l : List Entry) : Decidable (rowOkE l) := by unfold rowOkE; infer_instance
def who (n : Int) : Prop := -4611686018427387904 ≤ n ∧ n < 64
instance (n : Int) : Decidable (who n) := by unfold who; infer_instance
def numsOk (m : Msg) : Prop := in62 m.epoch ∧ in62 m.view ∧ in62 m.num ∧ in62 m.commit ∧ in62 m.normal ∧ in62 m.client ∧ in62 m.serial
instance (m : Msg) : Decidable (numsOk m) := by unfold numsOk; infer_instance
def partsOk (m : Msg) : Prop := (m.op = zop ∨ formD m.op) ∧ (m.res = rz ∨ resOk m.res.code m.res.data.length = true) ∧ (m.grp = zgr ∨ groupOk m.grp.epoch m.grp.members = true) ∧ (m.stt = zst ∨ heldOk m.stt)
instance (m : Msg) : Decidable (partsOk m) := by unfold partsOk; infer_instance
def msgOk (m : Msg) : Prop := numsOk m ∧ 1 ≤ m.kind ∧ m.kind ≤ 14 ∧ who m.src ∧ who m.dst ∧ partsOk m ∧ rowOkE m.log
instance (m : Msg) : Decidable (msgOk m) := by unfold msgOk; infer_instance
def msgE (m : Msg) : Int := if msgOk m then 0 else 160
theorem entE_iff (e : Entry) : (entE e = 0) = entOk e := by unfold entE; split <;> simp_all
theorem msgE_iff (m : Msg) : (msgE m = 0) = msgOk m := by unfold msgE; split <;> simp_all
theorem resE_iff' (b : Bool) : ((if b = true then (0 : Int) else 42) = 0) = (b = true) := by cases b <;> simp
theorem grpE_iff (b : Bool) : ((if b = true then (0 : Int) else 71) = 0) = (b = true) := by cases b <;> simp
end Go.Proofs.YtdhdmbmknpjhbaaGreat
namespace Go.Proofs.YtdhdmbmknpjhbaaGreat
open Go Go.Sx Go.Proofs
section
variable {P : Program} {n : Nat} {env : List (Nat × Value)} {d : Nat} {t u ty : TypeId} {pos : String} {aft : Array Edge} {g : Option (Nat × Bool)} {x y : Operand} {k k' yk : IntKind} {m l r : Int}
theorem p_convR (ht : P.underlying t ≠ none) (hu : P.underlying u = some (.int k')) (hx : ev env x = some (.int k m)) (hr : k'.wrap m = r) : Pv P n env ⟨some d, .convert t u x, ty, pos, aft, g⟩ (.int k' r) := hr ▸ p_conv ht hu hx
theorem p_shlR (hx : ev env x = some (.int k m)) (hy : ev env y = some (.int yk l)) (h0 : 0 ≤ l) (hr : k.wrap (m * 2 ^ (min l.toNat k.bits)) = r) : Pv P n env ⟨some d, .binOp .shl t x y u, ty, pos, aft, g⟩ (.int k r) := hr ▸ p_shl hx hy h0
theorem p_shrR (hx : ev env x = some (.int k m)) (hy : ev env y = some (.int yk l)) (h0 : 0 ≤ l) (hr : m.fdiv (2 ^ (min l.toNat k.bits)) = r) : Pv P n env ⟨some d, .binOp .shr t x y u, ty, pos, aft, g⟩ (.int k r) := hr ▸ p_shr hx hy h0
theorem p_orR (hx : ev env x = some (.int k m)) (hy : ev env y = some (.int k l)) (hr : k.wrap ((BitVec.ofInt k.bits m ||| BitVec.ofInt k.bits l).toNat : Int) = r) : Pv P n env ⟨some d, .binOp .or t x y u, ty, pos, aft, g⟩ (.int k r) := hr ▸ p_or hx hy
theorem p_andR (hx : ev env x = some (.int k m)) (hy : ev env y = some (.int k l)) (hr : k.wrap ((BitVec.ofInt k.bits m &&& BitVec.ofInt k.bits l).toNat : Int) = r) : Pv P n env ⟨some d, .binOp .and t x y u, ty, pos, aft, g⟩ (.int k r) := hr ▸ p_and hx hy
end
end Go.Proofs.YtdhdmbmknpjhbaaGreat
namespace Go.Proofs.YtdhdmbmknpjhbaaGreat
open Go Go.Sx Go.Proofs
theorem Ct.drop {P : Program} {f : FuncId} {args : List Value} {G : List Own} {Q : List Pers} {R : Value → List Own → List Pers → Prop} {R' : Value → Prop} (h : Ct P f args G Q R) (hr : ∀ v G' Q', R v G' Q' → R' v) : Ct P f args G Q (fun v G' Q' => R' v ∧ G' = [] ∧ Q' = []) :=
  fun w S hh => (h w S hh).mono fun e w' ⟨v, G', Q', S', h1, h2, h3, h4, h5, h6⟩ => ⟨v, [], [], S', h1, ⟨hr _ _ _ h2, rfl, rfl⟩, h3.sub (List.nil_sublist _) (fun q hq => by cases hq), h4, h5, fun k hk => by cases hk⟩
theorem Ct.free {P : Program} {f : FuncId} {args : List Value} {G : List Own} {q : Pers} {Q : List Pers} {R : Value → List Own → List Pers → Prop} (h : Ct P f args G (q :: Q) R) (hq : ∀ w S, q.h w S) : Ct P f args G Q R :=
  fun w S hh => h w S ⟨hh.own, hh.nod, hh.out, fun p hp => by
    rcases List.mem_cons.1 hp with rfl | hp
    · exact hq w S
    · exact hh.per p hp⟩
theorem Ct.qperm {P : Program} {f : FuncId} {args : List Value} {G : List Own} {Q Q' : List Pers} {R : Value → List Own → List Pers → Prop} (h : Ct P f args G Q R) (hq : ∀ q ∈ Q, q ∈ Q' ∨ ∀ w S, q.h w S) : Ct P f args G Q' R :=
  fun w S hh => h w S ⟨hh.own, hh.nod, hh.out, fun p hp => (hq p hp).elim (hh.per p) (fun g => g w S)⟩
theorem nil8 : ∀ w S, (Pers.row Kd.u8 none []).h w S := fun _ _ => .inl rfl
theorem op_ext (o p : OpD) : (o = p) ↔ (o.kind = p.kind ∧ o.at_ = p.at_ ∧ o.n = p.n ∧ o.data = p.data ∧ o.old = p.old) := by cases o; cases p; simp
theorem gr_ext (o p : Grp) : (o = p) ↔ (o.epoch = p.epoch ∧ o.members = p.members) := by cases o; cases p; simp
theorem pg_ext (o p : Page) : (o = p) ↔ (o.at_ = p.at_ ∧ o.ver = p.ver ∧ o.data = p.data) := by cases o; cases p; simp
theorem rs_ext (o p : Res) : (o = p) ↔ (o.code = p.code ∧ o.data = p.data) := by cases o; cases p; simp
theorem sh_ext (o p : Shp) : (o = p) ↔ (o.bl = p.bl ∧ o.sz = p.sz) := by cases o; cases p; simp
theorem en_ext (o p : Entry) : (o = p) ↔ (o.kind = p.kind ∧ o.num = p.num ∧ o.view = p.view ∧ o.client = p.client ∧ o.serial = p.serial ∧ o.op = p.op ∧ o.grp = p.grp) := by cases o; cases p; simp
theorem st_ext (o p : Stt) : (o = p) ↔ (o.num = p.num ∧ o.shp = p.shp ∧ o.pages = p.pages ∧ o.rows = p.rows ∧ o.grp = p.grp) := by cases o; cases p; simp
theorem ms_ext (o p : Msg) : (o = p) ↔ (o.kind = p.kind ∧ o.src = p.src ∧ o.dst = p.dst ∧ o.epoch = p.epoch ∧ o.view = p.view ∧ o.num = p.num ∧ o.commit = p.commit ∧ o.normal = p.normal ∧ o.nonce = p.nonce ∧ o.client = p.client ∧ o.serial = p.serial ∧ o.op = p.op ∧ o.res = p.res ∧ o.grp = p.grp ∧ o.stt = p.stt ∧ o.log = p.log) := by cases o; cases p; simp
theorem sameG_iff (g h : Grp) : sameG g.epoch g.members h.epoch h.members = decide (g = h) := by
  unfold sameG; rw [Bool.eq_iff_iff]; simp [gr_ext]
theorem sameRes_eq (g h : Res) : sameRes g h = decide (g = h) := by
  unfold sameRes; rw [Bool.eq_iff_iff]; simp [rs_ext]
theorem bsame_ct (o p : OpD) (A : Option Addr) (cp : Nat) (B : Option Addr) (cq : Nat) (C : Option Addr) (cr : Nat) (D : Option Addr) (cs : Nat) : Ct Tryz.prog 37 [opD o A cp B cq, opD p C cr D cs] [] [Pers.row Kd.u8 A o.data, Pers.row Kd.u8 B o.old, Pers.row Kd.u8 C p.data, Pers.row Kd.u8 D p.old] (fun u G Q => u = .bool (decide (o = p)) ∧ G = [] ∧ Q = []) := by
 refine Ct.intro Tryz.func37 rfl rfl rfl (fun c hc => ?_)
 refine GC.sr_ ?_;refine GL.step rfl (t_box rfl rfl rfl) (GL.ex fun b_t2 => ?_);refine GL.step rfl (t_box rfl rfl rfl) (GL.ex fun b_t3 => ?_);refine GL.rz 1 ?_;refine GC.rr 1 ?_;refine GL.ld_ 1 ?_;refine GL.rn 1 ?_
 refine GL.ld_ 0 ?_;refine GL.rn 2 ?_;refine GL.sp 10 ?_ ?_
 ·intro h1; try simp only [tst_] at h1
  refine GL.rn 1 ?_;refine GL.dg_ 1 ?_;refine GL.rn 1 ?_;refine GL.dg_ 0 ?_;refine GL.rn 3 ?_;refine GL.sp 17 ?_ ?_
  ·intro h2; try simp only [tst_] at h2
   refine GL.rn 1 ?_;refine GL.dg_ 1 ?_;refine GL.rn 1 ?_;refine GL.dg_ 0 ?_;refine GL.rn 3 ?_;refine GL.sp 24 ?_ ?_
   ·intro h3; try simp only [tst_] at h3
    refine GL.rn 1 ?_;refine GL.dg_ 1 ?_;refine GL.rn 1 ?_;refine GL.dg_ 0 ?_;refine GL.stepG rfl (s := 24) rfl rfl (t_call rfl Tryz.call35 rfl (is := []) (js := [0, 2]) rfl rfl (by exact equal_ct _ _ _ _ _ _)) (GL.ret ?_)
    rintro _ _ _ ⟨rfl, rfl, rfl⟩
    refine GL.rn 2 ?_;refine GL.sp 31 ?_ ?_
    ·intro h4; try simp only [tst_] at h4
     refine GL.rn 1 ?_;refine GL.dg_ 1 ?_;refine GL.rn 1 ?_;refine GL.dg_ 0 ?_;refine GL.stepG rfl (s := 31) rfl rfl (t_call rfl Tryz.call35 rfl (is := []) (js := [1, 3]) rfl rfl (by exact equal_ct _ _ _ _ _ _)) (GL.ret ?_)
     rintro _ _ _ ⟨rfl, rfl, rfl⟩
     refine GL.rz 2 ?_;refine GC.ret (Fin.b1 4 [] [] ?_)
     refine ⟨congrArg Value.bool ?_, rfl, rfl⟩
     simp [op_ext, *]
    intro h4; try simp only [tst_] at h4
    refine GL.rz 7 ?_;refine GC.ret (Fin.b1 4 [] [] ?_)
    refine ⟨congrArg Value.bool ?_, rfl, rfl⟩
    simp [op_ext, *]
   intro h3; try simp only [tst_] at h3
   refine GL.rz 14 ?_;refine GC.ret (Fin.b1 4 [] [] ?_)
   refine ⟨congrArg Value.bool ?_, rfl, rfl⟩
   simp [op_ext, *]
  intro h2; try simp only [tst_] at h2
  refine GL.rz 21 ?_;refine GC.ret (Fin.b1 4 [] [] ?_)
  refine ⟨congrArg Value.bool ?_, rfl, rfl⟩
  simp [op_ext, *]
 intro h1; try simp only [tst_] at h1
 refine GL.rz 28 ?_;refine GC.ret (Fin.b1 4 [] [] ?_)
 refine ⟨congrArg Value.bool ?_, rfl, rfl⟩
 simp [op_ext, *]
theorem rbsame_ct (o p : OpD) (A : Option Addr) (cp : Nat) (B : Option Addr) (cq : Nat) (C : Option Addr) (cr : Nat) (D : Option Addr) (cs : Nat) : Ct Tryz.prog 27 [opD o A cp B cq, opD p C cr D cs] [] [Pers.row Kd.u8 A o.data, Pers.row Kd.u8 B o.old, Pers.row Kd.u8 C p.data, Pers.row Kd.u8 D p.old] (fun u G Q => u = .bool (decide (o = p)) ∧ G = [] ∧ Q = []) := by
 refine Ct.intro Tryz.func27 rfl rfl rfl (fun c hc => ?_)
 refine GC.sr_ ?_;refine GL.step rfl (t_box rfl rfl rfl) (GL.ex fun b_t2 => ?_);refine GL.step rfl (t_box rfl rfl rfl) (GL.ex fun b_t3 => ?_);refine GL.rz 1 ?_;refine GC.rr 1 ?_;refine GL.ld_ 1 ?_;refine GL.rn 1 ?_
 refine GL.ld_ 0 ?_;refine GL.rn 2 ?_;refine GL.sp 10 ?_ ?_
 ·intro h1; try simp only [tst_, str_eq] at h1
  refine GL.rn 1 ?_;refine GL.dg_ 1 ?_;refine GL.rn 1 ?_;refine GL.dg_ 0 ?_;refine GL.rn 3 ?_;refine GL.sp 17 ?_ ?_
  ·intro h2; try simp only [tst_, str_eq] at h2
   refine GL.rn 1 ?_;refine GL.dg_ 1 ?_;refine GL.rn 1 ?_;refine GL.dg_ 0 ?_;refine GL.rn 3 ?_;refine GL.sp 24 ?_ ?_
   ·intro h3; try simp only [tst_, str_eq] at h3
    refine GL.rn 1 ?_;refine GL.dg_ 1 ?_;refine GL.stepG rfl (s := 24) rfl rfl (t_mem rfl (m_str (i := 0) rfl rfl Tryz.underlying25 Tryz.underlying5 Tryz.underlying9)) ?_;refine GL.rn 1 ?_;refine GL.dg_ 0 ?_;refine GL.stepG rfl (s := 24) rfl rfl (t_mem rfl (m_str (i := 2) rfl rfl Tryz.underlying25 Tryz.underlying5 Tryz.underlying9)) ?_
    refine GL.pureG (s := 24) rfl rfl rfl (p_seql rfl rfl) ?_;refine GL.rn 2 ?_;refine GL.sp 33 ?_ ?_
    ·intro h4; try simp only [tst_, str_eq] at h4
     refine GL.rn 1 ?_;refine GL.dg_ 1 ?_;refine GL.stepG rfl (s := 33) rfl rfl (t_mem rfl (m_str (i := 1) rfl rfl Tryz.underlying25 Tryz.underlying5 Tryz.underlying9)) ?_;refine GL.rn 1 ?_;refine GL.dg_ 0 ?_;refine GL.stepG rfl (s := 33) rfl rfl (t_mem rfl (m_str (i := 3) rfl rfl Tryz.underlying25 Tryz.underlying5 Tryz.underlying9)) ?_
     refine GL.pureG (s := 33) rfl rfl rfl (p_seql rfl rfl) ?_;refine GL.rz 2 ?_;refine GC.ret (Fin.b1 4 [] [] ?_)
     refine ⟨congrArg Value.bool ?_, rfl, rfl⟩
     simp [op_ext, str_eq, *]
    intro h4; try simp only [tst_, str_eq] at h4
    refine GL.rz 9 ?_;refine GC.ret (Fin.b1 4 [] [] ?_)
    refine ⟨congrArg Value.bool ?_, rfl, rfl⟩
    simp [op_ext, str_eq, *]
   intro h3; try simp only [tst_, str_eq] at h3
   refine GL.rz 18 ?_;refine GC.ret (Fin.b1 4 [] [] ?_)
   refine ⟨congrArg Value.bool ?_, rfl, rfl⟩
   simp [op_ext, str_eq, *]
  intro h2; try simp only [tst_, str_eq] at h2
  refine GL.rz 25 ?_;refine GC.ret (Fin.b1 4 [] [] ?_)
  refine ⟨congrArg Value.bool ?_, rfl, rfl⟩
  simp [op_ext, str_eq, *]
 intro h1; try simp only [tst_, str_eq] at h1
 refine GL.rz 32 ?_;refine GC.ret (Fin.b1 4 [] [] ?_)
 refine ⟨congrArg Value.bool ?_, rfl, rfl⟩
 simp [op_ext, str_eq, *]
theorem bzero_ct (o : OpD) (A : Option Addr) (cp : Nat) (B : Option Addr) (cq : Nat) : Ct Tryz.prog 37 [opD o A cp B cq, .agg #[.int .u8 0, .int .i64 0, .int .i64 0, .slice none 0 0, .slice none 0 0]] [] [Pers.row Kd.u8 A o.data, Pers.row Kd.u8 B o.old] (fun u G Q => u = .bool (decide (o = zop)) ∧ G = [] ∧ Q = []) :=
  Ct.qperm (bsame_ct o zop A cp B cq none 0 none 0) (by intro q hq; simp only [List.mem_cons, List.not_mem_nil, or_false] at hq ⊢; rcases hq with rfl | rfl | rfl | rfl <;> first | exact .inr nil8 | simp)
theorem rbzero_ct (o : OpD) (A : Option Addr) (cp : Nat) (B : Option Addr) (cq : Nat) : Ct Tryz.prog 27 [opD o A cp B cq, .agg #[.int .u8 0, .int .i64 0, .int .i64 0, .slice none 0 0, .slice none 0 0]] [] [Pers.row Kd.u8 A o.data, Pers.row Kd.u8 B o.old] (fun u G Q => u = .bool (decide (o = zop)) ∧ G = [] ∧ Q = []) :=
  Ct.qperm (rbsame_ct o zop A cp B cq none 0 none 0) (by intro q hq; simp only [List.mem_cons, List.not_mem_nil, or_false] at hq ⊢; rcases hq with rfl | rfl | rfl | rfl <;> first | exact .inr nil8 | simp)
theorem msgr_ct (g h : Grp) (A : Option Addr) (cp : Nat) (B : Option Addr) (cq : Nat) (hl : g.members.length ≤ 140737488355328) : Ct Tryz.prog 72 [grpV g.epoch A g.members.length cp, grpV h.epoch B h.members.length cq] [] [Pers.row kI A g.members, Pers.row kI B h.members] (fun u G Q => u = .bool (decide (g = h)) ∧ G = [] ∧ Q = []) := by
 refine Ct.intro Tryz.func72 rfl rfl rfl (fun c hc => ?_)
 refine GC.sr_ ?_;refine GL.step rfl (t_box rfl rfl rfl) (GL.ex fun b_t2 => ?_);refine GL.step rfl (t_box rfl rfl rfl) (GL.ex fun b_t3 => ?_);refine GL.rz 1 ?_;refine GC.rr 1 ?_;refine GL.ld_ 1 ?_;refine GL.rn 1 ?_
 refine GL.ld_ 0 ?_;refine GL.rn 2 ?_;refine GL.sp 10 ?_ ?_
 ·intro h1; try simp only [tst_] at h1
  refine GL.rn 1 ?_;refine GL.dg_ 1 ?_;refine GL.rn 1 ?_;refine GL.dg_ 0 ?_;refine GL.stepG rfl (s := 10) rfl rfl (t_call rfl Tryz.call36 rfl (is := []) (js := [0, 1]) rfl rfl (by exact equal_i _ _ _ _ _ _ (by first | assumption | omega))) (GL.ret ?_)
  rintro _ _ _ ⟨rfl, rfl, rfl⟩
  refine GL.rz 2 ?_;refine GC.ret (Fin.b1 4 [] [] ?_)
  refine ⟨congrArg Value.bool ?_, rfl, rfl⟩
  simp [gr_ext, *]
 intro h1; try simp only [tst_] at h1
 refine GL.rz 7 ?_;refine GC.ret (Fin.b1 4 [] [] ?_)
 refine ⟨congrArg Value.bool ?_, rfl, rfl⟩
 simp [gr_ext, *]
theorem rgsg_ct (g h : Grp) (A : Option Addr) (cp : Nat) (B : Option Addr) (cq : Nat) (hl : g.members.length ≤ 140737488355328) : Ct Tryz.prog 42 [grpV g.epoch A g.members.length cp, grpV h.epoch B h.members.length cq] [] [Pers.row kI A g.members, Pers.row kI B h.members] (fun u G Q => u = .bool (decide (g = h)) ∧ G = [] ∧ Q = []) := by
  have := rgsame_ct g.epoch A g.members cp h.epoch B h.members cq hl
  rw [sameG_iff] at this
  exact this
theorem srs_ct (r s : Res) (A B : Option Addr) (cp cq : Nat) : Ct Tryz.prog 41 [.agg #[.int .u8 r.code, .slice A r.data.length cp], .agg #[.int .u8 s.code, .slice B s.data.length cq]] [] [Pers.row Kd.u8 A r.data, Pers.row Kd.u8 B s.data] (fun v G Q => v = .bool (decide (r = s)) ∧ G = [] ∧ Q = []) := by
  have := same_ct r s A B cp cq
  rw [sameRes_eq] at this
  exact this
theorem pgc_ct (r s : Page) (A : Option Addr) (cp : Nat) (B : Option Addr) (cq : Nat) : Ct Tryz.prog 70 [pageV r A cp, pageV s B cq] [] [Pers.row Kd.u8 A r.data, Pers.row Kd.u8 B s.data] (fun u G Q => u = .bool (decide (r = s)) ∧ G = [] ∧ Q = []) := by
 refine Ct.intro Tryz.func70 rfl rfl rfl (fun c hc => ?_)
 refine GC.sr_ ?_;refine GL.step rfl (t_box rfl rfl rfl) (GL.ex fun b_t2 => ?_);refine GL.step rfl (t_box rfl rfl rfl) (GL.ex fun b_t3 => ?_);refine GL.rz 1 ?_;refine GC.rr 1 ?_;refine GL.ld_ 1 ?_;refine GL.rn 1 ?_
 refine GL.ld_ 0 ?_;refine GL.rn 2 ?_;refine GL.sp 10 ?_ ?_
 ·intro h1; try simp only [tst_] at h1
  refine GL.rn 1 ?_;refine GL.dg_ 1 ?_;refine GL.rn 1 ?_;refine GL.dg_ 0 ?_;refine GL.rn 3 ?_;refine GL.sp 17 ?_ ?_
  ·intro h2; try simp only [tst_] at h2
   refine GL.rn 1 ?_;refine GL.dg_ 1 ?_;refine GL.rn 1 ?_;refine GL.dg_ 0 ?_;refine GL.stepG rfl (s := 17) rfl rfl (t_call rfl Tryz.call35 rfl (is := []) (js := [0, 1]) rfl rfl (by exact equal_ct _ _ _ _ _ _)) (GL.ret ?_)
   rintro _ _ _ ⟨rfl, rfl, rfl⟩
   refine GL.rz 2 ?_;refine GC.ret (Fin.b1 4 [] [] ?_)
   refine ⟨congrArg Value.bool ?_, rfl, rfl⟩
   simp [pg_ext, *]
  intro h2; try simp only [tst_] at h2
  refine GL.rz 7 ?_;refine GC.ret (Fin.b1 4 [] [] ?_)
  refine ⟨congrArg Value.bool ?_, rfl, rfl⟩
  simp [pg_ext, *]
 intro h1; try simp only [tst_] at h1
 refine GL.rz 14 ?_;refine GC.ret (Fin.b1 4 [] [] ?_)
 refine ⟨congrArg Value.bool ?_, rfl, rfl⟩
 simp [pg_ext, *]
theorem eqpg_ct (A : Option Addr) (a_ : List Page) (cp : Nat) (B : Option Addr) (b_ : List Page) (cq : Nat) (hl : a_.length ≤ 140737488355328) : Ct Tryz.prog 69 [.slice A a_.length cp, .slice B b_.length cq, .func (.func 70) #[] #[]] [] [Pers.row kPage A a_, Pers.row kPage B b_] (fun u G Q => u = .bool (decide (a_ = b_)) ∧ G = [] ∧ Q = []) := by
 refine Ct.intro Tryz.func69 rfl rfl rfl (fun c hc => ?_)
 refine GC.rg 1 ?_;refine GC.seq' ?_;refine GC.rg 5 ?_;refine GC.co ?_ ?_
 ·intro h1; try simp only [tst_] at h1
  first
  | (exfalso; omega)
  |(skip
    refine GC.rg 1 ?_;refine GC.ret (Fin.b1 6 [] [] ?_)
    exact ⟨congrArg Value.bool (decide_eq_false fun e => by subst e; omega).symm, rfl, rfl⟩)
 intro h1; try simp only [tst_] at h1
 first
 | (exfalso; omega)
 |(skip
   refine GC.skip (?_ : GC _ _ _ _)
   refine GC.seq' ?_;refine GC.rg 3 ?_;refine GC.block ?_;refine GC.loopK1 (ks := [1, 2, 15, 16]) (is := []) (js := [0, 1]) (fun (k : Nat) => k ≤ a_.length ∧ ∀ j : Nat, j < k → gt a_ (j : Int) = gt b_ (j : Int)) (fun (k : Nat) => [(17, .int .i64 (k : Int))]) (fun (k : Nat) => []) (fun (k : Nat) => []) (fun (k : Nat) => a_.length - k) (0) rfl rfl rfl (fun a w h => ⟨⟨by omega, fun j hj => by omega⟩, h.cutK (is := []) (js := [0, 1]) (ks := [1, 2, 15, 16]) ⟨rfl, trivial⟩ rfl rfl rfl⟩) ?_
   intro k hk
   try dsimp only [List.cons_append, List.nil_append] at hk ⊢
   obtain ⟨hk, he⟩ := hk
   refine GC.rg 1 ?_;refine GC.seq' ?_;refine GC.co ?_ ?_
   ·intro h2; try simp only [tst_] at h2
    first
    | (exfalso; omega)
    |(skip
      refine GC.skip (?_ : GC _ _ _ _)
      refine GC.seq' ?_;refine GC.block ?_;refine GC.rr 1 ?_;refine GL.step rfl (t_index (i := 0) rfl rfl rfl rfl Tryz.underlying36 sz_59 (by omega) (gt_ok (by omega) (by omega))) (GL.ex fun p_x20 => GL.ex fun r_x20 => GL.and fun ok_x20 => ?_)
      rcases r_x20 with ⟨_, ⟨_, ⟨Ax20_0, cpx20_0⟩⟩⟩
      refine GL.step rfl (t_mem rfl (m_loadPN (i := 0) rfl rfl ag_59 (vs := [_, _, _]) sz_59 ⟨rfl, rfl, rfl, trivial⟩)) ?_;refine GL.step rfl (t_alloc rfl ze_59) (GL.ex fun b_t8 => ?_);refine GL.rn 1 ?_;refine GL.sn_ 0 ?_
      refine GL.nr 2 ?_;refine GL.step rfl (t_index (i := 3) rfl rfl rfl rfl Tryz.underlying36 sz_59 (by omega) (gt_ok (by omega) (by omega))) (GL.ex fun p_x24 => GL.ex fun r_x24 => GL.and fun ok_x24 => ?_)
      rcases r_x24 with ⟨_, ⟨_, ⟨Ax24_0, cpx24_0⟩⟩⟩
      refine GL.step rfl (t_mem rfl (m_loadPN (i := 0) rfl rfl ag_59 (vs := [_, _, _]) sz_59 ⟨rfl, rfl, rfl, trivial⟩)) ?_;refine GL.step rfl (t_alloc rfl ze_59) (GL.ex fun b_t9 => ?_);refine GL.sn_ 0 ?_;refine GL.nr 1 ?_
      refine GL.ln_ 1 3 ?_;refine GL.ln_ 0 3 ?_;refine GL.step rfl (t_callv rfl Tryz.call70 rfl rfl (is := []) (js := [3, 1]) rfl rfl (by exact pgc_ct _ _ _ _ _ _)) (GL.ret ?_)
      rintro _ _ _ ⟨rfl, rfl, rfl⟩
      refine GL.rz 1 ?_;refine GC.co ?_ ?_
      ·intro h3; try simp only [tst_] at h3
       first
       | (exfalso; omega)
       |(skip
         refine GC.rg 1 ?_;refine GC.ret (Fin.b1 6 [] [] ?_)
         exact ⟨congrArg Value.bool (decide_eq_false (gt_ne (k := (k : Int)) (by assumption))).symm, rfl, rfl⟩)
      intro h3; try simp only [tst_] at h3
      first
      | (exfalso; omega)
      |(skip
        refine GC.skip (?_ : GC _ _ _ _)
        refine GC.region ?_;refine GL.pure rfl (p_add rfl rfl (w64 (by omega) (by omega))) ?_;refine GL.rn 1 ?_;refine GL.nil ?_
        exact fun a w h => ⟨(k + 1), (by omega), ⟨by omega, fun j hj => (Nat.lt_succ_iff_lt_or_eq.1 hj).elim (he j) (fun e => by subst e; assumption)⟩, h.ct [] [4, 5]⟩))
   intro h2; try simp only [tst_] at h2
   first
   | (exfalso; omega)
   |(skip
     refine GC.exit (?_ : GC _ _ _ _)
     refine GC.rg 1 ?_;refine GC.ret (Fin.b1 6 [] [] ?_)
     exact ⟨congrArg Value.bool (decide_eq_true (list_ext_gt (by omega) fun j hj => he j (by omega))).symm, rfl, rfl⟩))
theorem rpgs_ct (A : Option Addr) (a_ : List Page) (cp : Nat) (B : Option Addr) (b_ : List Page) (cq : Nat) (hl : a_.length ≤ 140737488355328) : Ct Tryz.prog 73 [.slice A a_.length cp, .slice B b_.length cq] [] [Pers.row kPage A a_, Pers.row kPage B b_] (fun u G Q => u = .bool (decide (a_ = b_)) ∧ G = [] ∧ Q = []) := by
 refine Ct.intro Tryz.func73 rfl rfl rfl (fun c hc => ?_)
 refine GC.rg 1 ?_;refine GC.seq' ?_;refine GC.rg 5 ?_;refine GC.co ?_ ?_
 ·intro h1; try simp only [tst_, str_eq] at h1
  first
  | (exfalso; omega)
  |(skip
    refine GC.rg 1 ?_;refine GC.ret (Fin.b1 4 [] [] ?_)
    exact ⟨congrArg Value.bool (decide_eq_false fun e => by subst e; omega).symm, rfl, rfl⟩)
 intro h1; try simp only [tst_, str_eq] at h1
 first
 | (exfalso; omega)
 |(skip
   refine GC.skip (?_ : GC _ _ _ _)
   refine GC.seq' ?_;refine GC.rg 1 ?_;refine GC.block ?_;refine GC.loopK1 (ks := [0, 1]) (is := []) (js := [0, 1]) (fun (k : Nat) => k ≤ a_.length ∧ ∀ j : Nat, j < k → gt a_ (j : Int) = gt b_ (j : Int)) (fun (k : Nat) => [(5, .int .i64 (k : Int))]) (fun (k : Nat) => []) (fun (k : Nat) => []) (fun (k : Nat) => a_.length - k) (0) rfl rfl rfl (fun a w h => ⟨⟨by omega, fun j hj => by omega⟩, h.cutK (is := []) (js := [0, 1]) (ks := [0, 1]) ⟨rfl, trivial⟩ rfl rfl rfl⟩) ?_
   intro k hk
   try dsimp only [List.cons_append, List.nil_append] at hk ⊢
   obtain ⟨hk, he⟩ := hk
   refine GC.seq' ?_;refine GC.rg 4 ?_;refine GC.co ?_ ?_
   ·intro h2; try simp only [tst_, str_eq] at h2
    first
    | (exfalso; omega)
    |(skip
      refine GC.skip (?_ : GC _ _ _ _)
      refine GC.seq' ?_;refine GC.block ?_;refine GC.seq' ?_;refine GC.layQ (y := .tmp 5) (j := 0) rfl rfl (by omega) (gt_ok (by omega) (by omega)) (fun p_x19 r_x19 hA_x19 ok_x19 => ?_)
      rcases r_x19 with ⟨_, ⟨_, ⟨Ax19_0, cpx19_0⟩⟩⟩
      refine GC.layQ (y := .tmp 5) (j := 3) rfl rfl (by omega) (gt_ok (by omega) (by omega)) (fun p_x24 r_x24 hA_x24 ok_x24 => ?_)
      rcases r_x24 with ⟨_, ⟨_, ⟨Ax24_0, cpx24_0⟩⟩⟩
      refine GC.layQ (y := .tmp 5) (j := 4) rfl rfl (by omega) (gt_ok (by omega) (by omega)) (fun p_x31 r_x31 hA_x31 ok_x31 => ?_)
      rcases r_x31 with ⟨_, ⟨_, ⟨Ax31_0, cpx31_0⟩⟩⟩
      refine GC.layQ (y := .tmp 5) (j := 7) rfl rfl (by omega) (gt_ok (by omega) (by omega)) (fun p_x36 r_x36 hA_x36 ok_x36 => ?_)
      rcases r_x36 with ⟨_, ⟨_, ⟨Ax36_0, cpx36_0⟩⟩⟩
      refine GC.layQ (y := .tmp 5) (j := 8) rfl rfl (by omega) (gt_ok (by omega) (by omega)) (fun p_x44 r_x44 hA_x44 ok_x44 => ?_)
      rcases r_x44 with ⟨_, ⟨_, ⟨Ax44_0, cpx44_0⟩⟩⟩
      refine GC.layQ (y := .tmp 5) (j := 11) rfl rfl (by omega) (gt_ok (by omega) (by omega)) (fun p_x50 r_x50 hA_x50 ok_x50 => ?_)
      rcases r_x50 with ⟨_, ⟨_, ⟨Ax50_0, cpx50_0⟩⟩⟩
      refine GC.regionQ wide_ (by kernel_rfl) ?_;refine GQ.rn 2 ?_;refine GQ.step rfl (q_pure (p_indexL hA_x19 rfl rfl Tryz.underlying36 sz_59 (by omega) (by omega))) ?_;refine GQ.step rfl (q_pure (p_fieldAddr' fo_59_0 rfl)) ?_
      refine GQ.step rfl (q_mem (m_loadP (i := 10) rfl rfl ag_3 rfl)) ?_;refine GQ.rn 2 ?_;refine GQ.step rfl (q_pure (p_indexL hA_x24 rfl rfl Tryz.underlying36 sz_59 (by omega) (by omega))) ?_;refine GQ.step rfl (q_pure (p_fieldAddr' fo_59_0 rfl)) ?_
      refine GQ.step rfl (q_mem (m_loadP (i := 8) rfl rfl ag_3 rfl)) ?_;refine GQ.rn 2 ?_;refine GQ.split (i := 28) rfl (fun h3 => ?_) (fun h3 => ?_)
      ·try simp only [tst_, str_eq] at h3
       first
       | (exfalso; omega)
       |(skip
         refine GQ.rn 27 ?_
         refine GQ.nil (?_ : GC _ _ _ _)
         refine GC.cond_true rfl ?_;refine GC.rg 1 ?_;refine GC.ret (Fin.b1 4 [] [] ?_)
         exact ⟨congrArg Value.bool (decide_eq_false (gt_ne (k := (k : Int)) fun e => by simp_all)).symm, rfl, rfl⟩)
      try simp only [tst_, str_eq] at h3
      first
      | (exfalso; omega)
      |(skip
        refine GQ.rn 2 ?_;refine GQ.stepG (s := 28) rfl rfl rfl (q_pure (p_indexL hA_x31 rfl rfl Tryz.underlying36 sz_59 (by omega) (by omega))) ?_;refine GQ.stepG (s := 28) rfl rfl rfl (q_pure (p_fieldAddr' fo_59_1 rfl)) ?_
        refine GQ.stepG (s := 28) rfl rfl rfl (q_mem (m_loadP (i := 6) rfl rfl ag_3 rfl)) ?_;refine GQ.rn 2 ?_;refine GQ.stepG (s := 28) rfl rfl rfl (q_pure (p_indexL hA_x36 rfl rfl Tryz.underlying36 sz_59 (by omega) (by omega))) ?_
        refine GQ.stepG (s := 28) rfl rfl rfl (q_pure (p_fieldAddr' fo_59_1 rfl)) ?_;refine GQ.stepG (s := 28) rfl rfl rfl (q_mem (m_loadP (i := 4) rfl rfl ag_3 rfl)) ?_;refine GQ.rn 3 ?_;refine GQ.split (i := 41) rfl (fun h4 => ?_) (fun h4 => ?_)
        ·try simp only [tst_, str_eq] at h4
         first
         | (exfalso; omega)
         |(skip
           refine GQ.rn 14 ?_
           refine GQ.nil (?_ : GC _ _ _ _)
           refine GC.cond_true rfl ?_;refine GC.rg 1 ?_;refine GC.ret (Fin.b1 4 [] [] ?_)
           exact ⟨congrArg Value.bool (decide_eq_false (gt_ne (k := (k : Int)) fun e => by simp_all)).symm, rfl, rfl⟩)
        try simp only [tst_, str_eq] at h4
        first
        | (exfalso; omega)
        |(skip
          refine GQ.rn 2 ?_;refine GQ.stepG (s := 41) rfl rfl rfl (q_pure (p_indexL hA_x44 rfl rfl Tryz.underlying36 sz_59 (by omega) (by omega))) ?_;refine GQ.stepG (s := 41) rfl rfl rfl (q_pure (p_fieldAddr' fo_59_2 rfl)) ?_
          refine GQ.stepG (s := 41) rfl rfl rfl (q_mem (m_loadP (i := 2) rfl rfl ag_25 rfl)) ?_;refine GQ.stepG (s := 41) rfl rfl rfl (q_mem (m_str (i := 3) rfl rfl Tryz.underlying25 Tryz.underlying5 Tryz.underlying9)) ?_
          refine GQ.rn 2 ?_;refine GQ.stepG (s := 41) rfl rfl rfl (q_pure (p_indexL hA_x50 rfl rfl Tryz.underlying36 sz_59 (by omega) (by omega))) ?_;refine GQ.stepG (s := 41) rfl rfl rfl (q_pure (p_fieldAddr' fo_59_2 rfl)) ?_
          refine GQ.stepG (s := 41) rfl rfl rfl (q_mem (m_loadP (i := 0) rfl rfl ag_25 rfl)) ?_;refine GQ.stepG (s := 41) rfl rfl rfl (q_mem (m_str (i := 1) rfl rfl Tryz.underlying25 Tryz.underlying5 Tryz.underlying9)) ?_
          refine GQ.stepG (s := 41) rfl rfl rfl (q_pure (p_sneq rfl rfl)) ?_;refine GQ.rn 1 ?_
          refine GQ.nil (?_ : GC _ _ _ _)
          refine GC.co ?_ ?_
          ·intro h5; try simp only [tst_, str_eq] at h5
           first
           | (exfalso; omega)
           |(skip
             refine GC.rg 1 ?_;refine GC.ret (Fin.b1 4 [] [] ?_)
             exact ⟨congrArg Value.bool (decide_eq_false (gt_ne (k := (k : Int)) fun e => by simp_all)).symm, rfl, rfl⟩)
          intro h5; try simp only [tst_, str_eq] at h5
          first
          | (exfalso; omega)
          |(skip
            refine GC.skip (?_ : GC _ _ _ _)
            refine GC.region ?_;refine GL.rn 1 ?_;refine GL.pure rfl (p_add rfl rfl (w64 (by omega) (by omega))) ?_;refine GL.rn 1 ?_;refine GL.nil ?_
            exact fun a w h => ⟨(k + 1), (by omega), ⟨by omega, fun j hj => (Nat.lt_succ_iff_lt_or_eq.1 hj).elim (he j) (fun e => by subst e; exact (pg_ext _ _).2 ⟨by assumption, by assumption, by assumption⟩)⟩, h.cut (is := []) (js := [12, 13]) ⟨rfl, rfl, rfl, trivial⟩ rfl rfl⟩))))
   intro h2; try simp only [tst_, str_eq] at h2
   first
   | (exfalso; omega)
   |(skip
     refine GC.exit (?_ : GC _ _ _ _)
     refine GC.rg 1 ?_;refine GC.ret (Fin.b1 4 [] [] ?_)
     exact ⟨congrArg Value.bool (decide_eq_true (list_ext_gt (by omega) fun j hj => he j (by omega))).symm, rfl, rfl⟩))
theorem msen_ct (e f : Entry) (A : Option Addr) (cp : Nat) (B : Option Addr) (cq : Nat) (C : Option Addr) (cr : Nat) (A' : Option Addr) (cp' : Nat) (B' : Option Addr) (cq' : Nat) (C' : Option Addr) (cr' : Nat) (hl : e.grp.members.length ≤ 140737488355328) : Ct Tryz.prog 40 [entV e A cp B cq C cr, entV f A' cp' B' cq' C' cr'] [] (entQ e A B C ++ entQ f A' B' C') (fun u G Q => u = .bool (decide (e = f)) ∧ G = [] ∧ Q = []) := by
 refine Ct.intro Tryz.func40 rfl rfl rfl (fun c hc => ?_)
 refine GC.sr_ ?_;refine GL.step rfl (t_box rfl rfl rfl) (GL.ex fun b_t2 => ?_);refine GL.step rfl (t_box rfl rfl rfl) (GL.ex fun b_t3 => ?_);refine GL.rz 1 ?_;refine GC.rr 1 ?_;refine GL.ld_ 1 ?_;refine GL.rn 1 ?_
 refine GL.ld_ 0 ?_;refine GL.rn 2 ?_;refine GL.sp 10 ?_ ?_
 ·intro h1; try simp only [tst_] at h1
  refine GL.rn 1 ?_;refine GL.dg_ 1 ?_;refine GL.rn 1 ?_;refine GL.dg_ 0 ?_;refine GL.rn 3 ?_;refine GL.sp 17 ?_ ?_
  ·intro h2; try simp only [tst_] at h2
   refine GL.rn 1 ?_;refine GL.dg_ 1 ?_;refine GL.rn 1 ?_;refine GL.dg_ 0 ?_;refine GL.rn 3 ?_;refine GL.sp 24 ?_ ?_
   ·intro h3; try simp only [tst_] at h3
    refine GL.rn 1 ?_;refine GL.dg_ 1 ?_;refine GL.rn 1 ?_;refine GL.dg_ 0 ?_;refine GL.rn 3 ?_;refine GL.sp 31 ?_ ?_
    ·intro h4; try simp only [tst_] at h4
     refine GL.rn 1 ?_;refine GL.dg_ 1 ?_;refine GL.rn 1 ?_;refine GL.dg_ 0 ?_;refine GL.rn 3 ?_;refine GL.sp 38 ?_ ?_
     ·intro h5; try simp only [tst_] at h5
      refine GL.rn 1 ?_;refine GL.lg_ 1 5 ?_;refine GL.rn 1 ?_;refine GL.lg_ 0 5 ?_;refine GL.stepG rfl (s := 38) rfl rfl (t_call rfl Tryz.call37 rfl (is := []) (js := [0, 1, 3, 4]) rfl rfl (by exact bsame_ct e.op f.op _ _ _ _ _ _ _ _)) (GL.ret ?_)
      rintro _ _ _ ⟨rfl, rfl, rfl⟩
      refine GL.rn 2 ?_;refine GL.sp 45 ?_ ?_
      ·intro h6; try simp only [tst_] at h6
       refine GL.rn 1 ?_;refine GL.lg_ 1 2 ?_;refine GL.rn 1 ?_;refine GL.lg_ 0 2 ?_;refine GL.stepG rfl (s := 45) rfl rfl (t_call rfl Tryz.call72 rfl (is := []) (js := [2, 5]) rfl rfl (by exact msgr_ct e.grp f.grp _ _ _ _ (by first | assumption | omega))) (GL.ret ?_)
       rintro _ _ _ ⟨rfl, rfl, rfl⟩
       refine GL.rz 2 ?_;refine GC.ret (Fin.b1 4 [] [] ?_)
       refine ⟨congrArg Value.bool ?_, rfl, rfl⟩
       simp [en_ext, *]
      intro h6; try simp only [tst_] at h6
      refine GL.rz 7 ?_;refine GC.ret (Fin.b1 4 [] [] ?_)
      refine ⟨congrArg Value.bool ?_, rfl, rfl⟩
      simp [en_ext, *]
     intro h5; try simp only [tst_] at h5
     refine GL.rz 14 ?_;refine GC.ret (Fin.b1 4 [] [] ?_)
     refine ⟨congrArg Value.bool ?_, rfl, rfl⟩
     simp [en_ext, *]
    intro h4; try simp only [tst_] at h4
    refine GL.rz 21 ?_;refine GC.ret (Fin.b1 4 [] [] ?_)
    refine ⟨congrArg Value.bool ?_, rfl, rfl⟩
    simp [en_ext, *]
   intro h3; try simp only [tst_] at h3
   refine GL.rz 28 ?_;refine GC.ret (Fin.b1 4 [] [] ?_)
   refine ⟨congrArg Value.bool ?_, rfl, rfl⟩
   simp [en_ext, *]
  intro h2; try simp only [tst_] at h2
  refine GL.rz 35 ?_;refine GC.ret (Fin.b1 4 [] [] ?_)
  refine ⟨congrArg Value.bool ?_, rfl, rfl⟩
  simp [en_ext, *]
 intro h1; try simp only [tst_] at h1
 refine GL.rz 42 ?_;refine GC.ret (Fin.b1 4 [] [] ?_)
 refine ⟨congrArg Value.bool ?_, rfl, rfl⟩
 simp [en_ext, *]
theorem rsen_ct (e f : Entry) (A : Option Addr) (cp : Nat) (B : Option Addr) (cq : Nat) (C : Option Addr) (cr : Nat) (A' : Option Addr) (cp' : Nat) (B' : Option Addr) (cq' : Nat) (C' : Option Addr) (cr' : Nat) (hl : e.grp.members.length ≤ 140737488355328) : Ct Tryz.prog 75 [entV e A cp B cq C cr, entV f A' cp' B' cq' C' cr'] [] (entQ e A B C ++ entQ f A' B' C') (fun u G Q => u = .bool (decide (e = f)) ∧ G = [] ∧ Q = []) := by
 refine Ct.intro Tryz.func75 rfl rfl rfl (fun c hc => ?_)
 refine GC.sr_ ?_;refine GL.step rfl (t_box rfl rfl rfl) (GL.ex fun b_t2 => ?_);refine GL.step rfl (t_box rfl rfl rfl) (GL.ex fun b_t3 => ?_);refine GL.rz 1 ?_;refine GC.rr 1 ?_;refine GL.ld_ 1 ?_;refine GL.rn 1 ?_
 refine GL.ld_ 0 ?_;refine GL.rn 2 ?_;refine GL.sp 10 ?_ ?_
 ·intro h1; try simp only [tst_] at h1
  refine GL.rn 1 ?_;refine GL.dg_ 1 ?_;refine GL.rn 1 ?_;refine GL.dg_ 0 ?_;refine GL.rn 3 ?_;refine GL.sp 17 ?_ ?_
  ·intro h2; try simp only [tst_] at h2
   refine GL.rn 1 ?_;refine GL.dg_ 1 ?_;refine GL.rn 1 ?_;refine GL.dg_ 0 ?_;refine GL.rn 3 ?_;refine GL.sp 24 ?_ ?_
   ·intro h3; try simp only [tst_] at h3
    refine GL.rn 1 ?_;refine GL.dg_ 1 ?_;refine GL.rn 1 ?_;refine GL.dg_ 0 ?_;refine GL.rn 3 ?_;refine GL.sp 31 ?_ ?_
    ·intro h4; try simp only [tst_] at h4
     refine GL.rn 1 ?_;refine GL.dg_ 1 ?_;refine GL.rn 1 ?_;refine GL.dg_ 0 ?_;refine GL.rn 3 ?_;refine GL.sp 38 ?_ ?_
     ·intro h5; try simp only [tst_] at h5
      refine GL.rn 1 ?_;refine GL.lg_ 1 5 ?_;refine GL.rn 1 ?_;refine GL.lg_ 0 5 ?_;refine GL.stepG rfl (s := 38) rfl rfl (t_call rfl Tryz.call27 rfl (is := []) (js := [0, 1, 3, 4]) rfl rfl (by exact rbsame_ct e.op f.op _ _ _ _ _ _ _ _)) (GL.ret ?_)
      rintro _ _ _ ⟨rfl, rfl, rfl⟩
      refine GL.rn 2 ?_;refine GL.sp 45 ?_ ?_
      ·intro h6; try simp only [tst_] at h6
       refine GL.rn 1 ?_;refine GL.lg_ 1 2 ?_;refine GL.rn 1 ?_;refine GL.lg_ 0 2 ?_;refine GL.stepG rfl (s := 45) rfl rfl (t_call rfl Tryz.call42 rfl (is := []) (js := [2, 5]) rfl rfl (by exact rgsg_ct e.grp f.grp _ _ _ _ (by first | assumption | omega))) (GL.ret ?_)
       rintro _ _ _ ⟨rfl, rfl, rfl⟩
       refine GL.rz 2 ?_;refine GC.ret (Fin.b1 4 [] [] ?_)
       refine ⟨congrArg Value.bool ?_, rfl, rfl⟩
       simp [en_ext, *]
      intro h6; try simp only [tst_] at h6
      refine GL.rz 7 ?_;refine GC.ret (Fin.b1 4 [] [] ?_)
      refine ⟨congrArg Value.bool ?_, rfl, rfl⟩
      simp [en_ext, *]
     intro h5; try simp only [tst_] at h5
     refine GL.rz 14 ?_;refine GC.ret (Fin.b1 4 [] [] ?_)
     refine ⟨congrArg Value.bool ?_, rfl, rfl⟩
     simp [en_ext, *]
    intro h4; try simp only [tst_] at h4
    refine GL.rz 21 ?_;refine GC.ret (Fin.b1 4 [] [] ?_)
    refine ⟨congrArg Value.bool ?_, rfl, rfl⟩
    simp [en_ext, *]
   intro h3; try simp only [tst_] at h3
   refine GL.rz 28 ?_;refine GC.ret (Fin.b1 4 [] [] ?_)
   refine ⟨congrArg Value.bool ?_, rfl, rfl⟩
   simp [en_ext, *]
  intro h2; try simp only [tst_] at h2
  refine GL.rz 35 ?_;refine GC.ret (Fin.b1 4 [] [] ?_)
  refine ⟨congrArg Value.bool ?_, rfl, rfl⟩
  simp [en_ext, *]
 intro h1; try simp only [tst_] at h1
 refine GL.rz 42 ?_;refine GC.ret (Fin.b1 4 [] [] ?_)
 refine ⟨congrArg Value.bool ?_, rfl, rfl⟩
 simp [en_ext, *]
theorem gt_elem {α : Type} [Inhabited α] {l : List α} {k : Nat} (h : k < l.length) : gt l (k : Int) ∈ l := by
  have := gt_ok (xs := l) (i := (k : Int)) (by omega) (by omega)
  exact List.mem_of_getElem? this
theorem eqen_ct (A : Option Addr) (a_ : List Entry) (cp : Nat) (B : Option Addr) (b_ : List Entry) (cq : Nat) (hl : a_.length ≤ 140737488355328) (hm : ∀ e ∈ a_, EntLen e) : Ct Tryz.prog 39 [.slice A a_.length cp, .slice B b_.length cq, .func (.func 40) #[] #[]] [] [Pers.row kEntry A a_, Pers.row kEntry B b_] (fun u G Q => u = .bool (decide (a_ = b_)) ∧ G = [] ∧ Q = []) := by
 refine Ct.intro Tryz.func39 rfl rfl rfl (fun c hc => ?_)
 refine GC.rg 1 ?_;refine GC.seq' ?_;refine GC.rg 5 ?_;refine GC.co ?_ ?_
 ·intro h1; try simp only [tst_] at h1
  first
  | (exfalso; omega)
  |(skip
    refine GC.rg 1 ?_;refine GC.ret (Fin.b1 6 [] [] ?_)
    exact ⟨congrArg Value.bool (decide_eq_false fun e => by subst e; omega).symm, rfl, rfl⟩)
 intro h1; try simp only [tst_] at h1
 first
 | (exfalso; omega)
 |(skip
   refine GC.skip (?_ : GC _ _ _ _)
   refine GC.seq' ?_;refine GC.rg 3 ?_;refine GC.block ?_;refine GC.loopK1 (ks := [1, 2, 15, 16]) (is := []) (js := [0, 1]) (fun (k : Nat) => k ≤ a_.length ∧ ∀ j : Nat, j < k → gt a_ (j : Int) = gt b_ (j : Int)) (fun (k : Nat) => [(17, .int .i64 (k : Int))]) (fun (k : Nat) => []) (fun (k : Nat) => []) (fun (k : Nat) => a_.length - k) (0) rfl rfl rfl (fun a w h => ⟨⟨by omega, fun j hj => by omega⟩, h.cutK (is := []) (js := [0, 1]) (ks := [1, 2, 15, 16]) ⟨rfl, trivial⟩ rfl rfl rfl⟩) ?_
   intro k hk
   try dsimp only [List.cons_append, List.nil_append] at hk ⊢
   obtain ⟨hk, he⟩ := hk
   refine GC.rg 1 ?_;refine GC.seq' ?_;refine GC.co ?_ ?_
   ·intro h2; try simp only [tst_] at h2
    first
    | (exfalso; omega)
    |(skip
      refine GC.skip (?_ : GC _ _ _ _)
      refine GC.seq' ?_;refine GC.block ?_;refine GC.rr 1 ?_;refine GL.step rfl (t_index (i := 0) rfl rfl rfl rfl Tryz.underlying40 sz_64 (by omega) (gt_ok (by omega) (by omega))) (GL.ex fun p_x20 => GL.ex fun r_x20 => GL.and fun ok_x20 => ?_)
      rcases r_x20 with ⟨_, ⟨_, ⟨_, ⟨_, ⟨_, ⟨⟨_, ⟨_, ⟨_, ⟨⟨Ax20_0, cpx20_0⟩, ⟨Ax20_1, cpx20_1⟩⟩⟩⟩⟩, ⟨_, ⟨Ax20_2, cpx20_2⟩⟩⟩⟩⟩⟩⟩⟩
      refine GL.step rfl (t_mem rfl (m_loadPN (i := 0) rfl rfl ag_64 (vs := [_, _, _, _, _, _, _, _, _, _, _, _]) sz_64 ⟨rfl, rfl, rfl, rfl, rfl, rfl, rfl, rfl, rfl, rfl, rfl, rfl, trivial⟩)) ?_;refine GL.step rfl (t_alloc rfl ze_64) (GL.ex fun b_t8 => ?_)
      refine GL.rn 1 ?_;refine GL.sn_ 0 ?_;refine GL.nr 2 ?_;refine GL.step rfl (t_index (i := 5) rfl rfl rfl rfl Tryz.underlying40 sz_64 (by omega) (gt_ok (by omega) (by omega))) (GL.ex fun p_x24 => GL.ex fun r_x24 => GL.and fun ok_x24 => ?_)
      rcases r_x24 with ⟨_, ⟨_, ⟨_, ⟨_, ⟨_, ⟨⟨_, ⟨_, ⟨_, ⟨⟨Ax24_0, cpx24_0⟩, ⟨Ax24_1, cpx24_1⟩⟩⟩⟩⟩, ⟨_, ⟨Ax24_2, cpx24_2⟩⟩⟩⟩⟩⟩⟩⟩
      refine GL.step rfl (t_mem rfl (m_loadPN (i := 0) rfl rfl ag_64 (vs := [_, _, _, _, _, _, _, _, _, _, _, _]) sz_64 ⟨rfl, rfl, rfl, rfl, rfl, rfl, rfl, rfl, rfl, rfl, rfl, rfl, trivial⟩)) ?_;refine GL.step rfl (t_alloc rfl ze_64) (GL.ex fun b_t9 => ?_)
      refine GL.sn_ 0 ?_;refine GL.nr 1 ?_;refine GL.ln_ 1 12 ?_;refine GL.ln_ 0 12 ?_;refine GL.step rfl (t_callv rfl Tryz.call40 rfl rfl (is := []) (js := [5, 6, 7, 1, 2, 3]) rfl rfl (by exact msen_ct (gt a_ (k : Int)) (gt b_ (k : Int)) _ _ _ _ _ _ _ _ _ _ _ _ (by have := (hm _ (gt_elem (l := a_) (k := k) (by omega))).m; omega))) (GL.ret ?_)
      rintro _ _ _ ⟨rfl, rfl, rfl⟩
      refine GL.rz 1 ?_;refine GC.co ?_ ?_
      ·intro h3; try simp only [tst_] at h3
       first
       | (exfalso; omega)
       |(skip
         refine GC.rg 1 ?_;refine GC.ret (Fin.b1 6 [] [] ?_)
         exact ⟨congrArg Value.bool (decide_eq_false (gt_ne (k := (k : Int)) (by assumption))).symm, rfl, rfl⟩)
      intro h3; try simp only [tst_] at h3
      first
      | (exfalso; omega)
      |(skip
        refine GC.skip (?_ : GC _ _ _ _)
        refine GC.region ?_;refine GL.pure rfl (p_add rfl rfl (w64 (by omega) (by omega))) ?_;refine GL.rn 1 ?_;refine GL.nil ?_
        exact fun a w h => ⟨(k + 1), (by omega), ⟨by omega, fun j hj => (Nat.lt_succ_iff_lt_or_eq.1 hj).elim (he j) (fun e => by subst e; assumption)⟩, h.ct [] [8, 9]⟩))
   intro h2; try simp only [tst_] at h2
   first
   | (exfalso; omega)
   |(skip
     refine GC.exit (?_ : GC _ _ _ _)
     refine GC.rg 1 ?_;refine GC.ret (Fin.b1 6 [] [] ?_)
     exact ⟨congrArg Value.bool (decide_eq_true (list_ext_gt (by omega) fun j hj => he j (by omega))).symm, rfl, rfl⟩))
theorem rens_ct (A : Option Addr) (a_ : List Entry) (cp : Nat) (B : Option Addr) (b_ : List Entry) (cq : Nat) (hl : a_.length ≤ 140737488355328) (hm : ∀ e ∈ a_, EntLen e) : Ct Tryz.prog 44 [.slice A a_.length cp, .slice B b_.length cq] [] [Pers.row kEntry A a_, Pers.row kEntry B b_] (fun u G Q => u = .bool (decide (a_ = b_)) ∧ G = [] ∧ Q = []) := by
 refine Ct.intro Tryz.func44 rfl rfl rfl (fun c hc => ?_)
 refine GC.rg 1 ?_;refine GC.seq' ?_;refine GC.rg 5 ?_;refine GC.co ?_ ?_
 ·intro h1; try simp only [tst_] at h1
  first
  | (exfalso; omega)
  |(skip
    refine GC.rg 1 ?_;refine GC.ret (Fin.b1 4 [] [] ?_)
    exact ⟨congrArg Value.bool (decide_eq_false fun e => by subst e; omega).symm, rfl, rfl⟩)
 intro h1; try simp only [tst_] at h1
 first
 | (exfalso; omega)
 |(skip
   refine GC.skip (?_ : GC _ _ _ _)
   refine GC.seq' ?_;refine GC.rg 1 ?_;refine GC.block ?_;refine GC.loopK1 (ks := [0, 1]) (is := []) (js := [0, 1]) (fun (k : Nat) => k ≤ a_.length ∧ ∀ j : Nat, j < k → gt a_ (j : Int) = gt b_ (j : Int)) (fun (k : Nat) => [(5, .int .i64 (k : Int))]) (fun (k : Nat) => []) (fun (k : Nat) => []) (fun (k : Nat) => a_.length - k) (0) rfl rfl rfl (fun a w h => ⟨⟨by omega, fun j hj => by omega⟩, h.cutK (is := []) (js := [0, 1]) (ks := [0, 1]) ⟨rfl, trivial⟩ rfl rfl rfl⟩) ?_
   intro k hk
   try dsimp only [List.cons_append, List.nil_append] at hk ⊢
   obtain ⟨hk, he⟩ := hk
   refine GC.seq' ?_;refine GC.rg 4 ?_;refine GC.co ?_ ?_
   ·intro h2; try simp only [tst_] at h2
    first
    | (exfalso; omega)
    |(skip
      refine GC.skip (?_ : GC _ _ _ _)
      refine GC.seq' ?_;refine GC.block ?_;refine GC.seq' ?_;refine GC.layQ (y := .tmp 5) (j := 0) rfl rfl (by omega) (gt_ok (by omega) (by omega)) (fun p_x19 r_x19 hA_x19 ok_x19 => ?_)
      rcases r_x19 with ⟨_, ⟨_, ⟨_, ⟨_, ⟨_, ⟨⟨_, ⟨_, ⟨_, ⟨⟨Ax19_0, cpx19_0⟩, ⟨Ax19_1, cpx19_1⟩⟩⟩⟩⟩, ⟨_, ⟨Ax19_2, cpx19_2⟩⟩⟩⟩⟩⟩⟩⟩
      refine GC.layQ (y := .tmp 5) (j := 5) rfl rfl (by omega) (gt_ok (by omega) (by omega)) (fun p_x23 r_x23 hA_x23 ok_x23 => ?_)
      rcases r_x23 with ⟨_, ⟨_, ⟨_, ⟨_, ⟨_, ⟨⟨_, ⟨_, ⟨_, ⟨⟨Ax23_0, cpx23_0⟩, ⟨Ax23_1, cpx23_1⟩⟩⟩⟩⟩, ⟨_, ⟨Ax23_2, cpx23_2⟩⟩⟩⟩⟩⟩⟩⟩
      refine GC.regionQ wide_ (by kernel_rfl) ?_;refine GQ.rn 2 ?_;refine GQ.step rfl (q_pure (p_indexL hA_x19 rfl rfl Tryz.underlying40 sz_64 (by omega) (by omega))) ?_;refine GQ.step rfl (q_mem (m_loadPN (i := 4) rfl rfl ag_64 (vs := [_, _, _, _, _, _, _, _, _, _, _, _]) sz_64 ⟨rfl, rfl, rfl, rfl, rfl, rfl, rfl, rfl, rfl, rfl, rfl, rfl, trivial⟩)) ?_
      refine GQ.rn 2 ?_;refine GQ.step rfl (q_pure (p_indexL hA_x23 rfl rfl Tryz.underlying40 sz_64 (by omega) (by omega))) ?_;refine GQ.step rfl (q_mem (m_loadPN (i := 0) rfl rfl ag_64 (vs := [_, _, _, _, _, _, _, _, _, _, _, _]) sz_64 ⟨rfl, rfl, rfl, rfl, rfl, rfl, rfl, rfl, rfl, rfl, rfl, rfl, trivial⟩)) ?_
      refine GQ.step rfl (q_call Tryz.call75 rfl (js := [5, 6, 7, 1, 2, 3]) rfl (by exact rsen_ct (gt a_ (k : Int)) (gt b_ (k : Int)) _ _ _ _ _ _ _ _ _ _ _ _ (by have := (hm _ (gt_elem (l := a_) (k := k) (by omega))).m; omega))) ?_
      refine GQ.rn 1 ?_
      refine GQ.nil (?_ : GC _ _ _ _)
      refine GC.co ?_ ?_
      ·intro h3; try simp only [tst_] at h3
       first
       | (exfalso; omega)
       |(skip
         refine GC.rg 1 ?_;refine GC.ret (Fin.b1 4 [] [] ?_)
         exact ⟨congrArg Value.bool (decide_eq_false (gt_ne (k := (k : Int)) (by assumption))).symm, rfl, rfl⟩)
      intro h3; try simp only [tst_] at h3
      first
      | (exfalso; omega)
      |(skip
        refine GC.skip (?_ : GC _ _ _ _)
        refine GC.region ?_;refine GL.rn 1 ?_;refine GL.pure rfl (p_add rfl rfl (w64 (by omega) (by omega))) ?_;refine GL.rn 1 ?_;refine GL.nil ?_
        exact fun a w h => ⟨(k + 1), (by omega), ⟨by omega, fun j hj => (Nat.lt_succ_iff_lt_or_eq.1 hj).elim (he j) (fun e => by subst e; assumption)⟩, h.ct [] [8, 9]⟩))
   intro h2; try simp only [tst_] at h2
   first
   | (exfalso; omega)
   |(skip
     refine GC.exit (?_ : GC _ _ _ _)
     refine GC.rg 1 ?_;refine GC.ret (Fin.b1 4 [] [] ?_)
     exact ⟨congrArg Value.bool (decide_eq_true (list_ext_gt (by omega) fun j hj => he j (by omega))).symm, rfl, rfl⟩))
theorem run_eqShape (w : World) (a b c d : Int) : (Op.equalIn 10000 35 (.agg #[.int .i64 a, .int .i64 b]) (.agg #[.int .i64 c, .int .i64 d])).run Tryz.prog w = .ok (decide (a = c) && decide (b = d)) w := by
  have h1 : Tryz.prog.fieldsOf 35 = (match Tryz.prog.underlying 35 with | some (.struct fs) => fs | _ => #[]) := rfl
  rw [run_equalIn_agg w 9999 _ _ _ (by rw [h1, Tryz.underlying35]) (by kernel_rfl), h1, Tryz.underlying35]
  have p1 : ∀ (l : List Value) (v : Value) (o : Nat) (w : World), nth l o = some v → (part 3 l.toArray o).run Tryz.prog w = .ok v w := fun l v o w h => part_one ag_3 h w
  have e0 : ∀ w, (part 3 #[.int .i64 a, .int .i64 b] 0).run Tryz.prog w = .ok (.int .i64 a) w := fun w => p1 [_, _] _ 0 w rfl
  have e1 : ∀ w, (part 3 #[.int .i64 a, .int .i64 b] 1).run Tryz.prog w = .ok (.int .i64 b) w := fun w => p1 [_, _] _ 1 w rfl
  have e2 : ∀ w, (part 3 #[.int .i64 c, .int .i64 d] 0).run Tryz.prog w = .ok (.int .i64 c) w := fun w => p1 [_, _] _ 0 w rfl
  have e3 : ∀ w, (part 3 #[.int .i64 c, .int .i64 d] 1).run Tryz.prog w = .ok (.int .i64 d) w := fun w => p1 [_, _] _ 1 w rfl
  have q : ∀ (x y : Int) (w : World), (Op.equalIn 9999 3 (.int .i64 x) (.int .i64 y)).run Tryz.prog w = .ok (x == y) w := fun x y w => run_equalIn_int w 9998 _ _ _ _ _ Tryz.underlying3
  simp only [Op.eqFields, Sem.run_bind, Sem.run_ite, e0, e1, e2, e3, q, Result.andThen_ok]
  by_cases h : a = c <;> by_cases h' : b = d <;> subst_vars <;> simp [Sem.run_ite, e0, e1, e2, e3, q, Result.andThen, *]
end Go.Proofs.YtdhdmbmknpjhbaaGreat
namespace Go.Proofs.YtdhdmbmknpjhbaaGreat
open Go Go.Sx Go.Proofs
section
variable {n : Nat} {env : List (Nat × Value)} {dst : Nat} {ty : TypeId} {pos : String} {aft : Array Edge} {g : Option (Nat × Bool)} {x y : Operand} {u : TypeId}
theorem p_shapeEql {a b c d : Int} (hx : ev env x = some (shpV a b)) (hy : ev env y = some (shpV c d)) : Pv Tryz.prog n env ⟨some dst, .binOp .eql 35 x y u, ty, pos, aft, g⟩ (.bool (decide (a = c) && decide (b = d))) := fun act w he => by
  simp only [execOp, he.eval hx, he.eval hy, run_eqGuard_agg w _ _ _ _ _ _ (show Tryz.prog.eqGuardType Tryz.prog.depth 35 = false by kernel_rfl), Sem.run_bind, Result.andThen_ok, run_eql_struct, run_eqShape, Sem.run_pure]
end
end Go.Proofs.YtdhdmbmknpjhbaaGreat
namespace Go.Proofs.YtdhdmbmknpjhbaaGreat
open Go Go.Sx Go.Proofs
theorem mstt_ct (s t : Stt) (A : Option Addr) (cp : Nat) (B : Option Addr) (cq : Nat) (C : Option Addr) (cr : Nat) (A' : Option Addr) (cp' : Nat) (B' : Option Addr) (cq' : Nat) (C' : Option Addr) (cr' : Nat) (h1_ : s.pages.length ≤ 140737488355328) (h2_ : s.rows.length ≤ 140737488355328) (h3_ : s.grp.members.length ≤ 140737488355328) : Ct Tryz.prog 38 [sttV s A cp B cq C cr, sttV t A' cp' B' cq' C' cr'] [] (sttQ s A B C ++ sttQ t A' B' C') (fun u G Q => u = .bool (decide (s = t)) ∧ G = [] ∧ Q = []) := by
 refine Ct.intro Tryz.func38 rfl rfl rfl (fun c hc => ?_)
 refine GC.sr_ ?_;refine GL.step rfl (t_box rfl rfl rfl) (GL.ex fun b_t2 => ?_);refine GL.step rfl (t_box rfl rfl rfl) (GL.ex fun b_t3 => ?_);refine GL.rz 1 ?_;refine GC.rr 1 ?_;refine GL.ld_ 1 ?_;refine GL.rn 1 ?_
 refine GL.ld_ 0 ?_;refine GL.cl Tryz.call69 [] [0, 3] rfl rfl rfl (by exact eqpg_ct _ s.pages _ _ t.pages _ (by first | assumption | omega)) ?_
 rintro _ _ _ ⟨rfl, rfl, rfl⟩
 refine GL.rz 1 ?_;refine GC.rr 2 ?_;refine GL.sp 12 ?_ ?_
 ·intro h1; try simp only [tst_, Bool.and_eq_true, Bool.and_eq_false_iff] at h1
  refine GL.rn 1 ?_;refine GL.dg_ 1 ?_;refine GL.rn 1 ?_;refine GL.dg_ 0 ?_;refine GL.rn 3 ?_;refine GL.sp 19 ?_ ?_
  ·intro h2; try simp only [tst_, Bool.and_eq_true, Bool.and_eq_false_iff] at h2
   refine GL.rn 1 ?_;refine GL.lg_ 1 2 ?_;refine GL.rn 1 ?_;refine GL.lg_ 0 2 ?_;refine GL.pureG (s := 19) rfl rfl rfl (p_shapeEql rfl rfl) ?_;refine GL.rn 2 ?_;refine GL.sp 26 ?_ ?_
   ·intro h3; try simp only [tst_, Bool.and_eq_true, Bool.and_eq_false_iff] at h3
    refine GL.rn 1 ?_;refine GL.dg_ 1 ?_;refine GL.rn 1 ?_;refine GL.dg_ 0 ?_;refine GL.stepG rfl (s := 26) rfl rfl (t_call rfl Tryz.call71 rfl (is := []) (js := [1, 4]) rfl rfl (by exact tsame_ct _ s.rows _ _ t.rows _ (by first | assumption | omega))) (GL.ret ?_)
    rintro _ _ _ ⟨rfl, rfl, rfl⟩
    refine GL.rn 2 ?_;refine GL.sp 33 ?_ ?_
    ·intro h4; try simp only [tst_, Bool.and_eq_true, Bool.and_eq_false_iff] at h4
     refine GL.rn 1 ?_;refine GL.lg_ 1 2 ?_;refine GL.rn 1 ?_;refine GL.lg_ 0 2 ?_;refine GL.stepG rfl (s := 33) rfl rfl (t_call rfl Tryz.call72 rfl (is := []) (js := [2, 5]) rfl rfl (by exact msgr_ct s.grp t.grp _ _ _ _ (by first | assumption | omega))) (GL.ret ?_)
     rintro _ _ _ ⟨rfl, rfl, rfl⟩
     refine GL.rz 2 ?_;refine GC.ret (Fin.b1 4 [] [] ?_)
     refine ⟨congrArg Value.bool ?_, rfl, rfl⟩
     simp [st_ext, sh_ext, *]
     (try (intros; simp_all))
    intro h4; try simp only [tst_, Bool.and_eq_true, Bool.and_eq_false_iff] at h4
    refine GL.rz 7 ?_;refine GC.ret (Fin.b1 4 [] [] ?_)
    refine ⟨congrArg Value.bool ?_, rfl, rfl⟩
    simp [st_ext, sh_ext, *]
    (try (intros; simp_all))
   intro h3; try simp only [tst_, Bool.and_eq_true, Bool.and_eq_false_iff] at h3
   refine GL.rz 14 ?_;refine GC.ret (Fin.b1 4 [] [] ?_)
   refine ⟨congrArg Value.bool ?_, rfl, rfl⟩
   simp [st_ext, sh_ext, *]
   (try (intros; simp_all))
  intro h2; try simp only [tst_, Bool.and_eq_true, Bool.and_eq_false_iff] at h2
  refine GL.rz 21 ?_;refine GC.ret (Fin.b1 4 [] [] ?_)
  refine ⟨congrArg Value.bool ?_, rfl, rfl⟩
  simp [st_ext, sh_ext, *]
  (try (intros; simp_all))
 intro h1; try simp only [tst_, Bool.and_eq_true, Bool.and_eq_false_iff] at h1
 refine GL.rz 28 ?_;refine GC.ret (Fin.b1 4 [] [] ?_)
 refine ⟨congrArg Value.bool ?_, rfl, rfl⟩
 simp [st_ext, sh_ext, *]
 (try (intros; simp_all))
theorem rstt_ct (s t : Stt) (A : Option Addr) (cp : Nat) (B : Option Addr) (cq : Nat) (C : Option Addr) (cr : Nat) (A' : Option Addr) (cp' : Nat) (B' : Option Addr) (cq' : Nat) (C' : Option Addr) (cr' : Nat) (h1_ : s.pages.length ≤ 140737488355328) (h2_ : s.rows.length ≤ 140737488355328) (h3_ : s.grp.members.length ≤ 140737488355328) : Ct Tryz.prog 43 [sttV s A cp B cq C cr, sttV t A' cp' B' cq' C' cr'] [] (sttQ s A B C ++ sttQ t A' B' C') (fun u G Q => u = .bool (decide (s = t)) ∧ G = [] ∧ Q = []) := by
 refine Ct.intro Tryz.func43 rfl rfl rfl (fun c hc => ?_)
 refine GC.sr_ ?_;refine GL.step rfl (t_box rfl rfl rfl) (GL.ex fun b_t2 => ?_);refine GL.step rfl (t_box rfl rfl rfl) (GL.ex fun b_t3 => ?_);refine GL.rz 1 ?_;refine GC.rr 1 ?_;refine GL.ld_ 1 ?_;refine GL.rn 1 ?_
 refine GL.ld_ 0 ?_;refine GL.rn 2 ?_;refine GL.sp 10 ?_ ?_
 ·intro h1; try simp only [tst_, Bool.and_eq_true, Bool.and_eq_false_iff] at h1
  refine GL.rn 1 ?_;refine GL.lg_ 1 2 ?_;refine GL.rn 1 ?_;refine GL.lg_ 0 2 ?_;refine GL.pureG (s := 10) rfl rfl rfl (p_shapeEql rfl rfl) ?_;refine GL.rn 2 ?_;refine GL.sp 17 ?_ ?_
  ·intro h2; try simp only [tst_, Bool.and_eq_true, Bool.and_eq_false_iff] at h2
   refine GL.rn 1 ?_;refine GL.dg_ 1 ?_;refine GL.rn 1 ?_;refine GL.dg_ 0 ?_;refine GL.stepG rfl (s := 17) rfl rfl (t_call rfl Tryz.call73 rfl (is := []) (js := [0, 3]) rfl rfl (by exact rpgs_ct _ s.pages _ _ t.pages _ (by first | assumption | omega))) (GL.ret ?_)
   rintro _ _ _ ⟨rfl, rfl, rfl⟩
   refine GL.rn 2 ?_;refine GL.sp 24 ?_ ?_
   ·intro h3; try simp only [tst_, Bool.and_eq_true, Bool.and_eq_false_iff] at h3
    refine GL.rn 1 ?_;refine GL.dg_ 1 ?_;refine GL.rn 1 ?_;refine GL.dg_ 0 ?_;refine GL.stepG rfl (s := 24) rfl rfl (t_call rfl Tryz.call74 rfl (is := []) (js := [1, 4]) rfl rfl (by exact rsame_ct _ s.rows _ _ t.rows _ (by first | assumption | omega))) (GL.ret ?_)
    rintro _ _ _ ⟨rfl, rfl, rfl⟩
    refine GL.rn 2 ?_;refine GL.sp 31 ?_ ?_
    ·intro h4; try simp only [tst_, Bool.and_eq_true, Bool.and_eq_false_iff] at h4
     refine GL.rn 1 ?_;refine GL.lg_ 1 2 ?_;refine GL.rn 1 ?_;refine GL.lg_ 0 2 ?_;refine GL.stepG rfl (s := 31) rfl rfl (t_call rfl Tryz.call42 rfl (is := []) (js := [2, 5]) rfl rfl (by exact rgsg_ct s.grp t.grp _ _ _ _ (by first | assumption | omega))) (GL.ret ?_)
     rintro _ _ _ ⟨rfl, rfl, rfl⟩
     refine GL.rz 2 ?_;refine GC.ret (Fin.b1 4 [] [] ?_)
     refine ⟨congrArg Value.bool ?_, rfl, rfl⟩
     simp [st_ext, sh_ext, *]
     (try (intros; simp_all))
    intro h4; try simp only [tst_, Bool.and_eq_true, Bool.and_eq_false_iff] at h4
    refine GL.rz 7 ?_;refine GC.ret (Fin.b1 4 [] [] ?_)
    refine ⟨congrArg Value.bool ?_, rfl, rfl⟩
    simp [st_ext, sh_ext, *]
    (try (intros; simp_all))
   intro h3; try simp only [tst_, Bool.and_eq_true, Bool.and_eq_false_iff] at h3
   refine GL.rz 14 ?_;refine GC.ret (Fin.b1 4 [] [] ?_)
   refine ⟨congrArg Value.bool ?_, rfl, rfl⟩
   simp [st_ext, sh_ext, *]
   (try (intros; simp_all))
  intro h2; try simp only [tst_, Bool.and_eq_true, Bool.and_eq_false_iff] at h2
  refine GL.rz 21 ?_;refine GC.ret (Fin.b1 4 [] [] ?_)
  refine ⟨congrArg Value.bool ?_, rfl, rfl⟩
  simp [st_ext, sh_ext, *]
  (try (intros; simp_all))
 intro h1; try simp only [tst_, Bool.and_eq_true, Bool.and_eq_false_iff] at h1
 refine GL.rz 28 ?_;refine GC.ret (Fin.b1 4 [] [] ?_)
 refine ⟨congrArg Value.bool ?_, rfl, rfl⟩
 simp [st_ext, sh_ext, *]
 (try (intros; simp_all))
theorem mzst_ct (s : Stt) (A : Option Addr) (cp : Nat) (B : Option Addr) (cq : Nat) (C : Option Addr) (cr : Nat) (h1_ : s.pages.length ≤ 140737488355328) (h2_ : s.rows.length ≤ 140737488355328) (h3_ : s.grp.members.length ≤ 140737488355328) : Ct Tryz.prog 38 [sttV s A cp B cq C cr, .agg #[.int .i64 0, .int .i64 0, .int .i64 0, .slice none 0 0, .slice none 0 0, .int .i64 0, .slice none 0 0]] [] (sttQ s A B C) (fun u G Q => u = .bool (decide (s = zst)) ∧ G = [] ∧ Q = []) :=
  Ct.qperm (mstt_ct s zst A cp B cq C cr none 0 none 0 none 0 h1_ h2_ h3_) (by intro q hq; simp only [List.mem_cons, List.mem_append, List.not_mem_nil, or_false] at hq ⊢; rcases hq with (rfl | rfl | rfl) | rfl | rfl | rfl <;> first | exact .inr (fun _ _ => .inl rfl) | simp)
theorem rzst_ct (s : Stt) (A : Option Addr) (cp : Nat) (B : Option Addr) (cq : Nat) (C : Option Addr) (cr : Nat) (h1_ : s.pages.length ≤ 140737488355328) (h2_ : s.rows.length ≤ 140737488355328) (h3_ : s.grp.members.length ≤ 140737488355328) : Ct Tryz.prog 43 [sttV s A cp B cq C cr, .agg #[.int .i64 0, .int .i64 0, .int .i64 0, .slice none 0 0, .slice none 0 0, .int .i64 0, .slice none 0 0]] [] (sttQ s A B C) (fun u G Q => u = .bool (decide (s = zst)) ∧ G = [] ∧ Q = []) :=
  Ct.qperm (rstt_ct s zst A cp B cq C cr none 0 none 0 none 0 h1_ h2_ h3_) (by intro q hq; simp only [List.mem_cons, List.mem_append, List.not_mem_nil, or_false] at hq ⊢; rcases hq with (rfl | rfl | rfl) | rfl | rfl | rfl <;> first | exact .inr (fun _ _ => .inl rfl) | simp)
end Go.Proofs.YtdhdmbmknpjhbaaGreat
namespace Go.Sx
open Go
section
variable {P : Program} {c : Cx} {n : Nat} {env env' envK E : List (Nat × Value)} {G G' Gr GK : List Own} {Q Q' QK : List Pers} {a : Act} {w : World}
variable {α β γ δ : Type} {x z : Code} {R : Exit → Asr} {ks is js : List Nat}
theorem GC.joinK1 (φ : α → Prop) (F : α → List (Nat × Value)) (GF : α → List Own) (QF : α → List Pers) (hK : kept env ks = some envK) (hG : pickQ G is = some GK) (hQ : pickQ Q js = some QK)
    (hx : GC P (Exit.then (fun a w => ∃ y, φ y ∧ St c n (F y ++ envK) (GF y ++ GK) (QF y ++ QK) a w) R) x (St c n env G Q))
    (hz : ∀ y, φ y → GC P R z (St c n (F y ++ envK) (GF y ++ GK) (QF y ++ QK))) : GC P R (.seq x z) (St c n env G Q) :=
  GC.seq hx fun a w ⟨y, hp, h⟩ => hz y hp a w h
theorem GC.joinK2 (φ : α → β → Prop) (F : α → β → List (Nat × Value)) (GF : α → β → List Own) (QF : α → β → List Pers) (hK : kept env ks = some envK) (hG : pickQ G is = some GK) (hQ : pickQ Q js = some QK)
    (hx : GC P (Exit.then (fun a w => ∃ y1 y2, φ y1 y2 ∧ St c n (F y1 y2 ++ envK) (GF y1 y2 ++ GK) (QF y1 y2 ++ QK) a w) R) x (St c n env G Q))
    (hz : ∀ y1 y2, φ y1 y2 → GC P R z (St c n (F y1 y2 ++ envK) (GF y1 y2 ++ GK) (QF y1 y2 ++ QK))) : GC P R (.seq x z) (St c n env G Q) :=
  GC.seq hx fun a w ⟨y1, y2, hp, h⟩ => hz y1 y2 hp a w h
theorem GC.joinK3 (φ : α → β → γ → Prop) (F : α → β → γ → List (Nat × Value)) (GF : α → β → γ → List Own) (QF : α → β → γ → List Pers) (hK : kept env ks = some envK) (hG : pickQ G is = some GK) (hQ : pickQ Q js = some QK)
    (hx : GC P (Exit.then (fun a w => ∃ y1 y2 y3, φ y1 y2 y3 ∧ St c n (F y1 y2 y3 ++ envK) (GF y1 y2 y3 ++ GK) (QF y1 y2 y3 ++ QK) a w) R) x (St c n env G Q))
    (hz : ∀ y1 y2 y3, φ y1 y2 y3 → GC P R z (St c n (F y1 y2 y3 ++ envK) (GF y1 y2 y3 ++ GK) (QF y1 y2 y3 ++ QK))) : GC P R (.seq x z) (St c n env G Q) :=
  GC.seq hx fun a w ⟨y1, y2, y3, hp, h⟩ => hz y1 y2 y3 hp a w h
theorem GC.joinK4 (φ : α → β → γ → δ → Prop) (F : α → β → γ → δ → List (Nat × Value)) (GF : α → β → γ → δ → List Own) (QF : α → β → γ → δ → List Pers) (hK : kept env ks = some envK) (hG : pickQ G is = some GK) (hQ : pickQ Q js = some QK)
    (hx : GC P (Exit.then (fun a w => ∃ y1 y2 y3 y4, φ y1 y2 y3 y4 ∧ St c n (F y1 y2 y3 y4 ++ envK) (GF y1 y2 y3 y4 ++ GK) (QF y1 y2 y3 y4 ++ QK) a w) R) x (St c n env G Q))
    (hz : ∀ y1 y2 y3 y4, φ y1 y2 y3 y4 → GC P R z (St c n (F y1 y2 y3 y4 ++ envK) (GF y1 y2 y3 y4 ++ GK) (QF y1 y2 y3 y4 ++ QK))) : GC P R (.seq x z) (St c n env G Q) :=
  GC.seq hx fun a w ⟨y1, y2, y3, y4, hp, h⟩ => hz y1 y2 y3 y4 hp a w h
theorem St.reval {i : Nat} {v v' : Value} (h : St c n env G Q a w) (hi : look env i = some v) (hv : v = v') : St c n ((i, v') :: env) G Q a w := by
  obtain ⟨S, he, hh, hr⟩ := h
  subst hv
  exact ⟨S, he.over hi, hh, hr⟩
theorem GL.reval {ops : Array Oper} {rest : List Oper} (i : Nat) {v v' : Value} (hi : look env i = some v) (hv : v = v') (k : GL P ops R rest (St c n ((i, v') :: env) G Q)) : GL P ops R rest (St c n env G Q) := GL.imp (fun a w h => h.reval hi hv) k
end
end Go.Sx
