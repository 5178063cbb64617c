/- Texts of this claim, in one: what the law leans on (part 2). -/
import Derived.Test.YtdhdmbmknpjhbaaGreatR1
set_option linter.unusedVariables false
set_option linter.unusedSimpArgs false
set_option maxRecDepth 100000
namespace Go.Proofs.YtdhdmbmknpjhbaaGreat
open Go Go.Sx Go.Proofs
theorem at_ct (p pb pv : Nat) (v : Vol) (i n : Int) (hv : VolOk v) (h0 : 0 ≤ i) (h1 : 1 ≤ n) (h2 : i + n ≤ v.bl) : Ct Tryz.prog 175 [.pointer (some ⟨p, 0, none⟩), .int .i64 i, .int .i64 n] (volG p pb pv v) []
    (fun u G Q => u = .slice (some ⟨pb, (i * v.sz).toNat, none⟩) (seg v.b (i * v.sz).toNat ((i + n) * v.sz).toNat).length (((i + n) * v.sz).toNat - (i * v.sz).toNat) ∧ G = volG p pb pv v ∧ Q = []) := by
 have hb := atB hv.shp h0 h1 h2
 have hs := hv.shp
 have hl := hv.lb
 simp only [shapeOk] at hs
 refine Ct.intro Tryz.func175 rfl rfl rfl (fun c hc => ?_)
 refine GC.sr_ ?_; refine GL.as_ rfl rfl ?_; refine GL.nl_ ?_; refine GC.seq' ?_; refine GC.regionQ wide_ (by kernel_rfl) ?_
 iterate 2 refine GQ.step rfl (q_pure (p_move rfl)) ?_
 refine GQ.step rfl (q_pure (p_nilCheck rfl)) ?_; refine GQ.step rfl (q_pure (p_fieldAddr fo_217_0 rfl)) ?_; refine GQ.step rfl (q_pure (p_fieldAddr fo_35_1 rfl)) ?_; refine GQ.step rfl (q_mem (m_load (i := 0) rfl rfl ag_3 rfl)) ?_
 refine GQ.step rfl (q_pure (p_mul rfl rfl (w64 (by omega) (by omega)))) ?_
 iterate 2 refine GQ.step rfl (q_pure (p_move rfl)) ?_
 refine GQ.step rfl (q_pure (p_add rfl rfl (w64 (by omega) (by omega)))) ?_; refine GQ.step rfl (q_pure (p_move rfl)) ?_; refine GQ.step rfl (q_pure (p_nilCheck rfl)) ?_; refine GQ.step rfl (q_pure (p_fieldAddr fo_217_0 rfl)) ?_
 refine GQ.step rfl (q_pure (p_fieldAddr fo_35_1 rfl)) ?_; refine GQ.step rfl (q_mem (m_load (i := 0) rfl rfl ag_3 rfl)) ?_; refine GQ.step rfl (q_pure (p_mul rfl rfl (w64 (by omega) (by omega)))) ?_
 iterate 2 refine GQ.step rfl (q_pure (p_assign rfl)) ?_
 refine GQ.nil (?_ : GC _ _ _ _)
 refine GC.sr_ ?_; refine GL.mv_ rfl rfl ?_; refine GL.pure rfl (p_nilCheck rfl) ?_; refine GL.pure rfl (p_fieldAddr fo_217_1 rfl) ?_; refine GL.step rfl (t_mem rfl (m_load (i := 0) rfl rfl ag_25 rfl)) ?_
 iterate 3 refine GL.mv_ rfl rfl ?_
 refine GL.pure rfl (p_cut_lhm rfl rfl rfl rfl Tryz.underlying25 sz_5 (by omega) (by omega) (by omega) (by omega) (seg_length (xs := v.b) (by omega)).symm rfl (slA_blk (by omega))) ?_; refine GL.as_ rfl rfl ?_; refine GL.nl_ ?_
 refine GC.ret ?_
 refine fun a w h => Fin.back (rs := [.tmp 6]) (vs := [_]) (is := [0, 0, 0]) (js := []) rfl ⟨rfl, trivial⟩ rfl rfl ?_ h
 clear h
 exact ⟨by rw [Nat.zero_add, Nat.mul_one]; rfl, rfl, rfl⟩
theorem stamp_ct (p pb pv : Nat) (v : Vol) (i n num : Int) (hv : VolOk v) (h0 : 0 ≤ i) (h1 : 1 ≤ n) (h2 : i + n ≤ v.bl) : Ct Tryz.prog 176 [.pointer (some ⟨p, 0, none⟩), .int .i64 i, .int .i64 n, .int .i64 num] (volG p pb pv v) []
    (fun u G Q => u = .tuple #[] ∧ G = volG p pb pv { v with vs := laid v.vs i.toNat (List.replicate n.toNat num) } ∧ Q = []) := by
 have hs := hv.shp
 have hl := hv.lv
 simp only [shapeOk] at hs
 refine Ct.intro Tryz.func176 rfl rfl rfl (fun c hc => ?_)
 refine GC.sr_ ?_
 iterate 2 refine GL.mv_ rfl rfl ?_
 refine GL.nl_ ?_; refine GC.block ?_; refine GC.imp (fun a w h => (⟨by simp; omega, by rw [List.replicate_zero, laid_nil]; exact h.cut (is := [0, 0, 0]) (js := []) ⟨rfl, rfl, rfl, rfl, rfl, trivial⟩ rfl rfl⟩ : (fun (k : Nat) (a : Act) (w : World) => (k : Int) ≤ n ∧ St c 23 [(0, .pointer (some ⟨p, 0, none⟩)), (1, .int .i64 i), (3, .int .i64 num), (9, .int .i64 n), (10, .int .i64 (k : Int))] [.cells p [.int .i64 v.bl, .int .i64 v.sz, .slice (some ⟨pb, 0, none⟩) (v.bl * v.sz).toNat (v.bl * v.sz).toNat, .slice (some ⟨pv, 0, none⟩) v.bl.toNat v.bl.toNat, .int .i64 v.last] 217, .cells pb (v.b.map u8v) 5, .cells pv ((laid v.vs i.toNat (List.replicate k num)).map (Value.int .i64)) 3] [] a w) 0 a w)) (GC.loop (fun (k : Nat) (a : Act) (w : World) => (k : Int) ≤ n ∧ St c 23 [(0, .pointer (some ⟨p, 0, none⟩)), (1, .int .i64 i), (3, .int .i64 num), (9, .int .i64 n), (10, .int .i64 (k : Int))] [.cells p [.int .i64 v.bl, .int .i64 v.sz, .slice (some ⟨pb, 0, none⟩) (v.bl * v.sz).toNat (v.bl * v.sz).toNat, .slice (some ⟨pv, 0, none⟩) v.bl.toNat v.bl.toNat, .int .i64 v.last] 217, .cells pb (v.b.map u8v) 5, .cells pv ((laid v.vs i.toNat (List.replicate k num)).map (Value.int .i64)) 3] [] a w) (fun k => n.toNat - k) 0 ?_)
 intro k
 refine GC.and fun hk => ?_; refine GC.sr_ ?_; refine GL.pure rfl (p_lss rfl rfl) ?_; refine GL.nl_ ?_; refine GC.seq' ?_; refine GC.cond rfl (fun h1 => ?_) (fun h1 => ?_)
 ·try simp only [tst_] at h1
  refine GC.skip (?_ : GC _ _ _ _)
  refine GC.seq' ?_; refine GC.block ?_; refine GC.sr_ ?_; refine GL.mv_ rfl rfl ?_; refine GL.as_ rfl rfl ?_; refine GL.nl_ ?_; refine GC.region ?_; refine GL.mv_ rfl rfl ?_; refine GL.pure rfl (p_nilCheck rfl) ?_; refine GL.pure rfl (p_fieldAddr fo_217_2 rfl) ?_
  refine GL.step rfl (t_mem rfl (m_load (i := 0) rfl rfl ag_31 rfl)) ?_
  iterate 2 refine GL.mv_ rfl rfl ?_
  refine GL.pure rfl (p_add rfl rfl (w64 (by (first | omega | (rw [laid_length (by simp; omega)]; omega))) (by (first | omega | (rw [laid_length (by simp; omega)]; omega))))) ?_; refine GL.mv_ rfl rfl ?_; refine GL.pure rfl (p_indexB rfl rfl Tryz.underlying31 sz_3 (by (first | omega | (rw [laid_length (by simp; omega)]; omega))) (by (first | omega | (rw [laid_length (by simp; omega)]; omega)))) ?_
  refine GL.step rfl (t_store (i := 2) rfl rfl rfl rfl sz_3 rfl (upd_map _ (by (first | omega | (rw [laid_length (by simp; omega)]; omega))) (by (first | omega | (rw [laid_length (by simp; omega)]; omega)))) rfl) ?_
  refine GL.nil (?_ : GC _ _ _ _)
  refine GC.region ?_; refine GL.pure rfl (p_add rfl rfl (w64 (by (first | omega | (rw [laid_length (by simp; omega)]; omega))) (by (first | omega | (rw [laid_length (by simp; omega)]; omega))))) ?_
  refine GL.mv_ rfl rfl ?_; refine GL.nil ?_
  exact fun a w h => ⟨(k + 1), (by omega), (by omega), by rw [← laid_step (by omega), show i.toNat + k = (i + (k : Int)).toNat by omega]; exact h.cut (is := [0, 0, 0]) (js := []) ⟨rfl, rfl, rfl, rfl, rfl, trivial⟩ rfl rfl⟩
 ·try simp only [tst_] at h1
  refine GC.exit ?_
  refine fun a w h => Fin.back0 rfl (is := [0, 0, 0]) (js := []) rfl rfl ?_ h
  clear h
  obtain rfl : n.toNat = k := by omega
  exact ⟨rfl, rfl, rfl⟩
end Go.Proofs.YtdhdmbmknpjhbaaGreat
namespace Go.Proofs.YtdhdmbmknpjhbaaGreat
open Go Go.Sx Go.Proofs
theorem new_bad (bl sz : Int) (h : ¬ shapeOk bl sz) : Ct Tryz.prog 162 [shpV bl sz] [] [] (fun v G Q => v = .tuple #[.pointer none, .int .i64 40] ∧ G = [] ∧ Q = []) := by
 have he : shapeE bl sz = 40 := by simp [shapeE, h]
 refine Ct.intro Tryz.func162 rfl rfl rfl (fun c hc => ?_)
 refine GC.sr_ ?_; refine GL.step rfl (t_box rfl rfl rfl) (GL.ex fun b_t1 => ?_)
 iterate 2 refine GL.as_ rfl rfl ?_
 refine GL.nl_ ?_; refine GC.seq' ?_; refine GC.sr_ ?_; refine GL.step rfl (t_mem rfl (m_loadN (i := 0) rfl rfl ag_35 (vs := [_, _]) sz_35 ⟨rfl, rfl, trivial⟩)) ?_; refine GL.step rfl (t_call rfl fn_172 rfl (is := []) (js := []) rfl rfl (by exact shape_eq _ _ _ he)) (GL.ret ?_)
 rintro _ _ _ ⟨rfl, rfl, rfl⟩
 refine GL.as_ rfl rfl ?_; refine GL.nl_ ?_; refine GC.sr_ ?_; refine GL.mv_ rfl rfl ?_; refine GL.pure rfl (p_neq rfl rfl) ?_; refine GL.nl_ ?_; refine GC.cond_true rfl ?_; refine GC.sr_ ?_; refine GL.mv_ rfl rfl ?_
 iterate 2 refine GL.as_ rfl rfl ?_
 refine GL.nl_ ?_; refine GC.ret ?_
 refine fun a w h => Fin.back (rs := [.tmp 2, .tmp 3]) (vs := [_, _]) (is := []) (js := []) rfl ⟨rfl, rfl, trivial⟩ rfl rfl ?_ h
 clear h
 exact ⟨rfl, rfl, rfl⟩
theorem new_ok (bl sz : Int) (h : shapeOk bl sz) : Ct Tryz.prog 162 [shpV bl sz] [] [] (fun v G Q => ∃ p pb pv, v = .tuple #[.pointer (some ⟨p, 0, none⟩), .int .i64 0] ∧ G = volG p pb pv (newV bl sz) ∧ Q = []) := by
 have he : shapeE bl sz = 0 := by simp [shapeE, h]
 have hm := mulS h
 have hs := h
 simp only [shapeOk] at hs
 refine Ct.intro Tryz.func162 rfl rfl rfl (fun c hc => ?_)
 refine GC.sr_ ?_; refine GL.step rfl (t_box rfl rfl rfl) (GL.ex fun b_t1 => ?_)
 iterate 2 refine GL.as_ rfl rfl ?_
 refine GL.nl_ ?_; refine GC.seq' ?_; refine GC.sr_ ?_; refine GL.step rfl (t_mem rfl (m_loadN (i := 0) rfl rfl ag_35 (vs := [_, _]) sz_35 ⟨rfl, rfl, trivial⟩)) ?_; refine GL.step rfl (t_call rfl fn_172 rfl (is := []) (js := []) rfl rfl (by exact shape_eq _ _ _ he)) (GL.ret ?_)
 rintro _ _ _ ⟨rfl, rfl, rfl⟩
 refine GL.as_ rfl rfl ?_; refine GL.nl_ ?_; refine GC.sr_ ?_; refine GL.mv_ rfl rfl ?_; refine GL.pure rfl (p_neq rfl rfl) ?_; refine GL.nl_ ?_; refine GC.cond_false rfl ?_
 refine GC.skip (?_ : GC _ _ _ _)
 refine GC.seq' ?_; refine GC.regionM (m := 14) (M := fun a w => ∃ p : Nat, ∃ pb : Nat, ∃ pv : Nat, St c 22 [(2, .pointer (some ⟨p, 0, none⟩)), (3, .int .i64 0)] [.cells p [.int .i64 bl, .int .i64 sz, .slice (some ⟨pb, 0, none⟩) (bl * sz).toNat (bl * sz).toNat, .slice (some ⟨pv, 0, none⟩) bl.toNat bl.toNat, .int .i64 0] 217, .cells pb ((List.replicate (bl * sz).toNat 0).map u8v) 5, .cells pv ((List.replicate bl.toNat 0).map (Value.int .i64)) 3] [] a w) (is := [0]) (js := []) wide_ rfl rfl rfl ?_ ?_
 ·refine GA.take 0 rfl (by kernel_rfl) (by kernel_rfl) (by kernel_rfl) rfl (fun a w h => h.mem (is := [0]) (js := []) rfl rfl) (i_mem (m_loadN (i := 0) rfl rfl ag_35 (vs := [_, _]) sz_35 ⟨rfl, rfl, trivial⟩)) ?_; refine GA.take 1 rfl (by kernel_rfl) (by kernel_rfl) (by kernel_rfl) rfl (fun a w h => h.mem (is := [0]) (js := []) rfl rfl) (i_pure (p_fieldAddr fo_35_0 rfl)) ?_
  refine GA.take 2 rfl (by kernel_rfl) (by kernel_rfl) (by kernel_rfl) rfl (fun a w h => h.mem (is := [0]) (js := []) rfl rfl) (i_mem (m_load (i := 0) rfl rfl ag_3 rfl)) ?_; refine GA.take 3 rfl (by kernel_rfl) (by kernel_rfl) (by kernel_rfl) rfl (fun a w h => h.mem (is := [0]) (js := []) rfl rfl) (i_pure (p_fieldAddr fo_35_1 rfl)) ?_
  refine GA.take 4 rfl (by kernel_rfl) (by kernel_rfl) (by kernel_rfl) rfl (fun a w h => h.mem (is := [0]) (js := []) rfl rfl) (i_mem (m_load (i := 0) rfl rfl ag_3 rfl)) ?_; refine GA.take 5 rfl (by kernel_rfl) (by kernel_rfl) (by kernel_rfl) rfl (fun a w h => h.mem (is := [0]) (js := []) rfl rfl) (i_pure (p_mul rfl rfl (w64 (by omega) (by omega)))) ?_
  refine GA.take 7 rfl (by kernel_rfl) (by kernel_rfl) (by kernel_rfl) rfl (fun a w h => h.mem (is := [0]) (js := []) rfl rfl) (i_pure (p_fieldAddr fo_35_0 rfl)) ?_; refine GA.take 8 rfl (by kernel_rfl) (by kernel_rfl) (by kernel_rfl) rfl (fun a w h => h.mem (is := [0]) (js := []) rfl rfl) (i_mem (m_load (i := 0) rfl rfl ag_3 rfl)) ?_
  refine GA.all (rs := [6, 9]) (by kernel_rfl) (by simp) ?_
  refine GAs.cons (i := 6) rfl rfl (t_make rfl el_25 rfl rfl (by omega) (by omega)) (by rintro a w ⟨_, h⟩; exact h.mem (is := [1]) (js := []) rfl rfl) (GA.ex fun b_t16 => ?_) ?_
  ·rw [reps_u8]
   refine GA.all (rs := [9]) (by kernel_rfl) (by simp) ?_
   refine GAs.cons (i := 9) rfl rfl (t_make rfl el_31 rfl rfl (by omega) (by omega)) (by rintro a w ⟨_, h⟩; exact h.mem (is := [2]) (js := []) rfl rfl) (GA.ex fun b_t19 => ?_) ?_
   ·rw [reps_i64]
    refine GA.take 10 rfl (by kernel_rfl) (by kernel_rfl) (by kernel_rfl) rfl (fun a w h => h.mem (is := [2]) (js := []) rfl rfl) (i_pure (p_build ze_217 of_217 rfl rfl)) ?_; refine GA.all (rs := [11]) (by kernel_rfl) (by simp) ?_
    refine GAs.cons (i := 11) rfl rfl (t_box rfl rfl rfl) (by rintro a w ⟨_, h⟩; exact h.mem (is := [3]) (js := []) rfl rfl) (GA.ex fun b_t21 => ?_) ?_
    ·refine GA.take 12 rfl (by kernel_rfl) (by kernel_rfl) (by kernel_rfl) rfl (fun a w h => h.mem (is := [3]) (js := []) rfl rfl) (i_pure (p_assign rfl)) ?_; refine GA.take 13 rfl (by kernel_rfl) (by kernel_rfl) (by kernel_rfl) rfl (fun a w h => h.mem (is := [3]) (js := []) rfl rfl) (i_pure (p_assign rfl)) ?_
     exact GA.done (by kernel_rfl) (fun a w h => ⟨b_t21, b_t16, b_t19, h.cut (is := [0, 1, 0]) (js := []) ⟨rfl, rfl, trivial⟩ rfl rfl⟩)
    exact GAs.nil
   exact GAs.nil
  refine GAs.cons (i := 9) rfl rfl (t_make rfl el_31 rfl rfl (by omega) (by omega)) (by rintro a w ⟨_, h⟩; exact h.mem (is := [1]) (js := []) rfl rfl) (GA.ex fun b_t19 => ?_) ?_
  ·rw [reps_i64]
   refine GA.all (rs := [6]) (by kernel_rfl) (by simp) ?_
   refine GAs.cons (i := 6) rfl rfl (t_make rfl el_25 rfl rfl (by omega) (by omega)) (by rintro a w ⟨_, h⟩; exact h.mem (is := [2]) (js := []) rfl rfl) (GA.ex fun b_t16 => ?_) ?_
   ·rw [reps_u8]
    refine GA.take 10 rfl (by kernel_rfl) (by kernel_rfl) (by kernel_rfl) rfl (fun a w h => h.mem (is := [2]) (js := []) rfl rfl) (i_pure (p_build ze_217 of_217 rfl rfl)) ?_; refine GA.all (rs := [11]) (by kernel_rfl) (by simp) ?_
    refine GAs.cons (i := 11) rfl rfl (t_box rfl rfl rfl) (by rintro a w ⟨_, h⟩; exact h.mem (is := [3]) (js := []) rfl rfl) (GA.ex fun b_t21 => ?_) ?_
    ·refine GA.take 12 rfl (by kernel_rfl) (by kernel_rfl) (by kernel_rfl) rfl (fun a w h => h.mem (is := [3]) (js := []) rfl rfl) (i_pure (p_assign rfl)) ?_; refine GA.take 13 rfl (by kernel_rfl) (by kernel_rfl) (by kernel_rfl) rfl (fun a w h => h.mem (is := [3]) (js := []) rfl rfl) (i_pure (p_assign rfl)) ?_
     exact GA.done (by kernel_rfl) (fun a w h => ⟨b_t21, b_t16, b_t19, h.cut (is := [0, 0, 0]) (js := []) ⟨rfl, rfl, trivial⟩ rfl rfl⟩)
    exact GAs.nil
   exact GAs.nil
  exact GAs.nil
 ·refine (?_ : GC _ _ _ _)
  refine GC.ex fun p => GC.ex fun pb => GC.ex fun pv => ?_; refine GC.ret ?_
  refine fun a w h => Fin.back (rs := [.tmp 2, .tmp 3]) (vs := [_, _]) (is := [0, 0, 0]) (js := []) rfl ⟨rfl, rfl, trivial⟩ rfl rfl ?_ h
  clear h
  exact ⟨p, pb, pv, rfl, rfl, rfl⟩
end Go.Proofs.YtdhdmbmknpjhbaaGreat
namespace Go.Proofs.YtdhdmbmknpjhbaaGreat
open Go Go.Sx Go.Proofs
theorem VolOk.last' {v : Vol} (h : VolOk v) {num : Int} (h0 : 0 ≤ num) (h1 : num ≤ 4611686018427387904) : VolOk { v with last := num } := ⟨h.shp, h.lb, h.lv, h.ver, h0, h1⟩
theorem VolOk.setb {v : Vol} (h : VolOk v) {o : Nat} {ys : List UInt8} (hf : o + ys.length ≤ v.b.length) : VolOk { v with b := laid v.b o ys } := ⟨h.shp, by rw [laid_length hf]; exact h.lb, h.lv, h.ver, h.last⟩
theorem mem_laid {α : Type} {xs ys : List α} {o : Nat} {x : α} (h : x ∈ laid xs o ys) : x ∈ xs ∨ x ∈ ys := by
  unfold laid at h
  simp only [List.mem_append] at h
  rcases h with (h | h) | h
  · exact .inl (List.mem_of_mem_take h)
  · exact .inr h
  · exact .inl (List.mem_of_mem_drop h)
theorem VolOk.setv {v : Vol} (h : VolOk v) {o k : Nat} {num : Int} (hf : o + k ≤ v.vs.length) (h0 : 0 ≤ num) (h1 : num ≤ 4611686018427387904) : VolOk { v with vs := laid v.vs o (List.replicate k num) } :=
  ⟨h.shp, h.lb, by rw [laid_length (by simpa using hf)]; exact h.lv, fun x hx => by
    rcases mem_laid hx with hx | hx
    · exact h.ver x hx
    · rw [List.eq_of_mem_replicate hx]; exact ⟨h0, h1⟩, h.last⟩
end Go.Proofs.YtdhdmbmknpjhbaaGreat
namespace Go.Proofs.YtdhdmbmknpjhbaaGreat
open Go Go.Sx Go.Proofs
abbrev resV (r : Res) (A : Option Addr) (cp : Nat) (e : Int) : Value := .tuple #[.agg #[.int .u8 r.code, .slice A r.data.length cp], .int .i64 e]
end Go.Proofs.YtdhdmbmknpjhbaaGreat
namespace Go.Sx
open Go
section
variable {P : Program} {c : Cx} {n : Nat} {env env' : List (Nat × Value)} {G G' Gr : List Own} {Q Q' : List Pers} {d : Nat} {ty : TypeId} {pos : String} {aft : Array Edge} {g : Option (Nat × Bool)} {x y z u : Operand} {t : TypeId} {a a' : Act} {w w' : World}
variable {ops : Array Oper} {R : Exit → Asr} {rest : List Oper} {A B : Asr} {cd : Code} {M : Asr} {I : World → Prop} {fuel : Nat} {listed : Array Bool}
theorem GA.shape {i e sz m : Nat} {v : Value} {cs : List Value} (hi : nthO G i = some (.row v e sz m cs)) (k : ∀ A cp, v = .slice A m cp → m ≤ cp → cp ≤ 9223372036854775807 → GA P ops M I fuel listed (St c n env G Q)) : GA P ops M I fuel listed (St c n env G Q) := fun a w h => by
  obtain ⟨A, cp, h1, h2, h3⟩ := h.shape hi
  exact k A cp h1 h2 h3 a w h
theorem GA.know {q : Pers} (hq : ∀ w S, (∀ p ∈ Q, p.h w S) → q.h w S) (k : GA P ops M I fuel listed (St c n env G (q :: Q))) : GA P ops M I fuel listed (St c n env G Q) := GA.imp (fun a w h => h.know hq) k
theorem St.freezeC {α : Type} {enc : α → Value} {h1 : ∀ x, (enc x).oneCell' = true} {i b e : Nat} {xs : List α} (h : St c n env G Q a w) (ht : takeO G i = some (.cells b (xs.map enc) e, G')) : St c n env G' (Pers.row (Kd.sc enc h1) (some ⟨b, 0, none⟩) xs :: Q) a w :=
  h.freeze (QN := [Pers.row (Kd.sc enc h1) (some ⟨b, 0, none⟩) xs]) ht fun w S ho hS hq q hq' => by
    rw [List.mem_singleton.1 hq']
    have := blk_sub (h1 := h1) (l := 0) (h := xs.length) (S := S) ho (hS b (by simp [Own.keys]))
    rwa [seg_all] at this
theorem GL.freezeC {α : Type} {enc : α → Value} {h1 : ∀ x, (enc x).oneCell' = true} {i b e : Nat} {xs : List α} (ht : takeO G i = some (.cells b (xs.map enc) e, G')) (k : GL P ops R rest (St c n env G' (Pers.row (Kd.sc enc h1) (some ⟨b, 0, none⟩) xs :: Q))) : GL P ops R rest (St c n env G Q) := GL.imp (fun a w h => h.freezeC ht) k
theorem GC.freezeC {α : Type} {enc : α → Value} {h1 : ∀ x, (enc x).oneCell' = true} {i b e : Nat} {xs : List α} (ht : takeO G i = some (.cells b (xs.map enc) e, G')) (k : GC P R cd (St c n env G' (Pers.row (Kd.sc enc h1) (some ⟨b, 0, none⟩) xs :: Q))) : GC P R cd (St c n env G Q) := GC.imp (fun a w h => h.freezeC ht) k
theorem GA.freezeC {α : Type} {enc : α → Value} {h1 : ∀ x, (enc x).oneCell' = true} {i b e : Nat} {xs : List α} (ht : takeO G i = some (.cells b (xs.map enc) e, G')) (k : GA P ops M I fuel listed (St c n env G' (Pers.row (Kd.sc enc h1) (some ⟨b, 0, none⟩) xs :: Q))) : GA P ops M I fuel listed (St c n env G Q) := GA.imp (fun a w h => h.freezeC ht) k
end
end Go.Sx
namespace Go.Proofs.YtdhdmbmknpjhbaaGreat
open Go Go.Sx Go.Proofs
def badP (bl sz last : Int) (p : Page) : Prop := p.at_ ≤ last ∨ bl ≤ p.at_ ∨ p.ver < 1 ∨ 4611686018427387904 < p.ver ∨ (p.data.length : Int) ≠ sz
instance (bl sz last : Int) (p : Page) : Decidable (badP bl sz last p) := by unfold badP; infer_instance
def laidF (bl sz : Int) : Int → List Page → Bool
  | _, [] => true
  | last, p :: r => if badP bl sz last p then false else laidF bl sz p.at_ r
theorem drop_gt {α : Type} [Inhabited α] {l : List α} {k : Nat} (h : k < l.length) : l.drop k = gt l (k : Int) :: l.drop (k + 1) := by
  have := gt_ok (xs := l) (i := (k : Int)) (by omega) (by omega)
  rw [List.drop_eq_getElem_cons h]
  congr 1
  have h2 : l[k]? = some l[k] := List.getElem?_eq_getElem h
  simp only [Int.toNat_natCast] at this
  rw [h2] at this
  exact Option.some.inj this
theorem laidF_bad {bl sz last : Int} {l : List Page} {k : Nat} (h : k < l.length) (hb : badP bl sz last (gt l (k : Int))) : laidF bl sz last (l.drop k) = false := by rw [drop_gt h, laidF, if_pos hb]
theorem laidF_ok {bl sz last : Int} {l : List Page} {k : Nat} (h : k < l.length) (hb : ¬ badP bl sz last (gt l (k : Int))) : laidF bl sz last (l.drop k) = laidF bl sz (gt l (k : Int)).at_ (l.drop (k + 1)) := by rw [drop_gt h, laidF, if_neg hb]
theorem laidF_end {bl sz last : Int} {l : List Page} {k : Nat} (h : l.length ≤ k) : laidF bl sz last (l.drop k) = true := by rw [List.drop_of_length_le h]; rfl
abbrev pageV (pg : Page) (A : Option Addr) (cp : Nat) : Value := .agg #[.int .i64 pg.at_, .int .i64 pg.ver, .slice A pg.data.length cp]
abbrev capG (q wb p : Nat) (last : Int) : List Own := [.cells q [.int .i64 last] 3, .cells wb [.pointer (some ⟨p, 0, none⟩)] 177]
theorem laidc_ct (q wb p pb pv : Nat) (v : Vol) (last : Int) (pg : Page) (A : Option Addr) (cp : Nat) : Ct Tryz.prog 179 [pageV pg A cp, .pointer (some ⟨q, 0, none⟩), .pointer (some ⟨wb, 0, none⟩)] (capG q wb p last ++ volG p pb pv v) []
    (fun u G Q => u = .bool (decide (badP v.bl v.sz last pg)) ∧ G = capG q wb p pg.at_ ++ volG p pb pv v ∧ Q = []) := by
 refine Ct.intro Tryz.func179 rfl rfl rfl (fun c hc => ?_)
 refine GC.sr_ ?_; refine GL.step rfl (t_box rfl rfl rfl) (GL.ex fun b_t3 => ?_); refine GL.as_ rfl rfl ?_; refine GL.nl_ ?_; refine GC.seq' ?_; refine GC.regionQ wide_ (by kernel_rfl) ?_; refine GQ.step rfl (q_pure (p_fieldAddr fo_59_0 rfl)) ?_
 refine GQ.step rfl (q_mem (m_load (i := 0) rfl rfl ag_3 rfl)) ?_; refine GQ.step rfl (q_mem (m_load (i := 1) rfl rfl ag_3 rfl)) ?_; refine GQ.step rfl (q_pure (p_leq rfl rfl)) ?_; refine GQ.step rfl (q_pure (p_move rfl)) ?_
 refine GQ.split (i := 10) rfl (fun h1 => ?_) (fun h1 => ?_)
 ·try simp only [tst_] at h1
  iterate 8 refine GQ.pass (s := 10) rfl rfl rfl ?_
  refine GQ.step rfl (q_pure (p_pick_true rfl rfl)) ?_; refine GQ.step rfl (q_pure (p_move rfl)) ?_
  iterate 3 refine GQ.pass (s := 20) rfl rfl rfl ?_
  refine GQ.step rfl (q_pure (p_pick_true rfl rfl)) ?_; refine GQ.step rfl (q_pure (p_move rfl)) ?_
  iterate 3 refine GQ.pass (s := 25) rfl rfl rfl ?_
  refine GQ.step rfl (q_pure (p_pick_true rfl rfl)) ?_; refine GQ.step rfl (q_pure (p_move rfl)) ?_
  iterate 9 refine GQ.pass (s := 30) rfl rfl rfl ?_
  refine GQ.step rfl (q_pure (p_pick_true rfl rfl)) ?_; refine GQ.step rfl (q_pure (p_assign rfl)) ?_
  refine GQ.nil (?_ : GC _ _ _ _)
  refine GC.sr_ ?_; refine GL.pure rfl (p_fieldAddr fo_59_0 rfl) ?_; refine GL.step rfl (t_mem rfl (m_load (i := 0) rfl rfl ag_3 rfl)) ?_; refine GL.step rfl (t_store (i := 1) rfl rfl rfl rfl sz_3 rfl rfl rfl) ?_; refine GL.nl_ ?_
  refine GC.sr_ ?_; refine GL.mv_ rfl rfl ?_; refine GL.as_ rfl rfl ?_; refine GL.nl_ ?_; refine GC.ret ?_
  refine fun a w h => Fin.back (rs := [.tmp 4]) (vs := [_]) (is := [1, 1, 1, 1, 1]) (js := []) rfl ⟨rfl, trivial⟩ rfl rfl ?_ h
  clear h
  refine ⟨congrArg Value.bool ?_, rfl, rfl⟩; first | exact decide_eq_decide.2 (by unfold badP; omega) | exact (decide_eq_true (by unfold badP; omega)).symm | exact (decide_eq_false (by unfold badP; omega)).symm
 ·try simp only [tst_] at h1
  refine GQ.stepG (s := 10) rfl rfl rfl (q_pure (p_fieldAddr fo_59_0 rfl)) ?_; refine GQ.stepG (s := 10) rfl rfl rfl (q_mem (m_load (i := 0) rfl rfl ag_3 rfl)) ?_; refine GQ.stepG (s := 10) rfl rfl rfl (q_mem (m_load (i := 2) rfl rfl ag_177 rfl)) ?_
  refine GQ.stepG (s := 10) rfl rfl rfl (q_pure (p_nilCheck rfl)) ?_; refine GQ.stepG (s := 10) rfl rfl rfl (q_pure (p_fieldAddr fo_217_0 rfl)) ?_; refine GQ.stepG (s := 10) rfl rfl rfl (q_pure (p_fieldAddr fo_35_0 rfl)) ?_
  refine GQ.stepG (s := 10) rfl rfl rfl (q_mem (m_load (i := 3) rfl rfl ag_3 rfl)) ?_; refine GQ.stepG (s := 10) rfl rfl rfl (q_pure (p_geq rfl rfl)) ?_; refine GQ.step rfl (q_pure (p_pick_false rfl rfl)) ?_; refine GQ.step rfl (q_pure (p_move rfl)) ?_
  refine GQ.split (i := 20) rfl (fun h2 => ?_) (fun h2 => ?_)
  ·try simp only [tst_] at h2
   iterate 3 refine GQ.pass (s := 20) rfl rfl rfl ?_
   refine GQ.step rfl (q_pure (p_pick_true rfl rfl)) ?_; refine GQ.step rfl (q_pure (p_move rfl)) ?_
   iterate 3 refine GQ.pass (s := 25) rfl rfl rfl ?_
   refine GQ.step rfl (q_pure (p_pick_true rfl rfl)) ?_; refine GQ.step rfl (q_pure (p_move rfl)) ?_
   iterate 9 refine GQ.pass (s := 30) rfl rfl rfl ?_
   refine GQ.step rfl (q_pure (p_pick_true rfl rfl)) ?_; refine GQ.step rfl (q_pure (p_assign rfl)) ?_
   refine GQ.nil (?_ : GC _ _ _ _)
   refine GC.sr_ ?_; refine GL.pure rfl (p_fieldAddr fo_59_0 rfl) ?_; refine GL.step rfl (t_mem rfl (m_load (i := 0) rfl rfl ag_3 rfl)) ?_; refine GL.step rfl (t_store (i := 1) rfl rfl rfl rfl sz_3 rfl rfl rfl) ?_; refine GL.nl_ ?_
   refine GC.sr_ ?_; refine GL.mv_ rfl rfl ?_; refine GL.as_ rfl rfl ?_; refine GL.nl_ ?_; refine GC.ret ?_
   refine fun a w h => Fin.back (rs := [.tmp 4]) (vs := [_]) (is := [1, 1, 1, 1, 1]) (js := []) rfl ⟨rfl, trivial⟩ rfl rfl ?_ h
   clear h
   refine ⟨congrArg Value.bool ?_, rfl, rfl⟩; first | exact decide_eq_decide.2 (by unfold badP; omega) | exact (decide_eq_true (by unfold badP; omega)).symm | exact (decide_eq_false (by unfold badP; omega)).symm
  ·try simp only [tst_] at h2
   refine GQ.stepG (s := 20) rfl rfl rfl (q_pure (p_fieldAddr fo_59_1 rfl)) ?_; refine GQ.stepG (s := 20) rfl rfl rfl (q_mem (m_load (i := 0) rfl rfl ag_3 rfl)) ?_; refine GQ.stepG (s := 20) rfl rfl rfl (q_pure (p_lss rfl rfl)) ?_
   refine GQ.step rfl (q_pure (p_pick_false rfl rfl)) ?_; refine GQ.step rfl (q_pure (p_move rfl)) ?_; refine GQ.split (i := 25) rfl (fun h3 => ?_) (fun h3 => ?_)
   ·try simp only [tst_] at h3
    iterate 3 refine GQ.pass (s := 25) rfl rfl rfl ?_
    refine GQ.step rfl (q_pure (p_pick_true rfl rfl)) ?_; refine GQ.step rfl (q_pure (p_move rfl)) ?_
    iterate 9 refine GQ.pass (s := 30) rfl rfl rfl ?_
    refine GQ.step rfl (q_pure (p_pick_true rfl rfl)) ?_; refine GQ.step rfl (q_pure (p_assign rfl)) ?_
    refine GQ.nil (?_ : GC _ _ _ _)
    refine GC.sr_ ?_; refine GL.pure rfl (p_fieldAddr fo_59_0 rfl) ?_; refine GL.step rfl (t_mem rfl (m_load (i := 0) rfl rfl ag_3 rfl)) ?_; refine GL.step rfl (t_store (i := 1) rfl rfl rfl rfl sz_3 rfl rfl rfl) ?_; refine GL.nl_ ?_
    refine GC.sr_ ?_; refine GL.mv_ rfl rfl ?_; refine GL.as_ rfl rfl ?_; refine GL.nl_ ?_; refine GC.ret ?_
    refine fun a w h => Fin.back (rs := [.tmp 4]) (vs := [_]) (is := [1, 1, 1, 1, 1]) (js := []) rfl ⟨rfl, trivial⟩ rfl rfl ?_ h
    clear h
    refine ⟨congrArg Value.bool ?_, rfl, rfl⟩; first | exact decide_eq_decide.2 (by unfold badP; omega) | exact (decide_eq_true (by unfold badP; omega)).symm | exact (decide_eq_false (by unfold badP; omega)).symm
   ·try simp only [tst_] at h3
    refine GQ.stepG (s := 25) rfl rfl rfl (q_pure (p_fieldAddr fo_59_1 rfl)) ?_; refine GQ.stepG (s := 25) rfl rfl rfl (q_mem (m_load (i := 0) rfl rfl ag_3 rfl)) ?_; refine GQ.stepG (s := 25) rfl rfl rfl (q_pure (p_gtr rfl rfl)) ?_
    refine GQ.step rfl (q_pure (p_pick_false rfl rfl)) ?_; refine GQ.step rfl (q_pure (p_move rfl)) ?_; refine GQ.split (i := 30) rfl (fun h4 => ?_) (fun h4 => ?_)
    ·try simp only [tst_] at h4
     iterate 9 refine GQ.pass (s := 30) rfl rfl rfl ?_
     refine GQ.step rfl (q_pure (p_pick_true rfl rfl)) ?_; refine GQ.step rfl (q_pure (p_assign rfl)) ?_
     refine GQ.nil (?_ : GC _ _ _ _)
     refine GC.sr_ ?_; refine GL.pure rfl (p_fieldAddr fo_59_0 rfl) ?_; refine GL.step rfl (t_mem rfl (m_load (i := 0) rfl rfl ag_3 rfl)) ?_; refine GL.step rfl (t_store (i := 1) rfl rfl rfl rfl sz_3 rfl rfl rfl) ?_; refine GL.nl_ ?_
     refine GC.sr_ ?_; refine GL.mv_ rfl rfl ?_; refine GL.as_ rfl rfl ?_; refine GL.nl_ ?_; refine GC.ret ?_
     refine fun a w h => Fin.back (rs := [.tmp 4]) (vs := [_]) (is := [1, 1, 1, 1, 1]) (js := []) rfl ⟨rfl, trivial⟩ rfl rfl ?_ h
     clear h
     refine ⟨congrArg Value.bool ?_, rfl, rfl⟩; first | exact decide_eq_decide.2 (by unfold badP; omega) | exact (decide_eq_true (by unfold badP; omega)).symm | exact (decide_eq_false (by unfold badP; omega)).symm
    ·try simp only [tst_] at h4
     refine GQ.stepG (s := 30) rfl rfl rfl (q_pure (p_fieldAddr fo_59_2 rfl)) ?_; refine GQ.stepG (s := 30) rfl rfl rfl (q_mem (m_load (i := 0) rfl rfl ag_25 rfl)) ?_; refine GQ.stepG (s := 30) rfl rfl rfl (q_pure (p_len Tryz.underlying25 rfl)) ?_
     refine GQ.stepG (s := 30) rfl rfl rfl (q_mem (m_load (i := 2) rfl rfl ag_177 rfl)) ?_; refine GQ.stepG (s := 30) rfl rfl rfl (q_pure (p_nilCheck rfl)) ?_; refine GQ.stepG (s := 30) rfl rfl rfl (q_pure (p_fieldAddr fo_217_0 rfl)) ?_
     refine GQ.stepG (s := 30) rfl rfl rfl (q_pure (p_fieldAddr fo_35_1 rfl)) ?_; refine GQ.stepG (s := 30) rfl rfl rfl (q_mem (m_load (i := 3) rfl rfl ag_3 rfl)) ?_; refine GQ.stepG (s := 30) rfl rfl rfl (q_pure (p_neq rfl rfl)) ?_
     refine GQ.step rfl (q_pure (p_pick_false rfl rfl)) ?_; refine GQ.step rfl (q_pure (p_assign rfl)) ?_
     refine GQ.nil (?_ : GC _ _ _ _)
     refine GC.sr_ ?_; refine GL.pure rfl (p_fieldAddr fo_59_0 rfl) ?_; refine GL.step rfl (t_mem rfl (m_load (i := 0) rfl rfl ag_3 rfl)) ?_; refine GL.step rfl (t_store (i := 1) rfl rfl rfl rfl sz_3 rfl rfl rfl) ?_; refine GL.nl_ ?_
     refine GC.sr_ ?_; refine GL.mv_ rfl rfl ?_; refine GL.as_ rfl rfl ?_; refine GL.nl_ ?_; refine GC.ret ?_
     refine fun a w h => Fin.back (rs := [.tmp 4]) (vs := [_]) (is := [1, 1, 1, 1, 1]) (js := []) rfl ⟨rfl, trivial⟩ rfl rfl ?_ h
     clear h
     refine ⟨congrArg Value.bool ?_, rfl, rfl⟩; first | exact decide_eq_decide.2 (by unfold badP; omega) | exact (decide_eq_true (by unfold badP; omega)).symm | exact (decide_eq_false (by unfold badP; omega)).symm
theorem index_ct (q wb p pb pv : Nat) (v : Vol) (A : Option Addr) (l : List Page) (cp : Nat) (hl : l.length ≤ 140737488355328) : Ct Tryz.prog 166 [.slice A l.length cp, .func (.func 179) #[] #[.pointer (some ⟨q, 0, none⟩), .pointer (some ⟨wb, 0, none⟩)]] (capG q wb p (-1) ++ volG p pb pv v) [Pers.row kPage A l]
    (fun u G Q => ∃ r la, (0 ≤ r ↔ laidF v.bl v.sz (-1) l = false) ∧ u = .int .i64 r ∧ G = capG q wb p la ++ volG p pb pv v ∧ Q = []) := by
 refine Ct.intro Tryz.func166 rfl rfl rfl (fun c hc => ?_)
 refine GC.sr_ ?_; refine GL.as_ rfl rfl ?_; refine GL.nl_ ?_; refine GC.seq' ?_; refine GC.sr_ ?_; refine GL.mv_ rfl rfl ?_; refine GL.pure rfl (p_len Tryz.underlying36 rfl) ?_; refine GL.mv_ rfl rfl ?_; refine GL.nl_ ?_
 refine GC.block ?_; refine GC.imp (fun a w h => (⟨⟨by simp, rfl⟩, h.cut (is := [0, 0, 0, 0, 0]) (js := [0]) ⟨rfl, rfl, rfl, rfl, trivial⟩ rfl rfl⟩ : (fun (y : Nat × Int) (a : Act) (w : World) => (y.1 ≤ l.length ∧ laidF v.bl v.sz (-1) l = laidF v.bl v.sz y.2 (l.drop y.1)) ∧ St c 19 [(0, .slice A l.length cp), (1, .func (.func 179) #[] #[.pointer (some ⟨q, 0, none⟩), .pointer (some ⟨wb, 0, none⟩)]), (7, .int .i64 (l.length : Int)), (8, .int .i64 (y.1 : Int))] [.cells q [.int .i64 y.2] 3, .cells wb [.pointer (some ⟨p, 0, none⟩)] 177, .cells p [.int .i64 v.bl, .int .i64 v.sz, .slice (some ⟨pb, 0, none⟩) (v.bl * v.sz).toNat (v.bl * v.sz).toNat, .slice (some ⟨pv, 0, none⟩) v.bl.toNat v.bl.toNat, .int .i64 v.last] 217, .cells pb (v.b.map u8v) 5, .cells pv (v.vs.map (Value.int .i64)) 3] [Pers.row kPage A l] a w) (0, -1) a w)) (GC.loop (fun (y : Nat × Int) (a : Act) (w : World) => (y.1 ≤ l.length ∧ laidF v.bl v.sz (-1) l = laidF v.bl v.sz y.2 (l.drop y.1)) ∧ St c 19 [(0, .slice A l.length cp), (1, .func (.func 179) #[] #[.pointer (some ⟨q, 0, none⟩), .pointer (some ⟨wb, 0, none⟩)]), (7, .int .i64 (l.length : Int)), (8, .int .i64 (y.1 : Int))] [.cells q [.int .i64 y.2] 3, .cells wb [.pointer (some ⟨p, 0, none⟩)] 177, .cells p [.int .i64 v.bl, .int .i64 v.sz, .slice (some ⟨pb, 0, none⟩) (v.bl * v.sz).toNat (v.bl * v.sz).toNat, .slice (some ⟨pv, 0, none⟩) v.bl.toNat v.bl.toNat, .int .i64 v.last] 217, .cells pb (v.b.map u8v) 5, .cells pv (v.vs.map (Value.int .i64)) 3] [Pers.row kPage A l] a w) (fun y => l.length - y.1) (0, -1) ?_)
 intro y
 refine GC.and fun hk => ?_
 obtain ⟨k, last⟩ := y
 dsimp only at hk ⊢
 obtain ⟨hk, he⟩ := hk
 refine GC.sr_ ?_; refine GL.pure rfl (p_lss rfl rfl) ?_; refine GL.nl_ ?_; refine GC.seq' ?_; refine GC.cond rfl (fun h1 => ?_) (fun h1 => ?_)
 ·try simp only [tst_] at h1
  refine GC.skip (?_ : GC _ _ _ _)
  refine GC.seq' ?_; refine GC.block ?_; refine GC.sr_ ?_; refine GL.mv_ rfl rfl ?_; refine GL.as_ rfl rfl ?_; refine GL.nl_ ?_; refine GC.sr_ ?_
  iterate 3 refine GL.mv_ rfl rfl ?_
  refine GL.step rfl (t_index (i := 0) rfl rfl rfl rfl Tryz.underlying36 sz_59 (by omega) (gt_ok (by omega) (by omega))) (GL.ex fun p_x14 => GL.ex fun r_x14 => GL.and fun ok_x14 => ?_)
  rcases r_x14 with ⟨_, ⟨_, ⟨Ax14_0, cpx14_0⟩⟩⟩
  refine GL.step rfl (t_mem rfl (m_loadPN (i := 0) rfl rfl ag_59 (vs := [_, _, _]) sz_59 ⟨rfl, rfl, rfl, trivial⟩)) ?_; refine GL.step rfl (t_callv rfl fn_179 rfl rfl (is := [0, 0, 0, 0, 0]) (js := []) rfl rfl (by exact laidc_ct _ _ _ _ _ _ _ (gt l (k : Int)) _ _)) (GL.ret ?_)
  rintro _ _ _ ⟨rfl, rfl, rfl⟩
  refine GL.nl_ ?_; refine GC.cond rfl (fun h2 => ?_) (fun h2 => ?_)
  ·try simp only [tst_] at h2
   refine GC.sr_ ?_; refine GL.mv_ rfl rfl ?_; refine GL.as_ rfl rfl ?_; refine GL.nl_ ?_; refine GC.ret ?_
   refine fun a w h => Fin.back (rs := [.tmp 4]) (vs := [_]) (is := [0, 0, 0, 0, 0]) (js := []) rfl ⟨rfl, trivial⟩ rfl rfl ?_ h
   clear h
   exact ⟨_, _, ⟨fun _ => by rw [he]; exact laidF_bad (by omega) (by simpa using h2), fun _ => by omega⟩, rfl, rfl, rfl⟩
  ·try simp only [tst_] at h2
   refine GC.skip (?_ : GC _ _ _ _)
   refine GC.region ?_; refine GL.pure rfl (p_add rfl rfl (w64 (by omega) (by omega))) ?_; refine GL.mv_ rfl rfl ?_; refine GL.nil ?_
   exact fun a w h => ⟨(k + 1, (gt l (k : Int)).at_), (by simp only; omega), ⟨by simp only; omega, by simp only; rw [he]; exact laidF_ok (by omega) (by simpa using h2)⟩, h.cut (is := [0, 0, 0, 0, 0]) (js := [2]) ⟨rfl, rfl, rfl, rfl, trivial⟩ rfl rfl⟩
 ·try simp only [tst_] at h1
  refine GC.exit (?_ : GC _ _ _ _)
  refine GC.sr_ ?_; refine GL.as_ rfl rfl ?_; refine GL.nl_ ?_; refine GC.ret ?_
  refine fun a w h => Fin.back (rs := [.tmp 4]) (vs := [_]) (is := [0, 0, 0, 0, 0]) (js := []) rfl ⟨rfl, trivial⟩ rfl rfl ?_ h
  clear h
  exact ⟨_, _, ⟨fun g => by omega, fun g => by rw [he, laidF_end (by omega)] at g; cases g⟩, rfl, rfl, rfl⟩
theorem contains_ct (q wb p pb pv : Nat) (v : Vol) (A : Option Addr) (l : List Page) (cp : Nat) (hl : l.length ≤ 140737488355328) : Ct Tryz.prog 147 [.slice A l.length cp, .func (.func 179) #[] #[.pointer (some ⟨q, 0, none⟩), .pointer (some ⟨wb, 0, none⟩)]] (capG q wb p (-1) ++ volG p pb pv v) [Pers.row kPage A l]
    (fun u G Q => ∃ la, u = .bool (!laidF v.bl v.sz (-1) l) ∧ G = capG q wb p la ++ volG p pb pv v ∧ Q = []) := by
 refine Ct.intro Tryz.func147 rfl rfl rfl (fun c hc => ?_)
 refine GC.sr_ ?_; refine GL.as_ rfl rfl ?_; refine GL.nl_ ?_; refine GC.sr_ ?_
 iterate 2 refine GL.mv_ rfl rfl ?_
 refine GL.step rfl (t_call rfl fn_166 rfl (is := [0, 0, 0, 0, 0]) (js := [0]) rfl rfl (by exact index_ct _ _ _ _ _ v _ _ _ hl)) (GL.ret ?_)
 rintro _ _ _ ⟨r7, la7, hr7, rfl, rfl, rfl⟩
 refine GL.pure rfl (p_geq rfl rfl) ?_; refine GL.as_ rfl rfl ?_; refine GL.nl_ ?_; refine GC.ret ?_
 refine fun a w h => Fin.back (rs := [.tmp 4]) (vs := [_]) (is := [0, 0, 0, 0, 0]) (js := []) rfl ⟨rfl, trivial⟩ rfl rfl ?_ h
 clear h
 refine ⟨_, congrArg Value.bool ?_, rfl, rfl⟩
 cases hb : laidF v.bl v.sz (-1) l
 ·exact decide_eq_true (hr7.2 hb)
 ·exact decide_eq_false (fun g => by have := hr7.1 g; rw [hb] at this; cases this)
theorem laid_ct (p pb pv : Nat) (v : Vol) (A : Option Addr) (l : List Page) (cp : Nat) (hl : l.length ≤ 140737488355328) : Ct Tryz.prog 174 [.pointer (some ⟨p, 0, none⟩), .slice A l.length cp] (volG p pb pv v) [Pers.row kPage A l]
    (fun u G Q => u = .bool (laidF v.bl v.sz (-1) l) ∧ G = volG p pb pv v ∧ Q = []) := by
 refine Ct.intro Tryz.func174 rfl rfl rfl (fun c hc => ?_)
 refine GC.sr_ ?_; refine GL.step rfl (t_box rfl rfl rfl) (GL.ex fun b_t2 => ?_); refine GL.as_ rfl rfl ?_; refine GL.nl_ ?_; refine GC.sr_ ?_; refine GL.step rfl (t_alloc rfl ze_3) (GL.ex fun b_t5 => ?_); refine GL.step rfl (t_store (i := 0) rfl rfl rfl rfl sz_3 rfl rfl rfl) ?_
 refine GL.nl_ ?_; refine GC.sr_ ?_; refine GL.mv_ rfl rfl ?_; refine GL.pure rfl (p_makeFunc rfl rfl) ?_; refine GL.step rfl (t_call rfl fn_147 rfl (is := [0, 0, 0, 0, 0]) (js := [0]) rfl rfl (by exact contains_ct _ _ _ _ _ v _ _ _ hl)) (GL.ret ?_)
 rintro _ _ _ ⟨la8, rfl, rfl, rfl⟩
 refine GL.pure rfl (p_not rfl) ?_; refine GL.as_ rfl rfl ?_; refine GL.nl_ ?_; refine GC.ret ?_
 refine fun a w h => Fin.back (rs := [.tmp 4]) (vs := [_]) (is := [2, 2, 2]) (js := []) rfl ⟨rfl, trivial⟩ rfl rfl ?_ h
 clear h
 exact ⟨by rw [Bool.not_not]; rfl, rfl, rfl⟩
end Go.Proofs.YtdhdmbmknpjhbaaGreat
namespace Go.Proofs.YtdhdmbmknpjhbaaGreat
open Go Go.Sx Go.Proofs
def lastOf (l : List Page) : Nat → Int
  | 0 => -1
  | k + 1 => (gt l (k : Int)).at_
theorem rlaid_ct (bl sz : Int) (A : Option Addr) (l : List Page) (cp : Nat) (hl : l.length ≤ 140737488355328) (hd : ∀ x ∈ l, x.data.length ≤ 140737488355328) : Ct Tryz.prog 67 [shpV bl sz, .slice A l.length cp] [] [Pers.row kPage A l] (fun u G Q => u = .bool (laidF bl sz (-1) l) ∧ G = [] ∧ Q = []) := by
 refine Ct.intro Tryz.func67 rfl rfl rfl (fun c hc => ?_)
 refine GC.sr_ ?_; refine GL.step rfl (t_box rfl rfl rfl) (GL.ex fun b_t2 => ?_); refine GL.as_ rfl rfl ?_; refine GL.nl_ ?_; refine GC.seq' ?_; refine GC.sr_ ?_; refine GL.as_ rfl rfl ?_; refine GL.nl_ ?_; refine GC.block ?_
 refine GC.imp (fun a w h => (⟨⟨by simp, rfl, by simp [lastOf]⟩, h.cut (is := [0]) (js := [0]) ⟨rfl, rfl, rfl, trivial⟩ rfl rfl⟩ : (fun (k : Nat) (a : Act) (w : World) => (k ≤ l.length ∧ laidF bl sz (-1) l = laidF bl sz (lastOf l k) (l.drop k) ∧ -1 ≤ lastOf l k) ∧ St c 60 [(1, .slice A l.length cp), (2, .pointer (some ⟨b_t2, 0, none⟩)), (5, .int .i64 (k : Int))] [.cells b_t2 [.int .i64 bl, .int .i64 sz] 35] [Pers.row kPage A l] a w) 0 a w)) (GC.loop (fun (k : Nat) (a : Act) (w : World) => (k ≤ l.length ∧ laidF bl sz (-1) l = laidF bl sz (lastOf l k) (l.drop k) ∧ -1 ≤ lastOf l k) ∧ St c 60 [(1, .slice A l.length cp), (2, .pointer (some ⟨b_t2, 0, none⟩)), (5, .int .i64 (k : Int))] [.cells b_t2 [.int .i64 bl, .int .i64 sz] 35] [Pers.row kPage A l] a w) (fun k => l.length - k) 0 ?_)
 intro k
 refine GC.and fun hk => ?_
 obtain ⟨hk, he, hlast⟩ := hk
 refine GC.seq' ?_; refine GC.sr_ ?_
 iterate 2 refine GL.mv_ rfl rfl ?_
 refine GL.pure rfl (p_len Tryz.underlying36 rfl) ?_; refine GL.pure rfl (p_lss rfl rfl) ?_; refine GL.nl_ ?_; refine GC.cond rfl (fun h1 => ?_) (fun h1 => ?_)
 ·try simp only [tst_] at h1
  first
  | (exfalso; omega)
  |(skip
    refine GC.skip (?_ : GC _ _ _ _)
    refine GC.seq' ?_; refine GC.block ?_; refine GC.sr_ ?_
    iterate 2 refine GL.mv_ rfl rfl ?_
    refine GL.step rfl (t_index (i := 0) rfl rfl rfl rfl Tryz.underlying36 sz_59 (by omega) (gt_ok (by omega) (by omega))) (GL.ex fun p_x15 => GL.ex fun r_x15 => GL.and fun ok_x15 => ?_)
    rcases r_x15 with ⟨_, ⟨_, ⟨Ax15_0, cpx15_0⟩⟩⟩
    refine GL.step rfl (t_mem rfl (m_loadPN (i := 0) rfl rfl ag_59 (vs := [_, _, _]) sz_59 ⟨rfl, rfl, rfl, trivial⟩)) ?_; refine GL.step rfl (t_alloc rfl ze_59) (GL.ex fun b_t6 => ?_); refine GL.step rfl (t_storeN (i := 0) rfl rfl rfl sz_59 rfl rfl rfl) ?_
    refine GL.nl_ ?_; refine GC.seq' ?_
    rcases k with _ | k
    ·skip
     refine GC.regionQ wide_ (by kernel_rfl) ?_; refine GQ.step rfl (q_pure (p_fieldAddr fo_59_0 rfl)) ?_; refine GQ.step rfl (q_mem (m_load (i := 0) rfl rfl ag_3 rfl)) ?_; refine GQ.step rfl (q_pure (p_lss rfl rfl)) ?_; refine GQ.step rfl (q_pure (p_move rfl)) ?_
     refine GQ.split (i := 20) rfl (fun h2 => ?_) (fun h2 => ?_)
     ·try simp only [tst_] at h2
      first
      | (exfalso; omega)
      |(skip
        iterate 5 refine GQ.pass (s := 20) rfl rfl rfl ?_
        refine GQ.step rfl (q_pure (p_pick_true rfl rfl)) ?_; refine GQ.step rfl (q_pure (p_move rfl)) ?_
        iterate 3 refine GQ.pass (s := 27) rfl rfl rfl ?_
        iterate 9 refine GQ.passU (s := 30) rfl rfl rfl ?_
        refine GQ.pass (s := 27) rfl rfl rfl ?_; refine GQ.step rfl (q_pure (p_pick_true rfl rfl)) ?_; refine GQ.step rfl (q_pure (p_move rfl)) ?_
        iterate 3 refine GQ.pass (s := 42) rfl rfl rfl ?_
        refine GQ.step rfl (q_pure (p_pick_true rfl rfl)) ?_; refine GQ.step rfl (q_pure (p_move rfl)) ?_
        iterate 3 refine GQ.pass (s := 47) rfl rfl rfl ?_
        refine GQ.step rfl (q_pure (p_pick_true rfl rfl)) ?_; refine GQ.step rfl (q_pure (p_move rfl)) ?_
        iterate 6 refine GQ.pass (s := 52) rfl rfl rfl ?_
        refine GQ.step rfl (q_pure (p_pick_true rfl rfl)) ?_
        refine GQ.nil (?_ : GC _ _ _ _)
        refine GC.cond_true rfl ?_; refine GC.sr_ ?_; refine GL.as_ rfl rfl ?_; refine GL.nl_ ?_; refine GC.ret ?_
        refine fun a w h => Fin.back (rs := [.tmp 4]) (vs := [_]) (is := []) (js := []) rfl ⟨rfl, trivial⟩ rfl rfl ?_ h
        clear h
        first | (exact ⟨by rw [he, laidF_end (by omega)]; rfl, rfl, rfl⟩) | (exact ⟨by rw [he, laidF_bad (by omega) (by unfold badP; (try simp only [lastOf] at *); (try simp only [show ∀ x : Nat, ((x + 1 : Nat) : Int) - 1 = x by omega] at *); omega)]; rfl, rfl, rfl⟩))
     ·try simp only [tst_] at h2
      first
      | (exfalso; omega)
      |(skip
        refine GQ.stepG (s := 20) rfl rfl rfl (q_pure (p_fieldAddr fo_59_0 rfl)) ?_; refine GQ.stepG (s := 20) rfl rfl rfl (q_mem (m_load (i := 0) rfl rfl ag_3 rfl)) ?_; refine GQ.stepG (s := 20) rfl rfl rfl (q_pure (p_fieldAddr fo_35_0 rfl)) ?_
        refine GQ.stepG (s := 20) rfl rfl rfl (q_mem (m_load (i := 1) rfl rfl ag_3 rfl)) ?_; refine GQ.stepG (s := 20) rfl rfl rfl (q_pure (p_geq rfl rfl)) ?_; refine GQ.step rfl (q_pure (p_pick_false rfl rfl)) ?_; refine GQ.step rfl (q_pure (p_move rfl)) ?_
        refine GQ.split (i := 27) rfl (fun h3 => ?_) (fun h3 => ?_)
        ·try simp only [tst_] at h3
         first
         | (exfalso; omega)
         |(skip
           iterate 3 refine GQ.pass (s := 27) rfl rfl rfl ?_
           iterate 9 refine GQ.passU (s := 30) rfl rfl rfl ?_
           refine GQ.pass (s := 27) rfl rfl rfl ?_; refine GQ.step rfl (q_pure (p_pick_true rfl rfl)) ?_; refine GQ.step rfl (q_pure (p_move rfl)) ?_
           iterate 3 refine GQ.pass (s := 42) rfl rfl rfl ?_
           refine GQ.step rfl (q_pure (p_pick_true rfl rfl)) ?_; refine GQ.step rfl (q_pure (p_move rfl)) ?_
           iterate 3 refine GQ.pass (s := 47) rfl rfl rfl ?_
           refine GQ.step rfl (q_pure (p_pick_true rfl rfl)) ?_; refine GQ.step rfl (q_pure (p_move rfl)) ?_
           iterate 6 refine GQ.pass (s := 52) rfl rfl rfl ?_
           refine GQ.step rfl (q_pure (p_pick_true rfl rfl)) ?_
           refine GQ.nil (?_ : GC _ _ _ _)
           refine GC.cond_true rfl ?_; refine GC.sr_ ?_; refine GL.as_ rfl rfl ?_; refine GL.nl_ ?_; refine GC.ret ?_
           refine fun a w h => Fin.back (rs := [.tmp 4]) (vs := [_]) (is := []) (js := []) rfl ⟨rfl, trivial⟩ rfl rfl ?_ h
           clear h
           first | (exact ⟨by rw [he, laidF_end (by omega)]; rfl, rfl, rfl⟩) | (exact ⟨by rw [he, laidF_bad (by omega) (by unfold badP; (try simp only [lastOf] at *); (try simp only [show ∀ x : Nat, ((x + 1 : Nat) : Int) - 1 = x by omega] at *); omega)]; rfl, rfl, rfl⟩))
        ·try simp only [tst_] at h3
         first
         | (exfalso; omega)
         |(skip
           refine GQ.stepG (s := 27) rfl rfl rfl (q_pure (p_move rfl)) ?_; refine GQ.stepG (s := 27) rfl rfl rfl (q_pure (p_gtr rfl rfl)) ?_; refine GQ.stepG (s := 27) rfl rfl rfl (q_pure (p_move rfl)) ?_; refine GQ.split (i := 30) rfl (fun h4 => ?_) (fun h4 => ?_)
           ·try simp only [tst_] at h4
            first
            | (exfalso; omega)
            |(skip
              refine GQ.stepG (s := 30) rfl rfl rfl (q_pure (p_fieldAddr fo_59_0 rfl)) ?_; refine GQ.stepG (s := 30) rfl rfl rfl (q_mem (m_load (i := 0) rfl rfl ag_3 rfl)) ?_
              iterate 2 refine GQ.stepG (s := 30) rfl rfl rfl (q_pure (p_move rfl)) ?_
              refine GQ.stepG (s := 30) rfl rfl rfl (q_pure (p_sub rfl rfl (w64 (by omega) (by omega)))) ?_
              exact (by omega : False).elim)
           ·try simp only [tst_] at h4
            first
            | (exfalso; omega)
            |(skip
              iterate 9 refine GQ.pass (s := 30) rfl rfl rfl ?_
              refine GQ.stepG (s := 27) rfl rfl rfl (q_pure (p_pick_false rfl rfl)) ?_; refine GQ.step rfl (q_pure (p_pick_false rfl rfl)) ?_; refine GQ.step rfl (q_pure (p_move rfl)) ?_; refine GQ.stepG (s := 42) rfl rfl rfl (q_pure (p_fieldAddr fo_59_1 rfl)) ?_
              refine GQ.stepG (s := 42) rfl rfl rfl (q_mem (m_load (i := 0) rfl rfl ag_3 rfl)) ?_; refine GQ.stepG (s := 42) rfl rfl rfl (q_pure (p_lss rfl rfl)) ?_; refine GQ.step rfl (q_pure (p_pick_false rfl rfl)) ?_; refine GQ.step rfl (q_pure (p_move rfl)) ?_
              refine GQ.split (i := 47) rfl (fun h5 => ?_) (fun h5 => ?_)
              ·try simp only [tst_] at h5
               first
               | (exfalso; omega)
               |(skip
                 iterate 3 refine GQ.pass (s := 47) rfl rfl rfl ?_
                 refine GQ.step rfl (q_pure (p_pick_true rfl rfl)) ?_; refine GQ.step rfl (q_pure (p_move rfl)) ?_
                 iterate 6 refine GQ.pass (s := 52) rfl rfl rfl ?_
                 refine GQ.step rfl (q_pure (p_pick_true rfl rfl)) ?_
                 refine GQ.nil (?_ : GC _ _ _ _)
                 refine GC.cond_true rfl ?_; refine GC.sr_ ?_; refine GL.as_ rfl rfl ?_; refine GL.nl_ ?_; refine GC.ret ?_
                 refine fun a w h => Fin.back (rs := [.tmp 4]) (vs := [_]) (is := []) (js := []) rfl ⟨rfl, trivial⟩ rfl rfl ?_ h
                 clear h
                 first | (exact ⟨by rw [he, laidF_end (by omega)]; rfl, rfl, rfl⟩) | (exact ⟨by rw [he, laidF_bad (by omega) (by unfold badP; (try simp only [lastOf] at *); (try simp only [show ∀ x : Nat, ((x + 1 : Nat) : Int) - 1 = x by omega] at *); omega)]; rfl, rfl, rfl⟩))
              ·try simp only [tst_] at h5
               first
               | (exfalso; omega)
               |(skip
                 refine GQ.stepG (s := 47) rfl rfl rfl (q_pure (p_fieldAddr fo_59_1 rfl)) ?_; refine GQ.stepG (s := 47) rfl rfl rfl (q_mem (m_load (i := 0) rfl rfl ag_3 rfl)) ?_; refine GQ.stepG (s := 47) rfl rfl rfl (q_pure (p_gtr rfl rfl)) ?_
                 refine GQ.step rfl (q_pure (p_pick_false rfl rfl)) ?_; refine GQ.step rfl (q_pure (p_move rfl)) ?_; refine GQ.split (i := 52) rfl (fun h6 => ?_) (fun h6 => ?_)
                 ·try simp only [tst_] at h6
                  first
                  | (exfalso; omega)
                  |(skip
                    iterate 6 refine GQ.pass (s := 52) rfl rfl rfl ?_
                    refine GQ.step rfl (q_pure (p_pick_true rfl rfl)) ?_
                    refine GQ.nil (?_ : GC _ _ _ _)
                    refine GC.cond_true rfl ?_; refine GC.sr_ ?_; refine GL.as_ rfl rfl ?_; refine GL.nl_ ?_; refine GC.ret ?_
                    refine fun a w h => Fin.back (rs := [.tmp 4]) (vs := [_]) (is := []) (js := []) rfl ⟨rfl, trivial⟩ rfl rfl ?_ h
                    clear h
                    first | (exact ⟨by rw [he, laidF_end (by omega)]; rfl, rfl, rfl⟩) | (exact ⟨by rw [he, laidF_bad (by omega) (by unfold badP; (try simp only [lastOf] at *); (try simp only [show ∀ x : Nat, ((x + 1 : Nat) : Int) - 1 = x by omega] at *); omega)]; rfl, rfl, rfl⟩))
                 ·try simp only [tst_] at h6
                  first
                  | (exfalso; omega)
                  |(skip
                    refine GQ.stepG (s := 52) rfl rfl rfl (q_pure (p_fieldAddr fo_59_2 rfl)) ?_; refine GQ.stepG (s := 52) rfl rfl rfl (q_mem (m_load (i := 0) rfl rfl ag_25 rfl)) ?_; refine GQ.stepG (s := 52) rfl rfl rfl (q_pure (p_len Tryz.underlying25 rfl)) ?_
                    refine GQ.stepG (s := 52) rfl rfl rfl (q_pure (p_fieldAddr fo_35_1 rfl)) ?_; refine GQ.stepG (s := 52) rfl rfl rfl (q_mem (m_load (i := 1) rfl rfl ag_3 rfl)) ?_; refine GQ.stepG (s := 52) rfl rfl rfl (q_pure (p_neq rfl rfl)) ?_
                    refine GQ.step rfl (q_pure (p_pick_false rfl rfl)) ?_
                    refine GQ.nil (?_ : GC _ _ _ _)
                    refine GC.cond rfl (fun h7 => ?_) (fun h7 => ?_)
                    ·try simp only [tst_] at h7
                     first
                     | (exfalso; omega)
                     |(skip
                       refine GC.sr_ ?_; refine GL.as_ rfl rfl ?_; refine GL.nl_ ?_; refine GC.ret ?_
                       refine fun a w h => Fin.back (rs := [.tmp 4]) (vs := [_]) (is := []) (js := []) rfl ⟨rfl, trivial⟩ rfl rfl ?_ h
                       clear h
                       first | (exact ⟨by rw [he, laidF_end (by omega)]; rfl, rfl, rfl⟩) | (exact ⟨by rw [he, laidF_bad (by omega) (by unfold badP; (try simp only [lastOf] at *); (try simp only [show ∀ x : Nat, ((x + 1 : Nat) : Int) - 1 = x by omega] at *); omega)]; rfl, rfl, rfl⟩))
                    ·try simp only [tst_] at h7
                     first
                     | (exfalso; omega)
                     |(skip
                       refine GC.skip (?_ : GC _ _ _ _)
                       refine GC.region ?_; refine GL.mv_ rfl rfl ?_; refine GL.pure rfl (p_add rfl rfl (w64 (by omega) (by omega))) ?_; refine GL.as_ rfl rfl ?_; refine GL.nil ?_
                       exact fun a w h => ⟨(_ + 1), (by omega), ⟨by omega, by rw [he]; exact laidF_ok (by omega) (by unfold badP; (try simp only [lastOf] at *); (try simp only [show ∀ x : Nat, ((x + 1 : Nat) : Int) - 1 = x by omega] at *); omega), by simp only [lastOf]; omega⟩, h.cut (is := [1]) (js := [2]) ⟨rfl, rfl, rfl, trivial⟩ rfl rfl⟩))))))
    ·skip
     refine GC.lay (x := .tmp 1) (y := .const (.int .i64 (((k + 1 : Nat) : Int) - 1))) (j := 2) rfl rfl rfl (by omega) (gt_ok (by omega) (by omega)) (fun p_xp r_xp hA_xp ok_xp => ?_)
     rcases r_xp with ⟨_, ⟨_, ⟨Axp_0, cpxp_0⟩⟩⟩
     refine GC.regionQ wide_ (by kernel_rfl) ?_; refine GQ.step rfl (q_pure (p_fieldAddr fo_59_0 rfl)) ?_; refine GQ.step rfl (q_mem (m_load (i := 0) rfl rfl ag_3 rfl)) ?_; refine GQ.step rfl (q_pure (p_lss rfl rfl)) ?_; refine GQ.step rfl (q_pure (p_move rfl)) ?_
     refine GQ.split (i := 20) rfl (fun h8 => ?_) (fun h8 => ?_)
     ·try simp only [tst_] at h8
      first
      | (exfalso; omega)
      |(skip
        iterate 5 refine GQ.pass (s := 20) rfl rfl rfl ?_
        refine GQ.step rfl (q_pure (p_pick_true rfl rfl)) ?_; refine GQ.step rfl (q_pure (p_move rfl)) ?_
        iterate 3 refine GQ.pass (s := 27) rfl rfl rfl ?_
        iterate 9 refine GQ.passU (s := 30) rfl rfl rfl ?_
        refine GQ.pass (s := 27) rfl rfl rfl ?_; refine GQ.step rfl (q_pure (p_pick_true rfl rfl)) ?_; refine GQ.step rfl (q_pure (p_move rfl)) ?_
        iterate 3 refine GQ.pass (s := 42) rfl rfl rfl ?_
        refine GQ.step rfl (q_pure (p_pick_true rfl rfl)) ?_; refine GQ.step rfl (q_pure (p_move rfl)) ?_
        iterate 3 refine GQ.pass (s := 47) rfl rfl rfl ?_
        refine GQ.step rfl (q_pure (p_pick_true rfl rfl)) ?_; refine GQ.step rfl (q_pure (p_move rfl)) ?_
        iterate 6 refine GQ.pass (s := 52) rfl rfl rfl ?_
        refine GQ.step rfl (q_pure (p_pick_true rfl rfl)) ?_
        refine GQ.nil (?_ : GC _ _ _ _)
        refine GC.cond_true rfl ?_; refine GC.sr_ ?_; refine GL.as_ rfl rfl ?_; refine GL.nl_ ?_; refine GC.ret ?_
        refine fun a w h => Fin.back (rs := [.tmp 4]) (vs := [_]) (is := []) (js := []) rfl ⟨rfl, trivial⟩ rfl rfl ?_ h
        clear h
        first | (exact ⟨by rw [he, laidF_end (by omega)]; rfl, rfl, rfl⟩) | (exact ⟨by rw [he, laidF_bad (by omega) (by unfold badP; (try simp only [lastOf] at *); (try simp only [show ∀ x : Nat, ((x + 1 : Nat) : Int) - 1 = x by omega] at *); omega)]; rfl, rfl, rfl⟩))
     ·try simp only [tst_] at h8
      first
      | (exfalso; omega)
      |(skip
        refine GQ.stepG (s := 20) rfl rfl rfl (q_pure (p_fieldAddr fo_59_0 rfl)) ?_; refine GQ.stepG (s := 20) rfl rfl rfl (q_mem (m_load (i := 0) rfl rfl ag_3 rfl)) ?_; refine GQ.stepG (s := 20) rfl rfl rfl (q_pure (p_fieldAddr fo_35_0 rfl)) ?_
        refine GQ.stepG (s := 20) rfl rfl rfl (q_mem (m_load (i := 1) rfl rfl ag_3 rfl)) ?_; refine GQ.stepG (s := 20) rfl rfl rfl (q_pure (p_geq rfl rfl)) ?_; refine GQ.step rfl (q_pure (p_pick_false rfl rfl)) ?_; refine GQ.step rfl (q_pure (p_move rfl)) ?_
        refine GQ.split (i := 27) rfl (fun h9 => ?_) (fun h9 => ?_)
        ·try simp only [tst_] at h9
         first
         | (exfalso; omega)
         |(skip
           iterate 3 refine GQ.pass (s := 27) rfl rfl rfl ?_
           iterate 9 refine GQ.passU (s := 30) rfl rfl rfl ?_
           refine GQ.pass (s := 27) rfl rfl rfl ?_; refine GQ.step rfl (q_pure (p_pick_true rfl rfl)) ?_; refine GQ.step rfl (q_pure (p_move rfl)) ?_
           iterate 3 refine GQ.pass (s := 42) rfl rfl rfl ?_
           refine GQ.step rfl (q_pure (p_pick_true rfl rfl)) ?_; refine GQ.step rfl (q_pure (p_move rfl)) ?_
           iterate 3 refine GQ.pass (s := 47) rfl rfl rfl ?_
           refine GQ.step rfl (q_pure (p_pick_true rfl rfl)) ?_; refine GQ.step rfl (q_pure (p_move rfl)) ?_
           iterate 6 refine GQ.pass (s := 52) rfl rfl rfl ?_
           refine GQ.step rfl (q_pure (p_pick_true rfl rfl)) ?_
           refine GQ.nil (?_ : GC _ _ _ _)
           refine GC.cond_true rfl ?_; refine GC.sr_ ?_; refine GL.as_ rfl rfl ?_; refine GL.nl_ ?_; refine GC.ret ?_
           refine fun a w h => Fin.back (rs := [.tmp 4]) (vs := [_]) (is := []) (js := []) rfl ⟨rfl, trivial⟩ rfl rfl ?_ h
           clear h
           first | (exact ⟨by rw [he, laidF_end (by omega)]; rfl, rfl, rfl⟩) | (exact ⟨by rw [he, laidF_bad (by omega) (by unfold badP; (try simp only [lastOf] at *); (try simp only [show ∀ x : Nat, ((x + 1 : Nat) : Int) - 1 = x by omega] at *); omega)]; rfl, rfl, rfl⟩))
        ·try simp only [tst_] at h9
         first
         | (exfalso; omega)
         |(skip
           refine GQ.stepG (s := 27) rfl rfl rfl (q_pure (p_move rfl)) ?_; refine GQ.stepG (s := 27) rfl rfl rfl (q_pure (p_gtr rfl rfl)) ?_; refine GQ.stepG (s := 27) rfl rfl rfl (q_pure (p_move rfl)) ?_; refine GQ.split (i := 30) rfl (fun h10 => ?_) (fun h10 => ?_)
           ·try simp only [tst_] at h10
            first
            | (exfalso; omega)
            |(skip
              refine GQ.stepG (s := 30) rfl rfl rfl (q_pure (p_fieldAddr fo_59_0 rfl)) ?_; refine GQ.stepG (s := 30) rfl rfl rfl (q_mem (m_load (i := 0) rfl rfl ag_3 rfl)) ?_
              iterate 2 refine GQ.stepG (s := 30) rfl rfl rfl (q_pure (p_move rfl)) ?_
              refine GQ.stepG (s := 30) rfl rfl rfl (q_pure (p_sub rfl rfl (w64 (by omega) (by omega)))) ?_; refine GQ.stepG (s := 30) rfl rfl rfl (q_pure (p_indexL hA_xp rfl rfl Tryz.underlying36 sz_59 (by omega) (by omega))) ?_
              refine GQ.stepG (s := 30) rfl rfl rfl (q_pure (p_fieldAddr' fo_59_0 rfl)) ?_; refine GQ.stepG (s := 30) rfl rfl rfl (q_mem (m_loadP (i := 0) rfl rfl ag_3 rfl)) ?_; refine GQ.stepG (s := 30) rfl rfl rfl (q_pure (p_leq rfl rfl)) ?_
              refine GQ.stepG (s := 27) rfl rfl rfl (q_pure (p_pick_true rfl rfl)) ?_; refine GQ.step rfl (q_pure (p_pick_false rfl rfl)) ?_; refine GQ.step rfl (q_pure (p_move rfl)) ?_; refine GQ.split (i := 42) rfl (fun h11 => ?_) (fun h11 => ?_)
              ·try simp only [tst_] at h11
               first
               | (exfalso; omega)
               |(skip
                 iterate 3 refine GQ.pass (s := 42) rfl rfl rfl ?_
                 refine GQ.step rfl (q_pure (p_pick_true rfl rfl)) ?_; refine GQ.step rfl (q_pure (p_move rfl)) ?_
                 iterate 3 refine GQ.pass (s := 47) rfl rfl rfl ?_
                 refine GQ.step rfl (q_pure (p_pick_true rfl rfl)) ?_; refine GQ.step rfl (q_pure (p_move rfl)) ?_
                 iterate 6 refine GQ.pass (s := 52) rfl rfl rfl ?_
                 refine GQ.step rfl (q_pure (p_pick_true rfl rfl)) ?_
                 refine GQ.nil (?_ : GC _ _ _ _)
                 refine GC.cond_true rfl ?_; refine GC.sr_ ?_; refine GL.as_ rfl rfl ?_; refine GL.nl_ ?_; refine GC.ret ?_
                 refine fun a w h => Fin.back (rs := [.tmp 4]) (vs := [_]) (is := []) (js := []) rfl ⟨rfl, trivial⟩ rfl rfl ?_ h
                 clear h
                 first | (exact ⟨by rw [he, laidF_end (by omega)]; rfl, rfl, rfl⟩) | (exact ⟨by rw [he, laidF_bad (by omega) (by unfold badP; (try simp only [lastOf] at *); (try simp only [show ∀ x : Nat, ((x + 1 : Nat) : Int) - 1 = x by omega] at *); omega)]; rfl, rfl, rfl⟩))
              ·try simp only [tst_] at h11
               first
               | (exfalso; omega)
               |(skip
                 refine GQ.stepG (s := 42) rfl rfl rfl (q_pure (p_fieldAddr fo_59_1 rfl)) ?_; refine GQ.stepG (s := 42) rfl rfl rfl (q_mem (m_load (i := 0) rfl rfl ag_3 rfl)) ?_; refine GQ.stepG (s := 42) rfl rfl rfl (q_pure (p_lss rfl rfl)) ?_
                 refine GQ.step rfl (q_pure (p_pick_false rfl rfl)) ?_; refine GQ.step rfl (q_pure (p_move rfl)) ?_; refine GQ.split (i := 47) rfl (fun h12 => ?_) (fun h12 => ?_)
                 ·try simp only [tst_] at h12
                  first
                  | (exfalso; omega)
                  |(skip
                    iterate 3 refine GQ.pass (s := 47) rfl rfl rfl ?_
                    refine GQ.step rfl (q_pure (p_pick_true rfl rfl)) ?_; refine GQ.step rfl (q_pure (p_move rfl)) ?_
                    iterate 6 refine GQ.pass (s := 52) rfl rfl rfl ?_
                    refine GQ.step rfl (q_pure (p_pick_true rfl rfl)) ?_
                    refine GQ.nil (?_ : GC _ _ _ _)
                    refine GC.cond_true rfl ?_; refine GC.sr_ ?_; refine GL.as_ rfl rfl ?_; refine GL.nl_ ?_; refine GC.ret ?_
                    refine fun a w h => Fin.back (rs := [.tmp 4]) (vs := [_]) (is := []) (js := []) rfl ⟨rfl, trivial⟩ rfl rfl ?_ h
                    clear h
                    first | (exact ⟨by rw [he, laidF_end (by omega)]; rfl, rfl, rfl⟩) | (exact ⟨by rw [he, laidF_bad (by omega) (by unfold badP; (try simp only [lastOf] at *); (try simp only [show ∀ x : Nat, ((x + 1 : Nat) : Int) - 1 = x by omega] at *); omega)]; rfl, rfl, rfl⟩))
                 ·try simp only [tst_] at h12
                  first
                  | (exfalso; omega)
                  |(skip
                    refine GQ.stepG (s := 47) rfl rfl rfl (q_pure (p_fieldAddr fo_59_1 rfl)) ?_; refine GQ.stepG (s := 47) rfl rfl rfl (q_mem (m_load (i := 0) rfl rfl ag_3 rfl)) ?_; refine GQ.stepG (s := 47) rfl rfl rfl (q_pure (p_gtr rfl rfl)) ?_
                    refine GQ.step rfl (q_pure (p_pick_false rfl rfl)) ?_; refine GQ.step rfl (q_pure (p_move rfl)) ?_; refine GQ.split (i := 52) rfl (fun h13 => ?_) (fun h13 => ?_)
                    ·try simp only [tst_] at h13
                     first
                     | (exfalso; omega)
                     |(skip
                       iterate 6 refine GQ.pass (s := 52) rfl rfl rfl ?_
                       refine GQ.step rfl (q_pure (p_pick_true rfl rfl)) ?_
                       refine GQ.nil (?_ : GC _ _ _ _)
                       refine GC.cond_true rfl ?_; refine GC.sr_ ?_; refine GL.as_ rfl rfl ?_; refine GL.nl_ ?_; refine GC.ret ?_
                       refine fun a w h => Fin.back (rs := [.tmp 4]) (vs := [_]) (is := []) (js := []) rfl ⟨rfl, trivial⟩ rfl rfl ?_ h
                       clear h
                       first | (exact ⟨by rw [he, laidF_end (by omega)]; rfl, rfl, rfl⟩) | (exact ⟨by rw [he, laidF_bad (by omega) (by unfold badP; (try simp only [lastOf] at *); (try simp only [show ∀ x : Nat, ((x + 1 : Nat) : Int) - 1 = x by omega] at *); omega)]; rfl, rfl, rfl⟩))
                    ·try simp only [tst_] at h13
                     first
                     | (exfalso; omega)
                     |(skip
                       refine GQ.stepG (s := 52) rfl rfl rfl (q_pure (p_fieldAddr fo_59_2 rfl)) ?_; refine GQ.stepG (s := 52) rfl rfl rfl (q_mem (m_load (i := 0) rfl rfl ag_25 rfl)) ?_; refine GQ.stepG (s := 52) rfl rfl rfl (q_pure (p_len Tryz.underlying25 rfl)) ?_
                       refine GQ.stepG (s := 52) rfl rfl rfl (q_pure (p_fieldAddr fo_35_1 rfl)) ?_; refine GQ.stepG (s := 52) rfl rfl rfl (q_mem (m_load (i := 1) rfl rfl ag_3 rfl)) ?_; refine GQ.stepG (s := 52) rfl rfl rfl (q_pure (p_neq rfl rfl)) ?_
                       refine GQ.step rfl (q_pure (p_pick_false rfl rfl)) ?_
                       refine GQ.nil (?_ : GC _ _ _ _)
                       refine GC.cond rfl (fun h14 => ?_) (fun h14 => ?_)
                       ·try simp only [tst_] at h14
                        first
                        | (exfalso; omega)
                        |(skip
                          refine GC.sr_ ?_; refine GL.as_ rfl rfl ?_; refine GL.nl_ ?_; refine GC.ret ?_
                          refine fun a w h => Fin.back (rs := [.tmp 4]) (vs := [_]) (is := []) (js := []) rfl ⟨rfl, trivial⟩ rfl rfl ?_ h
                          clear h
                          first | (exact ⟨by rw [he, laidF_end (by omega)]; rfl, rfl, rfl⟩) | (exact ⟨by rw [he, laidF_bad (by omega) (by unfold badP; (try simp only [lastOf] at *); (try simp only [show ∀ x : Nat, ((x + 1 : Nat) : Int) - 1 = x by omega] at *); omega)]; rfl, rfl, rfl⟩))
                       ·try simp only [tst_] at h14
                        first
                        | (exfalso; omega)
                        |(skip
                          refine GC.skip (?_ : GC _ _ _ _)
                          refine GC.region ?_; refine GL.mv_ rfl rfl ?_; refine GL.pure rfl (p_add rfl rfl (w64 (by omega) (by omega))) ?_; refine GL.as_ rfl rfl ?_; refine GL.nil ?_
                          exact fun a w h => ⟨(_ + 1), (by omega), ⟨by omega, by rw [he]; exact laidF_ok (by omega) (by unfold badP; (try simp only [lastOf] at *); (try simp only [show ∀ x : Nat, ((x + 1 : Nat) : Int) - 1 = x by omega] at *); omega), by simp only [lastOf]; omega⟩, h.cut (is := [1]) (js := [4]) ⟨rfl, rfl, rfl, trivial⟩ rfl rfl⟩)))))
           ·try simp only [tst_] at h10
            first
            | (exfalso; omega)
            |(skip
              iterate 9 refine GQ.pass (s := 30) rfl rfl rfl ?_
              refine GQ.stepG (s := 27) rfl rfl rfl (q_pure (p_pick_false rfl rfl)) ?_; refine GQ.step rfl (q_pure (p_pick_false rfl rfl)) ?_; refine GQ.step rfl (q_pure (p_move rfl)) ?_; refine GQ.stepG (s := 42) rfl rfl rfl (q_pure (p_fieldAddr fo_59_1 rfl)) ?_
              refine GQ.stepG (s := 42) rfl rfl rfl (q_mem (m_load (i := 0) rfl rfl ag_3 rfl)) ?_; refine GQ.stepG (s := 42) rfl rfl rfl (q_pure (p_lss rfl rfl)) ?_; refine GQ.step rfl (q_pure (p_pick_false rfl rfl)) ?_; refine GQ.step rfl (q_pure (p_move rfl)) ?_
              refine GQ.split (i := 47) rfl (fun h15 => ?_) (fun h15 => ?_)
              ·try simp only [tst_] at h15
               first
               | (exfalso; omega)
               |(skip
                 iterate 3 refine GQ.pass (s := 47) rfl rfl rfl ?_
                 refine GQ.step rfl (q_pure (p_pick_true rfl rfl)) ?_; refine GQ.step rfl (q_pure (p_move rfl)) ?_
                 iterate 6 refine GQ.pass (s := 52) rfl rfl rfl ?_
                 refine GQ.step rfl (q_pure (p_pick_true rfl rfl)) ?_
                 refine GQ.nil (?_ : GC _ _ _ _)
                 refine GC.cond_true rfl ?_; refine GC.sr_ ?_; refine GL.as_ rfl rfl ?_; refine GL.nl_ ?_; refine GC.ret ?_
                 refine fun a w h => Fin.back (rs := [.tmp 4]) (vs := [_]) (is := []) (js := []) rfl ⟨rfl, trivial⟩ rfl rfl ?_ h
                 clear h
                 first | (exact ⟨by rw [he, laidF_end (by omega)]; rfl, rfl, rfl⟩) | (exact ⟨by rw [he, laidF_bad (by omega) (by unfold badP; (try simp only [lastOf] at *); (try simp only [show ∀ x : Nat, ((x + 1 : Nat) : Int) - 1 = x by omega] at *); omega)]; rfl, rfl, rfl⟩))
              ·try simp only [tst_] at h15
               first
               | (exfalso; omega)
               |(skip
                 refine GQ.stepG (s := 47) rfl rfl rfl (q_pure (p_fieldAddr fo_59_1 rfl)) ?_; refine GQ.stepG (s := 47) rfl rfl rfl (q_mem (m_load (i := 0) rfl rfl ag_3 rfl)) ?_; refine GQ.stepG (s := 47) rfl rfl rfl (q_pure (p_gtr rfl rfl)) ?_
                 refine GQ.step rfl (q_pure (p_pick_false rfl rfl)) ?_; refine GQ.step rfl (q_pure (p_move rfl)) ?_; refine GQ.split (i := 52) rfl (fun h16 => ?_) (fun h16 => ?_)
                 ·try simp only [tst_] at h16
                  first
                  | (exfalso; omega)
                  |(skip
                    iterate 6 refine GQ.pass (s := 52) rfl rfl rfl ?_
                    refine GQ.step rfl (q_pure (p_pick_true rfl rfl)) ?_
                    refine GQ.nil (?_ : GC _ _ _ _)
                    refine GC.cond_true rfl ?_; refine GC.sr_ ?_; refine GL.as_ rfl rfl ?_; refine GL.nl_ ?_; refine GC.ret ?_
                    refine fun a w h => Fin.back (rs := [.tmp 4]) (vs := [_]) (is := []) (js := []) rfl ⟨rfl, trivial⟩ rfl rfl ?_ h
                    clear h
                    first | (exact ⟨by rw [he, laidF_end (by omega)]; rfl, rfl, rfl⟩) | (exact ⟨by rw [he, laidF_bad (by omega) (by unfold badP; (try simp only [lastOf] at *); (try simp only [show ∀ x : Nat, ((x + 1 : Nat) : Int) - 1 = x by omega] at *); omega)]; rfl, rfl, rfl⟩))
                 ·try simp only [tst_] at h16
                  first
                  | (exfalso; omega)
                  |(skip
                    refine GQ.stepG (s := 52) rfl rfl rfl (q_pure (p_fieldAddr fo_59_2 rfl)) ?_; refine GQ.stepG (s := 52) rfl rfl rfl (q_mem (m_load (i := 0) rfl rfl ag_25 rfl)) ?_; refine GQ.stepG (s := 52) rfl rfl rfl (q_pure (p_len Tryz.underlying25 rfl)) ?_
                    refine GQ.stepG (s := 52) rfl rfl rfl (q_pure (p_fieldAddr fo_35_1 rfl)) ?_; refine GQ.stepG (s := 52) rfl rfl rfl (q_mem (m_load (i := 1) rfl rfl ag_3 rfl)) ?_; refine GQ.stepG (s := 52) rfl rfl rfl (q_pure (p_neq rfl rfl)) ?_
                    refine GQ.step rfl (q_pure (p_pick_false rfl rfl)) ?_
                    refine GQ.nil (?_ : GC _ _ _ _)
                    refine GC.cond rfl (fun h17 => ?_) (fun h17 => ?_)
                    ·try simp only [tst_] at h17
                     first
                     | (exfalso; omega)
                     |(skip
                       refine GC.sr_ ?_; refine GL.as_ rfl rfl ?_; refine GL.nl_ ?_; refine GC.ret ?_
                       refine fun a w h => Fin.back (rs := [.tmp 4]) (vs := [_]) (is := []) (js := []) rfl ⟨rfl, trivial⟩ rfl rfl ?_ h
                       clear h
                       first | (exact ⟨by rw [he, laidF_end (by omega)]; rfl, rfl, rfl⟩) | (exact ⟨by rw [he, laidF_bad (by omega) (by unfold badP; (try simp only [lastOf] at *); (try simp only [show ∀ x : Nat, ((x + 1 : Nat) : Int) - 1 = x by omega] at *); omega)]; rfl, rfl, rfl⟩))
                    ·try simp only [tst_] at h17
                     first
                     | (exfalso; omega)
                     |(skip
                       refine GC.skip (?_ : GC _ _ _ _)
                       refine GC.region ?_; refine GL.mv_ rfl rfl ?_; refine GL.pure rfl (p_add rfl rfl (w64 (by omega) (by omega))) ?_; refine GL.as_ rfl rfl ?_; refine GL.nil ?_
                       exact fun a w h => ⟨(_ + 1), (by omega), ⟨by omega, by rw [he]; exact laidF_ok (by omega) (by unfold badP; (try simp only [lastOf] at *); (try simp only [show ∀ x : Nat, ((x + 1 : Nat) : Int) - 1 = x by omega] at *); omega), by simp only [lastOf]; omega⟩, h.cut (is := [1]) (js := [4]) ⟨rfl, rfl, rfl, trivial⟩ rfl rfl⟩)))))))
 ·try simp only [tst_] at h1
  first
  | (exfalso; omega)
  |(skip
    refine GC.exit (?_ : GC _ _ _ _)
    refine GC.sr_ ?_; refine GL.as_ rfl rfl ?_; refine GL.nl_ ?_; refine GC.ret ?_
    refine fun a w h => Fin.back (rs := [.tmp 4]) (vs := [_]) (is := []) (js := []) rfl ⟨rfl, trivial⟩ rfl rfl ?_ h
    clear h
    first | (exact ⟨by rw [he, laidF_end (by omega)]; rfl, rfl, rfl⟩) | (exact ⟨by rw [he, laidF_bad (by omega) (by unfold badP; (try simp only [lastOf] at *); (try simp only [show ∀ x : Nat, ((x + 1 : Nat) : Int) - 1 = x by omega] at *); omega)]; rfl, rfl, rfl⟩))
end Go.Proofs.YtdhdmbmknpjhbaaGreat
namespace Go.Proofs.YtdhdmbmknpjhbaaGreat
open Go Go.Sx Go.Proofs
def put1 (v : Vol) (p : Page) : Vol := { v with b := laid v.b (p.at_ * v.sz).toNat p.data, vs := laid v.vs p.at_.toNat [p.ver], last := max v.last p.ver }
def putF (v : Vol) : List Page → Vol
  | [] => v
  | p :: r => putF (put1 v p) r
def patchF (v : Vol) (l : List Page) : Int × Vol := if laidF v.bl v.sz (-1) l = true then (0, putF v l) else (50, v)
def pageOk (bl sz : Int) (p : Page) : Prop := 0 ≤ p.at_ ∧ p.at_ < bl ∧ 1 ≤ p.ver ∧ p.ver ≤ 4611686018427387904 ∧ (p.data.length : Int) = sz
theorem laidF_all {bl sz : Int} : ∀ {l : List Page} {last : Int}, laidF bl sz last l = true → -1 ≤ last → ∀ p ∈ l, pageOk bl sz p
  | [], _, _, _, p, hp => by cases hp
  | q :: r, last, h, hl, p, hp => by
    rw [laidF] at h
    split at h
    · cases h
    · rename_i hb
      simp only [badP] at hb
      rcases List.mem_cons.1 hp with rfl | hp
      · simp only [pageOk]; omega
      · exact laidF_all h (by omega) p hp
theorem put1_ok {v : Vol} (h : VolOk v) {p : Page} (hp : pageOk v.bl v.sz p) : VolOk (put1 v p) := by
  obtain ⟨h0, h1, h2, h3, h4⟩ := hp
  have hB := atB h.shp h0 (n := 1) (by omega) (by omega)
  have e1 : (p.at_ + 1) * v.sz = p.at_ * v.sz + v.sz := by rw [Int.add_mul, Int.one_mul]
  have hl := h.lb
  have hv := h.lv
  have hla := h.last
  exact (((h.last' (num := max v.last p.ver) (by omega) (by omega)).setb (o := (p.at_ * v.sz).toNat) (ys := p.data) (by show _ ≤ v.b.length; omega)).setv (o := p.at_.toNat) (k := 1) (num := p.ver) (by show _ ≤ v.vs.length; omega) (by omega) h3)
theorem gt_mem {α : Type} [Inhabited α] {l : List α} {k : Nat} (h : k < l.length) : gt l (k : Int) ∈ l := by
  have := gt_ok (xs := l) (i := (k : Int)) (by omega) (by omega)
  exact List.mem_of_getElem? this
theorem putF_step {v u : Vol} {l : List Page} {k : Nat} (hk : k < l.length) (h : putF v l = putF u (l.drop k)) : putF v l = putF (put1 u (gt l (k : Int))) (l.drop (k + 1)) := by
  rw [h, drop_gt hk]; rfl
theorem patch_ct (p pb pv : Nat) (v : Vol) (A : Option Addr) (l : List Page) (cp : Nat) (hv : VolOk v) (hl : l.length ≤ 140737488355328) : Ct Tryz.prog 163 [.pointer (some ⟨p, 0, none⟩), .slice A l.length cp] (volG p pb pv v) [Pers.row kPage A l]
    (fun u G Q => u = .int .i64 (patchF v l).1 ∧ G = volG p pb pv (patchF v l).2 ∧ Q = []) := by
 refine Ct.intro Tryz.func163 rfl rfl rfl (fun c hc => ?_)
 refine GC.sr_ ?_; refine GL.as_ rfl rfl ?_; refine GL.nl_ ?_; refine GC.seq' ?_; refine GC.sr_ ?_; refine GL.mv_ rfl rfl ?_; refine GL.step rfl (t_call rfl fn_173 rfl (is := [0, 0, 0]) (js := []) rfl rfl (by exact made_ct _ _ _ v)) (GL.ret ?_)
 rintro _ _ _ ⟨rfl, rfl, rfl⟩
 refine GL.pure rfl (p_not rfl) ?_; refine GL.nl_ ?_; refine GC.cond_false rfl ?_
 refine GC.skip (?_ : GC _ _ _ _)
 refine GC.seq' ?_; refine GC.sr_ ?_
 iterate 2 refine GL.mv_ rfl rfl ?_
 refine GL.step rfl (t_call rfl fn_174 rfl (is := [0, 0, 0]) (js := [0]) rfl rfl (by exact laid_ct _ _ _ v _ _ _ hl)) (GL.ret ?_)
 rintro _ _ _ ⟨rfl, rfl, rfl⟩
 refine GL.pure rfl (p_not rfl) ?_; refine GL.nl_ ?_; refine GC.cond rfl (fun h1 => ?_) (fun h1 => ?_)
 ·try simp only [tst_] at h1
  refine GC.sr_ ?_; refine GL.as_ rfl rfl ?_; refine GL.nl_ ?_; refine GC.ret ?_
  refine fun a w h => Fin.back (rs := [.tmp 4]) (vs := [_]) (is := [0, 0, 0]) (js := []) rfl ⟨rfl, trivial⟩ rfl rfl ?_ h
  clear h
  have e : patchF v l = (50, v) := by simp [patchF, h1]
  rw [e]; exact ⟨rfl, rfl, rfl⟩
 ·try simp only [tst_] at h1
  refine GC.skip (?_ : GC _ _ _ _)
  refine GC.seq' ?_; refine GC.sr_ ?_
  have hall := laidF_all h1 (by omega)
  refine GL.mv_ rfl rfl ?_; refine GL.pure rfl (p_len Tryz.underlying36 rfl) ?_; refine GL.mv_ rfl rfl ?_; refine GL.nl_ ?_; refine GC.block ?_; refine GC.imp (fun a w h => (⟨⟨by simp, rfl, hv, rfl, rfl⟩, h.cut (is := [0, 0, 0]) (js := [0]) ⟨rfl, rfl, rfl, rfl, trivial⟩ rfl rfl⟩ : (fun (y : Nat × Vol) (a : Act) (w : World) => (y.1 ≤ l.length ∧ putF v l = putF y.2 (l.drop y.1) ∧ VolOk y.2 ∧ y.2.bl = v.bl ∧ y.2.sz = v.sz) ∧ St c 44 [(0, .pointer (some ⟨p, 0, none⟩)), (14, .slice A l.length cp), (15, .int .i64 (l.length : Int)), (16, .int .i64 (y.1 : Int))] [.cells p [.int .i64 y.2.bl, .int .i64 y.2.sz, .slice (some ⟨pb, 0, none⟩) (y.2.bl * y.2.sz).toNat (y.2.bl * y.2.sz).toNat, .slice (some ⟨pv, 0, none⟩) y.2.bl.toNat y.2.bl.toNat, .int .i64 y.2.last] 217, .cells pb (y.2.b.map u8v) 5, .cells pv (y.2.vs.map (Value.int .i64)) 3] [Pers.row kPage A l] a w) (0, v) a w)) (GC.loop (fun (y : Nat × Vol) (a : Act) (w : World) => (y.1 ≤ l.length ∧ putF v l = putF y.2 (l.drop y.1) ∧ VolOk y.2 ∧ y.2.bl = v.bl ∧ y.2.sz = v.sz) ∧ St c 44 [(0, .pointer (some ⟨p, 0, none⟩)), (14, .slice A l.length cp), (15, .int .i64 (l.length : Int)), (16, .int .i64 (y.1 : Int))] [.cells p [.int .i64 y.2.bl, .int .i64 y.2.sz, .slice (some ⟨pb, 0, none⟩) (y.2.bl * y.2.sz).toNat (y.2.bl * y.2.sz).toNat, .slice (some ⟨pv, 0, none⟩) y.2.bl.toNat y.2.bl.toNat, .int .i64 y.2.last] 217, .cells pb (y.2.b.map u8v) 5, .cells pv (y.2.vs.map (Value.int .i64)) 3] [Pers.row kPage A l] a w) (fun y => l.length - y.1) (0, v) ?_)
  intro y
  refine GC.and fun hk => ?_
  obtain ⟨k, u⟩ := y
  dsimp only at hk ⊢
  obtain ⟨hk, hput, hu, hbl, hsz⟩ := hk
  refine GC.sr_ ?_; refine GL.pure rfl (p_lss rfl rfl) ?_; refine GL.nl_ ?_; refine GC.seq' ?_; refine GC.cond rfl (fun h2 => ?_) (fun h2 => ?_)
  ·try simp only [tst_] at h2
   refine GC.skip (?_ : GC _ _ _ _)
   refine GC.seq' ?_; refine GC.block ?_; refine GC.sr_ ?_
   have hp := hall _ (gt_mem (l := l) (k := k) (by omega))
   rw [← hbl, ← hsz] at hp
   have hp2 := hp
   obtain ⟨q0, q1, q2, q3, q4⟩ := hp
   have hB := atB hu.shp q0 (n := 1) (by omega) (by omega)
   have e1 : ((gt l (k : Int)).at_ + 1) * u.sz = (gt l (k : Int)).at_ * u.sz + u.sz := by rw [Int.add_mul, Int.one_mul]
   have hlb := hu.lb
   have hsh := hu.shp
   simp only [shapeOk] at hsh
   have hv2 := hu.setb (o := ((gt l (k : Int)).at_ * u.sz).toNat) (ys := (gt l (k : Int)).data) (by omega)
   refine GL.step rfl (t_index (i := 0) rfl rfl rfl rfl Tryz.underlying36 sz_59 (by (first | omega | (rw [seg_length (by omega)]; omega) | (dsimp only; rw [seg_length (by omega)]; omega) | (dsimp only; omega))) (gt_ok (by (first | omega | (rw [seg_length (by omega)]; omega) | (dsimp only; rw [seg_length (by omega)]; omega) | (dsimp only; omega))) (by (first | omega | (rw [seg_length (by omega)]; omega) | (dsimp only; rw [seg_length (by omega)]; omega) | (dsimp only; omega))))) (GL.ex fun p_x18 => GL.ex fun r_x18 => GL.and fun ok_x18 => ?_)
   rcases r_x18 with ⟨_, ⟨_, ⟨Ax18_0, cpx18_0⟩⟩⟩
   refine GL.step rfl (t_mem rfl (m_loadPN (i := 0) rfl rfl ag_59 (vs := [_, _, _]) sz_59 ⟨rfl, rfl, rfl, trivial⟩)) ?_; refine GL.step rfl (t_alloc rfl ze_59) (GL.ex fun b_t6 => ?_); refine GL.step rfl (t_storeN (i := 0) rfl rfl rfl sz_59 rfl rfl rfl) ?_
   refine GL.nl_ ?_; refine GC.seq' ?_; refine GC.regionM (m := 7) (M := fun a w => St c 44 [(0, .pointer (some ⟨p, 0, none⟩)), (6, .pointer (some ⟨b_t6, 0, none⟩)), (14, .slice A l.length cp), (15, .int .i64 (l.length : Int)), (16, .int .i64 (k : Int))] [.cells p [.int .i64 u.bl, .int .i64 u.sz, .slice (some ⟨pb, 0, none⟩) (u.bl * u.sz).toNat (u.bl * u.sz).toNat, .slice (some ⟨pv, 0, none⟩) u.bl.toNat u.bl.toNat, .int .i64 u.last] 217, .cells pb ((laid u.b ((gt l (k : Int)).at_ * u.sz).toNat (gt l (k : Int)).data).map u8v) 5, .cells pv (u.vs.map (Value.int .i64)) 3, .cells b_t6 [.int .i64 (gt l (k : Int)).at_, .int .i64 (gt l (k : Int)).ver, .slice Ax18_0 (gt l (k : Int)).data.length cpx18_0] 59] [Pers.row kPage A l] a w) (is := [0, 0, 1]) (js := [0, 1, 2]) wide_ rfl rfl rfl ?_ ?_
   ·refine GA.take 0 rfl (by kernel_rfl) (by kernel_rfl) (by kernel_rfl) rfl (fun a w h => h.mem (is := [0, 0, 1]) (js := [0, 1, 2]) rfl rfl) (i_pure (p_move rfl)) ?_; refine GA.take 1 rfl (by kernel_rfl) (by kernel_rfl) (by kernel_rfl) rfl (fun a w h => h.mem (is := [0, 0, 1]) (js := [0, 1, 2]) rfl rfl) (i_pure (p_fieldAddr fo_59_0 rfl)) ?_
    refine GA.take 2 rfl (by kernel_rfl) (by kernel_rfl) (by kernel_rfl) rfl (fun a w h => h.mem (is := [0, 0, 1]) (js := [0, 1, 2]) rfl rfl) (i_mem (m_load (i := 0) rfl rfl ag_3 rfl)) ?_; refine GA.take 4 rfl (by kernel_rfl) (by kernel_rfl) (by kernel_rfl) rfl (fun a w h => h.mem (is := [0, 0, 1]) (js := [0, 1, 2]) rfl rfl) (i_pure (p_fieldAddr fo_59_2 rfl)) ?_
    refine GA.take 5 rfl (by kernel_rfl) (by kernel_rfl) (by kernel_rfl) rfl (fun a w h => h.mem (is := [0, 0, 1]) (js := [0, 1, 2]) rfl rfl) (i_mem (m_load (i := 0) rfl rfl ag_25 rfl)) ?_; refine GA.all (rs := [3]) (by kernel_rfl) (by simp) ?_
    refine GAs.cons (i := 3) rfl rfl (t_call rfl fn_175 rfl (is := [1, 1, 1]) (js := []) rfl rfl (by exact at_ct _ _ _ u (gt l (k : Int)).at_ 1 hu (by omega) (by omega) (by omega))) (by rintro a w ⟨_, _, _, ⟨rfl, rfl, rfl⟩, h⟩; exact h.mem (is := [3, 0, 1]) (js := [0, 1, 2]) rfl rfl) (GA.ret ?_) ?_
    ·rintro _ _ _ ⟨rfl, rfl, rfl⟩
     refine GA.all (rs := [6]) (by kernel_rfl) (by simp) ?_
     refine GAs.cons (i := 6) rfl rfl (t_copyB (i := 1) (k := 1) rfl rfl rfl rfl rfl Tryz.underlying25 sz_5 (by (first | omega | (rw [seg_length (by omega)]; omega) | (dsimp only; rw [seg_length (by omega)]; omega) | (dsimp only; omega))) (by simp; (first | omega | (rw [seg_length (by omega)]; omega) | (dsimp only; rw [seg_length (by omega)]; omega) | (dsimp only; omega))) (laid_map _ _ _ _).symm rfl) (by rintro a w h; exact h.mem (is := [3, 0, 1]) (js := [0, 1, 2]) rfl rfl) ?_ ?_
     ·exact GA.done (by kernel_rfl) (fun a w h => h.cut (is := [0, 0, 0, 0]) (js := [2]) ⟨rfl, rfl, rfl, rfl, rfl, trivial⟩ rfl rfl)
     exact GAs.nil
    exact GAs.nil
   ·refine (?_ : GC _ _ _ _)
    refine GC.sr_ ?_; refine GL.mv_ rfl rfl ?_; refine GL.pure rfl (p_fieldAddr fo_59_0 rfl) ?_; refine GL.step rfl (t_mem rfl (m_load (i := 3) rfl rfl ag_3 rfl)) ?_; refine GL.pure rfl (p_fieldAddr fo_59_1 rfl) ?_; refine GL.step rfl (t_mem rfl (m_load (i := 3) rfl rfl ag_3 rfl)) ?_
    refine GL.step rfl (t_call rfl fn_176 rfl (is := [0, 0, 0]) (js := []) rfl rfl (by exact stamp_ct _ _ _ _ (gt l (k : Int)).at_ 1 (gt l (k : Int)).ver hv2 (by omega) (by omega) (by show _ ≤ u.bl; omega))) (GL.ret ?_)
    rintro _ _ _ ⟨rfl, rfl, rfl⟩
    refine GL.nl_ ?_; refine GC.regionM (m := 11) (M := fun a w => St c 44 [(0, .pointer (some ⟨p, 0, none⟩)), (14, .slice A l.length cp), (15, .int .i64 (l.length : Int)), (16, .int .i64 (k : Int))] [.cells p [.int .i64 u.bl, .int .i64 u.sz, .slice (some ⟨pb, 0, none⟩) (u.bl * u.sz).toNat (u.bl * u.sz).toNat, .slice (some ⟨pv, 0, none⟩) u.bl.toNat u.bl.toNat, .int .i64 (max u.last (gt l (k : Int)).ver)] 217, .cells pb ((laid u.b ((gt l (k : Int)).at_ * u.sz).toNat (gt l (k : Int)).data).map u8v) 5, .cells pv ((laid u.vs (gt l (k : Int)).at_.toNat [(gt l (k : Int)).ver]).map (Value.int .i64)) 3] [Pers.row kPage A l] a w) (is := [1, 1, 1]) (js := [0]) wide_ rfl rfl rfl ?_ ?_
    ·refine GA.take 0 rfl (by kernel_rfl) (by kernel_rfl) (by kernel_rfl) rfl (fun a w h => h.mem (is := [1, 1, 1]) (js := [0]) rfl rfl) (i_pure (p_move rfl)) ?_; refine GA.take 1 rfl (by kernel_rfl) (by kernel_rfl) (by kernel_rfl) rfl (fun a w h => h.mem (is := [1, 1, 1]) (js := [0]) rfl rfl) (i_pure (p_move rfl)) ?_
     refine GA.take 2 rfl (by kernel_rfl) (by kernel_rfl) (by kernel_rfl) rfl (fun a w h => h.mem (is := [1, 1, 1]) (js := [0]) rfl rfl) (i_pure (p_nilCheck rfl)) ?_; refine GA.take 3 rfl (by kernel_rfl) (by kernel_rfl) (by kernel_rfl) rfl (fun a w h => h.mem (is := [1, 1, 1]) (js := [0]) rfl rfl) (i_pure (p_fieldAddr fo_217_3 rfl)) ?_
     refine GA.take 5 rfl (by kernel_rfl) (by kernel_rfl) (by kernel_rfl) rfl (fun a w h => h.mem (is := [1, 1, 1]) (js := [0]) rfl rfl) (i_pure (p_fieldAddr fo_59_1 rfl)) ?_; refine GA.take 6 rfl (by kernel_rfl) (by kernel_rfl) (by kernel_rfl) rfl (fun a w h => h.mem (is := [1, 1, 1]) (js := [0]) rfl rfl) (i_mem (m_load (i := 2) rfl rfl ag_3 rfl)) ?_
     refine GA.all (rs := [4]) (by kernel_rfl) (by simp) ?_
     refine GAs.cons (i := 4) rfl rfl (t_mem rfl (m_load (i := 0) rfl rfl ag_3 rfl)) (by rintro a w h; exact h.mem (is := [1, 1, 1]) (js := [0]) rfl rfl) ?_ ?_
     ·refine GA.take 7 rfl (by kernel_rfl) (by kernel_rfl) (by kernel_rfl) rfl (fun a w h => h.mem (is := [1, 1, 1]) (js := [0]) rfl rfl) (i_pure (p_max2 rfl rfl)) ?_; refine GA.take 8 rfl (by kernel_rfl) (by kernel_rfl) (by kernel_rfl) rfl (fun a w h => h.mem (is := [1, 1, 1]) (js := [0]) rfl rfl) (i_pure (p_nilCheck rfl)) ?_
      refine GA.take 9 rfl (by kernel_rfl) (by kernel_rfl) (by kernel_rfl) rfl (fun a w h => h.mem (is := [1, 1, 1]) (js := [0]) rfl rfl) (i_pure (p_fieldAddr fo_217_3 rfl)) ?_; refine GA.all (rs := [10]) (by kernel_rfl) (by simp) ?_
      refine GAs.cons (i := 10) rfl rfl (t_store (i := 0) rfl rfl rfl rfl sz_3 rfl rfl rfl) (by rintro a w h; exact h.mem (is := [1, 1, 1]) (js := [0]) rfl rfl) ?_ ?_
      ·exact GA.done (by kernel_rfl) (fun a w h => h.cut (is := [0, 0, 0]) (js := [0]) ⟨rfl, rfl, rfl, rfl, trivial⟩ rfl rfl)
      exact GAs.nil
     exact GAs.nil
    ·refine (?_ : GC _ _ _ _)
     refine GC.region ?_; refine GL.pure rfl (p_add rfl rfl (w64 (by (first | omega | (rw [seg_length (by omega)]; omega) | (dsimp only; rw [seg_length (by omega)]; omega) | (dsimp only; omega))) (by (first | omega | (rw [seg_length (by omega)]; omega) | (dsimp only; rw [seg_length (by omega)]; omega) | (dsimp only; omega))))) ?_
     refine GL.mv_ rfl rfl ?_; refine GL.nil ?_
     exact fun a w h => ⟨(k + 1, put1 u (gt l (k : Int))), (by simp only; omega), ⟨by simp only; omega, putF_step (by omega) hput, put1_ok hu hp2, hbl, hsz⟩, h.cut (is := [0, 0, 0]) (js := [0]) ⟨rfl, rfl, rfl, rfl, trivial⟩ rfl rfl⟩
  ·try simp only [tst_] at h2
   refine GC.exit (?_ : GC _ _ _ _)
   refine GC.sr_ ?_; refine GL.as_ rfl rfl ?_; refine GL.nl_ ?_; refine GC.ret ?_
   refine fun a w h => Fin.back (rs := [.tmp 4]) (vs := [_]) (is := [0, 0, 0]) (js := []) rfl ⟨rfl, trivial⟩ rfl rfl ?_ h
   clear h
   have e : patchF v l = (0, u) := by rw [List.drop_of_length_le (by omega)] at hput; simp only [patchF, h1, if_true]; rw [hput]; rfl
   rw [e]; exact ⟨rfl, rfl, rfl⟩
end Go.Proofs.YtdhdmbmknpjhbaaGreat
namespace Go.Proofs.YtdhdmbmknpjhbaaGreat
open Go Go.Sx Go.Proofs
def loadV (bl sz : Int) (l : List Page) : Vol := putF (newV bl sz) l
theorem patch_yes {bl sz : Int} {l : List Page} (hl : laidF bl sz (-1) l = true) : patchF (newV bl sz) l = (0, loadV bl sz l) := by
  unfold patchF; rw [if_pos (show laidF (newV bl sz).bl (newV bl sz).sz (-1) l = true from hl)]; rfl
theorem patch_no {v : Vol} {l : List Page} (hl : laidF v.bl v.sz (-1) l = false) : patchF v l = (50, v) := by
  unfold patchF; rw [if_neg (by rw [hl]; simp)]
theorem patch_eq (p pb pv : Nat) (v : Vol) (A : Option Addr) (l : List Page) (cp : Nat) (hv : VolOk v) (hl : l.length ≤ 140737488355328) (e : Int) (v' : Vol) (h : patchF v l = (e, v')) : Ct Tryz.prog 163 [.pointer (some ⟨p, 0, none⟩), .slice A l.length cp] (volG p pb pv v) [Pers.row kPage A l]
    (fun u G Q => u = .int .i64 e ∧ G = volG p pb pv v' ∧ Q = []) := by
  have := patch_ct p pb pv v A l cp hv hl
  rw [h] at this; exact this
theorem load_bad (bl sz : Int) (A : Option Addr) (l : List Page) (cp : Nat) (h : ¬ shapeOk bl sz) : Ct Tryz.prog 145 [shpV bl sz, .slice A l.length cp] [] [Pers.row kPage A l] (fun v G Q => v = .tuple #[.pointer none, .int .i64 40] ∧ G = [] ∧ Q = []) := by
 refine Ct.intro Tryz.func145 rfl rfl rfl (fun c hc => ?_)
 refine GC.sr_ ?_; refine GL.step rfl (t_box rfl rfl rfl) (GL.ex fun b_t2 => ?_)
 iterate 2 refine GL.as_ rfl rfl ?_
 refine GL.nl_ ?_; refine GC.sr_ ?_; refine GL.step rfl (t_mem rfl (m_loadN (i := 0) rfl rfl ag_35 (vs := [_, _]) sz_35 ⟨rfl, rfl, trivial⟩)) ?_; refine GL.step rfl (t_call rfl fn_162 rfl (is := []) (js := []) rfl rfl (by exact new_bad _ _ h)) (GL.ret ?_)
 rintro _ _ _ ⟨rfl, rfl, rfl⟩
 refine GL.mv_ rfl rfl ?_
 iterate 2 refine GL.pure rfl (p_extract rfl rfl) ?_
 iterate 2 refine GL.as_ rfl rfl ?_
 refine GL.nl_ ?_; refine GC.seq' ?_; refine GC.sr_ ?_; refine GL.mv_ rfl rfl ?_; refine GL.pure rfl (p_eql rfl rfl) ?_; refine GL.nl_ ?_; refine GC.cond_false rfl ?_
 refine GC.skip (?_ : GC _ _ _ _)
 refine GC.seq' ?_; refine GC.sr_ ?_; refine GL.mv_ rfl rfl ?_; refine GL.pure rfl (p_neq rfl rfl) ?_; refine GL.nl_ ?_; refine GC.cond_true rfl ?_; refine GC.sr_ ?_; refine GL.mv_ rfl rfl ?_
 iterate 2 refine GL.as_ rfl rfl ?_
 refine GL.nl_ ?_; refine GC.ret ?_
 refine fun a w h => Fin.back (rs := [.tmp 4, .tmp 5]) (vs := [_, _]) (is := []) (js := []) rfl ⟨rfl, rfl, trivial⟩ rfl rfl ?_ h
 clear h
 exact ⟨rfl, rfl, rfl⟩
theorem load_no (bl sz : Int) (A : Option Addr) (l : List Page) (cp : Nat) (h : shapeOk bl sz) (hl : l.length ≤ 140737488355328) (hn : laidF bl sz (-1) l = false) : Ct Tryz.prog 145 [shpV bl sz, .slice A l.length cp] [] [Pers.row kPage A l] (fun v G Q => v = .tuple #[.pointer none, .int .i64 50] ∧ G = [] ∧ Q = []) := by
 refine Ct.intro Tryz.func145 rfl rfl rfl (fun c hc => ?_)
 refine GC.sr_ ?_; refine GL.step rfl (t_box rfl rfl rfl) (GL.ex fun b_t2 => ?_)
 iterate 2 refine GL.as_ rfl rfl ?_
 refine GL.nl_ ?_; refine GC.sr_ ?_; refine GL.step rfl (t_mem rfl (m_loadN (i := 0) rfl rfl ag_35 (vs := [_, _]) sz_35 ⟨rfl, rfl, trivial⟩)) ?_; refine GL.step rfl (t_call rfl fn_162 rfl (is := []) (js := []) rfl rfl (by exact new_ok _ _ h)) (GL.ret ?_)
 rintro _ _ _ ⟨p10, pb10, pv10, rfl, rfl, rfl⟩
 refine GL.mv_ rfl rfl ?_
 iterate 2 refine GL.pure rfl (p_extract rfl rfl) ?_
 iterate 2 refine GL.as_ rfl rfl ?_
 refine GL.nl_ ?_; refine GC.seq' ?_; refine GC.sr_ ?_; refine GL.mv_ rfl rfl ?_; refine GL.pure rfl (p_eql rfl rfl) ?_; refine GL.nl_ ?_; refine GC.cond_true rfl ?_; refine GC.region ?_
 iterate 2 refine GL.mv_ rfl rfl ?_
 refine GL.step rfl (t_call rfl fn_163 rfl (is := [0, 0, 0]) (js := [0]) rfl rfl (by exact patch_eq _ _ _ (newV bl sz) _ _ _ (newV_ok h) hl _ _ (patch_no hn))) (GL.ret ?_)
 rintro _ _ _ ⟨rfl, rfl, rfl⟩
 refine GL.as_ rfl rfl ?_
 refine GL.nil (?_ : GC _ _ _ _)
 refine GC.seq' ?_; refine GC.sr_ ?_; refine GL.mv_ rfl rfl ?_; refine GL.pure rfl (p_neq rfl rfl) ?_; refine GL.nl_ ?_; refine GC.cond_true rfl ?_; refine GC.sr_ ?_; refine GL.mv_ rfl rfl ?_
 iterate 2 refine GL.as_ rfl rfl ?_
 refine GL.nl_ ?_; refine GC.ret ?_
 refine fun a w h => Fin.back (rs := [.tmp 4, .tmp 5]) (vs := [_, _]) (is := []) (js := []) rfl ⟨rfl, rfl, trivial⟩ rfl rfl ?_ h
 clear h
 exact ⟨rfl, rfl, rfl⟩
theorem load_ok (bl sz : Int) (A : Option Addr) (l : List Page) (cp : Nat) (h : shapeOk bl sz) (hl : l.length ≤ 140737488355328) (hn : laidF bl sz (-1) l = true) : Ct Tryz.prog 145 [shpV bl sz, .slice A l.length cp] [] [Pers.row kPage A l] (fun v G Q => ∃ p pb pv, v = .tuple #[.pointer (some ⟨p, 0, none⟩), .int .i64 0] ∧ G = volG p pb pv (loadV bl sz l) ∧ Q = []) := by
 refine Ct.intro Tryz.func145 rfl rfl rfl (fun c hc => ?_)
 refine GC.sr_ ?_; refine GL.step rfl (t_box rfl rfl rfl) (GL.ex fun b_t2 => ?_)
 iterate 2 refine GL.as_ rfl rfl ?_
 refine GL.nl_ ?_; refine GC.sr_ ?_; refine GL.step rfl (t_mem rfl (m_loadN (i := 0) rfl rfl ag_35 (vs := [_, _]) sz_35 ⟨rfl, rfl, trivial⟩)) ?_; refine GL.step rfl (t_call rfl fn_162 rfl (is := []) (js := []) rfl rfl (by exact new_ok _ _ h)) (GL.ret ?_)
 rintro _ _ _ ⟨p10, pb10, pv10, rfl, rfl, rfl⟩
 refine GL.mv_ rfl rfl ?_
 iterate 2 refine GL.pure rfl (p_extract rfl rfl) ?_
 iterate 2 refine GL.as_ rfl rfl ?_
 refine GL.nl_ ?_; refine GC.seq' ?_; refine GC.sr_ ?_; refine GL.mv_ rfl rfl ?_; refine GL.pure rfl (p_eql rfl rfl) ?_; refine GL.nl_ ?_; refine GC.cond_true rfl ?_; refine GC.region ?_
 iterate 2 refine GL.mv_ rfl rfl ?_
 refine GL.step rfl (t_call rfl fn_163 rfl (is := [0, 0, 0]) (js := [0]) rfl rfl (by exact patch_eq _ _ _ (newV bl sz) _ _ _ (newV_ok h) hl _ _ (patch_yes hn))) (GL.ret ?_)
 rintro _ _ _ ⟨rfl, rfl, rfl⟩
 refine GL.as_ rfl rfl ?_
 refine GL.nil (?_ : GC _ _ _ _)
 refine GC.seq' ?_; refine GC.sr_ ?_; refine GL.mv_ rfl rfl ?_; refine GL.pure rfl (p_neq rfl rfl) ?_; refine GL.nl_ ?_; refine GC.cond_false rfl ?_
 refine GC.skip (?_ : GC _ _ _ _)
 refine GC.sr_ ?_; refine GL.mv_ rfl rfl ?_
 iterate 2 refine GL.as_ rfl rfl ?_
 refine GL.nl_ ?_; refine GC.ret ?_
 refine fun a w h => Fin.back (rs := [.tmp 4, .tmp 5]) (vs := [_, _]) (is := [0, 0, 0]) (js := []) rfl ⟨rfl, rfl, trivial⟩ rfl rfl ?_ h
 clear h
 exact ⟨_, _, _, rfl, rfl, rfl⟩
end Go.Proofs.YtdhdmbmknpjhbaaGreat
namespace Go.Sx
open Go
abbrev w32 (x : BitVec 32) : Value := .int .u32 (x.toNat : Int)
theorem wrap32 (x : BitVec 32) : IntKind.u32.wrap (x.toNat : Int) = (x.toNat : Int) := by
  have := x.isLt
  simp [IntKind.wrap, IntKind.bits, IntKind.signed]
  omega
theorem ofInt32 (x : BitVec 32) : BitVec.ofInt 32 (x.toNat : Int) = x := by
  apply BitVec.eq_of_toNat_eq
  have := x.isLt
  rw [BitVec.toNat_ofInt]
  omega
theorem xor32 (a b : BitVec 32) : IntKind.u32.wrap ((BitVec.ofInt IntKind.u32.bits (a.toNat : Int) ^^^ BitVec.ofInt IntKind.u32.bits (b.toNat : Int)).toNat : Int) = ((a ^^^ b).toNat : Int) := by
  show IntKind.u32.wrap ((BitVec.ofInt 32 (a.toNat : Int) ^^^ BitVec.ofInt 32 (b.toNat : Int)).toNat : Int) = _
  rw [ofInt32, ofInt32, wrap32]
theorem and32 (a b : BitVec 32) : IntKind.u32.wrap ((BitVec.ofInt IntKind.u32.bits (a.toNat : Int) &&& BitVec.ofInt IntKind.u32.bits (b.toNat : Int)).toNat : Int) = ((a &&& b).toNat : Int) := by
  show IntKind.u32.wrap ((BitVec.ofInt 32 (a.toNat : Int) &&& BitVec.ofInt 32 (b.toNat : Int)).toNat : Int) = _
  rw [ofInt32, ofInt32, wrap32]
theorem com32 (a : BitVec 32) : IntKind.u32.wrap ((BitVec.ofInt IntKind.u32.bits IntKind.u32.max ^^^ BitVec.ofInt IntKind.u32.bits (a.toNat : Int)).toNat : Int) = ((~~~ a).toNat : Int) := by
  show IntKind.u32.wrap ((BitVec.ofInt 32 IntKind.u32.max ^^^ BitVec.ofInt 32 (a.toNat : Int)).toNat : Int) = _
  rw [ofInt32, show BitVec.ofInt 32 IntKind.u32.max = BitVec.allOnes 32 by decide, BitVec.allOnes_xor, wrap32]
end Go.Sx
namespace Go.Sx
open Go
section
variable {P : Program} {c : Cx} {n : Nat} {env : List (Nat × Value)} {d : Nat} {ty : TypeId} {pos : String} {aft : Array Edge} {g : Option (Nat × Bool)} {x y : Operand} {t u : TypeId}
theorem p_xor32 {a b : BitVec 32} (hx : ev env x = some (w32 a)) (hy : ev env y = some (w32 b)) : Pv P n env ⟨some d, .binOp .xor t x y u, ty, pos, aft, g⟩ (w32 (a ^^^ b)) := by
  have := p_xor (P := P) (n := n) (d := d) (ty := ty) (pos := pos) (aft := aft) (g := g) (t := t) (u := u) hx hy
  rw [xor32] at this
  exact this
theorem p_and32 {a b : BitVec 32} (hx : ev env x = some (w32 a)) (hy : ev env y = some (w32 b)) : Pv P n env ⟨some d, .binOp .and t x y u, ty, pos, aft, g⟩ (w32 (a &&& b)) := by
  have := p_and (P := P) (n := n) (d := d) (ty := ty) (pos := pos) (aft := aft) (g := g) (t := t) (u := u) hx hy
  rw [and32] at this
  exact this
theorem p_shr32 {a : BitVec 32} {yk : IntKind} (k : Nat) (hk : k ≤ 32) (hx : ev env x = some (w32 a)) (hy : ev env y = some (.int yk (k : Int))) : Pv P n env ⟨some d, .binOp .shr t x y u, ty, pos, aft, g⟩ (w32 (a >>> k)) := by
  have := p_shr (P := P) (n := n) (d := d) (ty := ty) (pos := pos) (aft := aft) (g := g) (t := t) (u := u) hx hy (by omega)
  have e : (a.toNat : Int).fdiv (2 ^ (min ((k : Int)).toNat IntKind.u32.bits)) = ((a >>> k).toNat : Int) := by
    have h1 : min ((k : Int)).toNat IntKind.u32.bits = k := by show min k 32 = k; omega
    rw [h1, Int.fdiv_eq_ediv_of_nonneg _ (by exact Int.pow_nonneg (by decide)), BitVec.toNat_ushiftRight, Nat.shiftRight_eq_div_pow]
    simp
  rw [e] at this
  exact this
theorem p_com32 {a : BitVec 32} (hx : ev env x = some (w32 a)) : Pv P n env ⟨some d, .unOp .xor t x, ty, pos, aft, g⟩ (w32 (~~~ a)) := fun act w he => by
  have e := com32 a
  simp only [execOp, he.eval hx, Op.unary, Op.intBits, Sem.run_bind, Sem.run_pure, Result.andThen_ok]
  rw [if_neg (show ¬ IntKind.u32.signed = true by decide)]
  exact congrArg (fun z => Result.ok (Next.value (Value.int .u32 z)) w) e
theorem p_conv8 {b : UInt8} (ht : P.underlying t ≠ none) (hu : P.underlying u = some (.int .u32)) (hx : ev env x = some (.int .u8 (b.toNat : Int))) : Pv P n env ⟨some d, .convert t u x, ty, pos, aft, g⟩ (w32 (b.toBitVec.zeroExtend 32)) := by
  have := p_conv (P := P) (n := n) (d := d) (ty := ty) (pos := pos) (aft := aft) (g := g) (t := t) (u := u) ht hu hx
  have e : IntKind.u32.wrap (b.toNat : Int) = ((b.toBitVec.zeroExtend 32).toNat : Int) := by
    have hb := b.toNat_lt
    have h2 : (b.toBitVec.zeroExtend 32).toNat = b.toNat := by
      simp
    rw [← wrap32, h2]
  rw [e] at this
  exact this
theorem p_half32 {a : BitVec 32} (hx : ev env x = some (w32 a)) (hy : ev env y = some (.int .u32 2)) : Pv P n env ⟨some d, .binOp .quo t x y u, ty, pos, aft, g⟩ (w32 (a >>> 1)) :=
  p_quo hx hy (by decide) (by
    have e : (a.toNat : Int).tdiv 2 = ((a >>> 1).toNat : Int) := by
      rw [BitVec.toNat_ushiftRight, Nat.shiftRight_eq_div_pow, Int.tdiv_eq_ediv_of_nonneg (by omega)]
      simp
    rw [e, wrap32])
theorem odd32 (a : BitVec 32) : ((a.toNat : Int).tmod 2 = 1) ↔ a.getLsbD 0 = true := by
  rw [Int.tmod_eq_emod_of_nonneg (by omega), ← BitVec.testBit_toNat, Nat.testBit_zero, decide_eq_true_eq]
  omega
theorem p_buildA {len sz : Nat} {e : TypeId} {ps : List (Nat × Operand)} {z l : List Value} {parts : List (Nat × Value)} (ht : P.underlying t = some (.array len e)) (hs : sizeB P e = some sz) (hz : zeroL P t = some z) (hp : evP env ps = some parts) (hf : fillF (fun i => some (i * sz, sz)) z parts = some l) :
    Pv P n env ⟨some d, .build t ps.toArray, ty, pos, aft, g⟩ (.agg l.toArray) := fun a w he => by
  have hpm : (ps.toArray.map fun (p : Nat × Operand) => (p.1, a.eval p.2)) = parts.toArray := by rw [List.map_toArray, he.evPs hp]
  obtain ⟨zv, hzv, hzz⟩ := Option.map_eq_some_iff.1 hz
  have hcells : zv.cells = z.toArray := by rw [← hzz, ← vcells_eq]
  have hfill := fill_fillF (fun i => some (i * sz, sz)) parts z l hf
  simp only [execOp, hpm, Instr.build, Sem.run_bind, run_zeroB hzv, Result.andThen_ok, run_underlying ht, run_sizeB hs, hcells, hfill, Sem.run_pure]
theorem p_indexV {len sz : Nat} {e : TypeId} {k : IntKind} {m : Int} {l : List Value} {v : Value} (hx : ev env x = some (.agg l.toArray)) (hy : ev env y = some (.int k m)) (ht : P.underlying t = some (.array len e)) (hs : sizeB P e = some sz) (hg : aggB P e = some false) (h0 : 0 ≤ m) (h1 : m < len) (hv : nth l (m.toNat * sz) = some v) :
    Pv P n env ⟨some d, .index t x y, ty, pos, aft, g⟩ v := fun a w he => by
  simp only [execOp, he.eval hx, he.eval hy, Instr.index, asIntOf, Sem.run_bind, Sem.run_pure, Result.andThen_ok, run_underlying ht, if_pos (show 0 ≤ m ∧ m < (len : Int) from ⟨h0, h1⟩), run_sizeB hs, part_one hg hv]
end
end Go.Sx
namespace Go.Sx
open Go
def kept (env : List (Nat × Value)) : List Nat → Option (List (Nat × Value))
  | [] => some []
  | i :: is => match look env i, kept env is with
    | some v, some r => some ((i, v) :: r)
    | _, _ => none
theorem kept_sub {env : List (Nat × Value)} : ∀ {is : List Nat} {e : List (Nat × Value)}, kept env is = some e → sub env e
  | [], e, h => by simp only [kept, Option.some.injEq] at h; subst h; trivial
  | i :: is, e, h => by
    simp only [kept] at h
    split at h
    · rename_i v r h1 h2
      simp only [Option.some.injEq] at h
      subst h
      exact ⟨h1, kept_sub h2⟩
    · cases h
theorem sub_app {env : List (Nat × Value)} : ∀ {a b : List (Nat × Value)}, sub env a → sub env b → sub env (a ++ b)
  | [], b, _, h => h
  | (i, v) :: r, b, ⟨h1, h2⟩, h => ⟨h1, sub_app h2 h⟩
end Go.Sx
namespace Go.Sx
open Go
section
variable {P : Program} {c : Cx} {n : Nat} {env env' envK E : List (Nat × Value)} {G G' Gr GK : List Own} {Q Q' QK : List Pers} {a : Act} {w : World}
theorem St.cutK {is js ks : List Nat} (h : St c n env G Q a w) (hs : Sx.sub env E) (hk : kept env ks = some envK) (hsel : sel G is = some (G', Gr)) (hq : pickQ Q js = some Q') : St c n (E ++ envK) G' Q' a w :=
  h.cut (sub_app hs (kept_sub hk)) hsel hq
theorem GC.regionC {R : Exit → Asr} {id m : Nat} {l : List Oper} {is js : List Nat} {GI : List Own} {QI : List Pers} (hm : P.follows .mixedOrders = true) (hsz : l.length = m) (hsel : sel G is = some (GI, Gr)) (hq : pickQ Q js = some QI) (h : GA P l.toArray (R .normal) (Mem c GI QI) m (Array.replicate m false) (St c n env G Q)) : GC P R (.region id l.toArray true) (St c n env G Q) :=
  GC.regionM hm hsz hsel hq h fun _ _ h => h
theorem GA.retL {ops : Array Oper} {M : Asr} {I : World → Prop} {fuel : Nat} {listed : Array Bool} {F : Value → List Own → List Pers → Prop} {Z : Value → List Own → Asr} (k : ∀ v G2, F v G2 [] → GA P ops M I fuel listed (Z v G2)) : GA P ops M I fuel listed (fun a w => ∃ v G2, F v G2 [] ∧ Z v G2 a w) := fun a w ⟨v, G2, hF, hZ⟩ => k v G2 hF a w hZ
theorem GC.layQ {α : Type} {kd : Kd α} {R : Exit → Asr} {cd : Code} {y : Operand} {j : Nat} {k : IntKind} {m : Int} {A : Option Addr} {xs : List α} {z : α} (hy : ev env y = some (.int k m)) (hj : nthO Q j = some (Pers.row kd A xs)) (h0 : 0 ≤ m) (hz : xs[m.toNat]? = some z)
    (kk : ∀ p r, A = some p → kd.ok z r → GC P R cd (St c n env G (Pers.at (p.add (m.toNat * kd.sz)) (kd.cells z r) :: (kd.pers z r ++ Q)))) : GC P R cd (St c n env G Q) :=
  GC.lay (x := .const (.slice A xs.length 0)) (y := y) rfl hy hj h0 hz kk
end
end Go.Sx
namespace Go.Sx
open Go
section
variable {P : Program} {c : Cx} {n : Nat} {env env' envK E : List (Nat × Value)} {G G' Gr GK : List Own} {Q Q' QK : List Pers} {a : Act} {w : World}
section
variable {ops : Array Oper} {M A B : Asr} {I : World → Prop} {fuel : Nat} {listed : Array Bool}
theorem GA.st (h : ∀ a w, St c n env G Q a w → St c n env' G' Q' a w) (k : GA P ops M I fuel listed (St c n env' G' Q')) : GA P ops M I fuel listed (St c n env G Q) := GA.imp h k
end
end
end Go.Sx
namespace Go.Sx
open Go
section
variable {P : Program} {c : Cx} {n : Nat} {env env' envK E : List (Nat × Value)} {G G' Gr GK : List Own} {Q Q' QK : List Pers} {a : Act} {w : World}
theorem GC.post {x : Code} {R R' : Exit → Asr} {A : Asr} (h : GC P R x A) (hr : ∀ e a w, R e a w → R' e a w) : GC P R' x A := fun a w ha => Code.wp_mono (fun e a w he => hr e a w he) (h a w ha)
theorem Exit.then_mono {M M' : Asr} {R : Exit → Asr} (h : ∀ a w, M a w → M' a w) : ∀ e a w, Exit.then M R e a w → Exit.then M' R e a w := by
  intro e a w he
  cases e <;> first | exact h a w he | exact he
end
end Go.Sx
namespace Go.Sx
open Go
section
variable {P : Program} {c : Cx} {n : Nat} {env env' envK E : List (Nat × Value)} {G G' Gr GK : List Own} {Q Q' QK : List Pers} {a : Act} {w : World}
section
variable {α β γ δ ε ζ η θ : Type} {x : Code} {R : Exit → Asr} {ks is js : List Nat}
theorem GC.loopK1 (φ : α → Prop) (F : α → List (Nat × Value)) (GF : α → List Own) (QF : α → List Pers) (μ : α → Nat) (y : α) (hK : kept env ks = some envK) (hG : pickQ G is = some GK) (hQ : pickQ Q js = some QK)
    (h0 : ∀ a w, St c n env G Q a w → φ y ∧ St c n (F y ++ envK) (GF y ++ GK) (QF y ++ QK) a w)
    (h : ∀ y, φ y → GC P (Exit.then (fun a w => ∃ z, μ z < μ y ∧ φ z ∧ St c n (F z ++ envK) (GF z ++ GK) (QF z ++ QK) a w) R) x (St c n (F y ++ envK) (GF y ++ GK) (QF y ++ QK))) : GC P R (.loop x) (St c n env G Q) :=
  GC.imp h0 (GC.loop (fun y a w => φ y ∧ St c n (F y ++ envK) (GF y ++ GK) (QF y ++ QK) a w) μ y fun y => GC.and fun hy => h y hy)
theorem GC.loopK2 (φ : α → β → Prop) (F : α → β → List (Nat × Value)) (GF : α → β → List Own) (QF : α → β → List Pers) (μ : α → β → Nat) (y1 : α) (y2 : β) (hK : kept env ks = some envK) (hG : pickQ G is = some GK) (hQ : pickQ Q js = some QK)
    (h0 : ∀ a w, St c n env G Q a w → φ y1 y2 ∧ St c n (F y1 y2 ++ envK) (GF y1 y2 ++ GK) (QF y1 y2 ++ QK) a w)
    (h : ∀ y1 y2, φ y1 y2 → GC P (Exit.then (fun a w => ∃ z1 z2, μ z1 z2 < μ y1 y2 ∧ φ z1 z2 ∧ St c n (F z1 z2 ++ envK) (GF z1 z2 ++ GK) (QF z1 z2 ++ QK) a w) R) x (St c n (F y1 y2 ++ envK) (GF y1 y2 ++ GK) (QF y1 y2 ++ QK))) : GC P R (.loop x) (St c n env G Q) :=
  GC.loopK1 (fun y : α × β => φ y.1 y.2) (fun y => F y.1 y.2) (fun y => GF y.1 y.2) (fun y => QF y.1 y.2) (fun y => μ y.1 y.2) (y1, y2) hK hG hQ h0 fun y hy => GC.post (h y.1 y.2 hy) (Exit.then_mono fun a w ⟨z1, z2, hz⟩ => ⟨(z1, z2), hz⟩)
theorem GC.loopK3 (φ : α → β → γ → Prop) (F : α → β → γ → List (Nat × Value)) (GF : α → β → γ → List Own) (QF : α → β → γ → List Pers) (μ : α → β → γ → Nat) (y1 : α) (y2 : β) (y3 : γ) (hK : kept env ks = some envK) (hG : pickQ G is = some GK) (hQ : pickQ Q js = some QK)
    (h0 : ∀ a w, St c n env G Q a w → φ y1 y2 y3 ∧ St c n (F y1 y2 y3 ++ envK) (GF y1 y2 y3 ++ GK) (QF y1 y2 y3 ++ QK) a w)
    (h : ∀ y1 y2 y3, φ y1 y2 y3 → GC P (Exit.then (fun a w => ∃ z1 z2 z3, μ z1 z2 z3 < μ y1 y2 y3 ∧ φ z1 z2 z3 ∧ St c n (F z1 z2 z3 ++ envK) (GF z1 z2 z3 ++ GK) (QF z1 z2 z3 ++ QK) a w) R) x (St c n (F y1 y2 y3 ++ envK) (GF y1 y2 y3 ++ GK) (QF y1 y2 y3 ++ QK))) : GC P R (.loop x) (St c n env G Q) :=
  GC.loopK2 (fun (y : α × β) z => φ y.1 y.2 z) (fun y => F y.1 y.2) (fun y => GF y.1 y.2) (fun y => QF y.1 y.2) (fun y => μ y.1 y.2) (y1, y2) y3 hK hG hQ h0 fun y y3 hy => GC.post (h y.1 y.2 y3 hy) (Exit.then_mono fun a w ⟨z1, z2, z3, hz⟩ => ⟨(z1, z2), z3, hz⟩)
end
end
end Go.Sx
namespace Go.Proofs.YtdhdmbmknpjhbaaGreat
open Go Go.Sx Go.Proofs
def poly : BitVec 32 := 0x82f63b78#32
def stepB (s : BitVec 32) : BitVec 32 := if s.getLsbD 0 = true then (s >>> 1) ^^^ poly else s >>> 1
def nibT : List (BitVec 32) := [0x00000000#32, 0x105ec76f#32, 0x20bd8ede#32, 0x30e349b1#32, 0x417b1dbc#32, 0x5125dad3#32, 0x61c69362#32, 0x7198540d#32, 0x82f63b78#32, 0x92a8fc17#32, 0xa24bb5a6#32, 0xb21572c9#32, 0xc38d26c4#32, 0xd3d3e1ab#32, 0xe330a81a#32, 0xf36e6f75#32]
def nibB (i : BitVec 32) : BitVec 32 := nibT.getD i.toNat 0
theorem stepB_xor (a b : BitVec 32) : stepB (a ^^^ b) = stepB a ^^^ stepB b := by
  unfold stepB
  rw [BitVec.getLsbD_xor, BitVec.ushiftRight_xor_distrib]
  have e : ∀ x : BitVec 32, poly ^^^ (x ^^^ poly) = x := fun x => by rw [BitVec.xor_comm x, ← BitVec.xor_assoc, BitVec.xor_self, BitVec.zero_xor]
  cases a.getLsbD 0 <;> cases b.getLsbD 0
  · simp
  · simp [BitVec.xor_assoc]
  · simp only [Bool.xor_false, if_true, Bool.false_eq_true, if_false]
    rw [BitVec.xor_assoc, BitVec.xor_assoc, BitVec.xor_comm poly]
  · simp only [Bool.xor_true, Bool.not_true, Bool.false_eq_true, if_false, if_true]
    rw [BitVec.xor_assoc, e]
theorem stepB_even {t : BitVec 32} (k : Nat) (h : t.toNat < 2 ^ (32 - (k + 1))) : stepB (t <<< (k + 1)) = t <<< k := by
  have h0 : (t <<< (k + 1)).getLsbD 0 = false := by simp
  unfold stepB
  rw [h0]
  simp only [Bool.false_eq_true, if_false]
  apply BitVec.eq_of_toNat_eq
  have hk : k + 1 ≤ 32 ∨ 32 < k + 1 := by omega
  rw [BitVec.toNat_ushiftRight, BitVec.toNat_shiftLeft, BitVec.toNat_shiftLeft, Nat.shiftLeft_eq, Nat.shiftLeft_eq, Nat.shiftRight_eq_div_pow]
  rcases hk with hk | hk
  · have hp : 2 ^ (32 - (k + 1)) * 2 ^ (k + 1) = 2 ^ 32 := by rw [← Nat.pow_add]; congr 1; omega
    have h1 : t.toNat * 2 ^ (k + 1) < 2 ^ 32 := by rw [← hp]; exact Nat.mul_lt_mul_of_pos_right h (Nat.pow_pos (by decide))
    have h2 : t.toNat * 2 ^ k < 2 ^ 32 := by
      refine Nat.lt_of_le_of_lt (Nat.mul_le_mul_left _ ?_) h1
      exact Nat.pow_le_pow_right (by decide) (by omega)
    rw [Nat.mod_eq_of_lt h1, Nat.mod_eq_of_lt h2, Nat.pow_succ, ← Nat.mul_assoc]
    simp
  · have : t.toNat = 0 := by
      rw [show 32 - (k + 1) = 0 by omega] at h
      omega
    rw [this]; simp
theorem nib16 : ∀ l : BitVec 4, stepB (stepB (stepB (stepB (l.zeroExtend 32)))) = nibB (l.zeroExtend 32) := by decide +kernel
theorem nib_step (s : BitVec 32) : (s >>> 4) ^^^ nibB (s &&& 15#32) = stepB (stepB (stepB (stepB s))) := by
  have hs : s = ((s >>> 4) <<< 4) ^^^ (s &&& 15#32) := by
    apply BitVec.eq_of_getLsbD_eq
    intro i hi
    rw [BitVec.getLsbD_xor, BitVec.getLsbD_shiftLeft, BitVec.getLsbD_ushiftRight, BitVec.getLsbD_and]
    by_cases h4 : i < 4
    · have : (15#32).getLsbD i = true := by
        rcases (show i = 0 ∨ i = 1 ∨ i = 2 ∨ i = 3 by omega) with rfl | rfl | rfl | rfl <;> decide
      simp [h4, this]
    · have : (15#32).getLsbD i = false := by
        have : (15#32).toNat < 2 ^ 4 := by decide
        rw [← BitVec.testBit_toNat]
        exact Nat.testBit_lt_two_pow (Nat.lt_of_lt_of_le this (Nat.pow_le_pow_right (by decide) (by omega)))
      rw [this, Bool.and_false, Bool.xor_false, show 4 + (i - 4) = i by omega]
      simp [h4, hi]
  have ht : (s >>> 4).toNat < 2 ^ 28 := by
    rw [BitVec.toNat_ushiftRight, Nat.shiftRight_eq_div_pow]
    have := s.isLt
    omega
  have e4 : stepB (stepB (stepB (stepB ((s >>> 4) <<< 4)))) = s >>> 4 := by
    rw [stepB_even 3 ht, stepB_even 2 (Nat.lt_of_lt_of_le ht (by decide)), stepB_even 1 (Nat.lt_of_lt_of_le ht (by decide)), stepB_even 0 (Nat.lt_of_lt_of_le ht (by decide)), BitVec.shiftLeft_zero]
  have el : s &&& 15#32 = ((s.truncate 4 : BitVec 4)).zeroExtend 32 := by
    apply BitVec.eq_of_toNat_eq
    simp
    have : s.toNat &&& 15 = s.toNat % 2 ^ 4 := Nat.and_two_pow_sub_one_eq_mod s.toNat 4
    omega
  conv => rhs; rw [hs]
  rw [stepB_xor, stepB_xor, stepB_xor, stepB_xor, e4, el, nib16]
end Go.Proofs.YtdhdmbmknpjhbaaGreat
namespace Go.Proofs.YtdhdmbmknpjhbaaGreat
open Go Go.Sx Go.Proofs
def byteB (s : BitVec 32) (b : UInt8) : BitVec 32 := stepB (stepB (stepB (stepB (stepB (stepB (stepB (stepB (s ^^^ b.toBitVec.zeroExtend 32))))))))
def moreB (s : BitVec 32) (b : List UInt8) : BitVec 32 := ~~~ (b.foldl byteB (~~~ s))
theorem step32_ct (s : BitVec 32) : Ct Tryz.prog 161 [w32 s] [] [] (fun u G Q => u = w32 (stepB s) ∧ G = [] ∧ Q = []) := by
 refine Ct.intro Tryz.func161 rfl rfl rfl (fun c hc => ?_)
 refine GC.sr_ ?_; refine GL.as_ rfl rfl ?_; refine GL.nl_ ?_; refine GC.seq' ?_; refine GC.sr_ ?_; refine GL.mv_ rfl rfl ?_; refine GL.pure rfl (p_rem rfl rfl (by decide) rfl) ?_; refine GL.pure rfl (p_eql rfl rfl) ?_; refine GL.nl_ ?_
 refine GC.cond rfl (fun h1 => ?_) (fun h1 => ?_)
 ·try simp only [tst_] at h1
  refine GC.sr_ ?_; refine GL.mv_ rfl rfl ?_; refine GL.pure rfl (p_half32 rfl rfl) ?_; refine GL.pure rfl (p_xor32 (b := 2197175160#32) rfl rfl) ?_; refine GL.as_ rfl rfl ?_; refine GL.nl_ ?_; refine GC.ret ?_
  refine fun a w h => Fin.back (rs := [.tmp 2]) (vs := [_]) (is := []) (js := []) rfl ⟨rfl, trivial⟩ rfl rfl ?_ h
  clear h
  have e := (odd32 s).1 h1
  exact ⟨by simp only [stepB, e, if_true]; rfl, rfl, rfl⟩
 ·try simp only [tst_] at h1
  refine GC.skip (?_ : GC _ _ _ _)
  refine GC.sr_ ?_; refine GL.mv_ rfl rfl ?_; refine GL.pure rfl (p_half32 rfl rfl) ?_; refine GL.as_ rfl rfl ?_; refine GL.nl_ ?_; refine GC.ret ?_
  refine fun a w h => Fin.back (rs := [.tmp 2]) (vs := [_]) (is := []) (js := []) rfl ⟨rfl, trivial⟩ rfl rfl ?_ h
  clear h
  have e : ¬ s.getLsbD 0 = true := fun g => h1 ((odd32 s).2 g)
  exact ⟨by simp only [stepB, if_neg e]; rfl, rfl, rfl⟩
theorem nib_nth {x : BitVec 32} (h : x.toNat < 16) : nth (nibT.map w32) ((x.toNat : Int).toNat * 1) = some (w32 (nibB x)) := by
  rw [nth_eq, List.getElem?_map, Nat.mul_one, Int.toNat_natCast]
  have hl : nibT.length = 16 := rfl
  rw [List.getElem?_eq_getElem (by omega)]
  unfold nibB
  rw [List.getD_eq_getElem?_getD, List.getElem?_eq_getElem (by omega)]
  rfl
theorem nib_ct (x : BitVec 32) (h : x.toNat < 16) : Ct Tryz.prog 168 [w32 x] [] [] (fun u G Q => u = w32 (nibB x) ∧ G = [] ∧ Q = []) := by
 refine Ct.intro Tryz.func168 rfl rfl rfl (fun c hc => ?_)
 refine GC.sr_ ?_; refine GL.as_ rfl rfl ?_; refine GL.nl_ ?_; refine GC.sr_ ?_; refine GL.pure rfl (p_buildA Tryz.underlying230 sz_144 ze_230 rfl rfl) ?_; refine GL.mv_ rfl rfl ?_; refine GL.pure rfl (p_indexV rfl rfl Tryz.underlying230 sz_144 ag_144 (by omega) (by omega) (nib_nth h)) ?_
 refine GL.as_ rfl rfl ?_; refine GL.nl_ ?_; refine GC.ret ?_
 refine fun a w h => Fin.back (rs := [.tmp 2]) (vs := [_]) (is := []) (js := []) rfl ⟨rfl, trivial⟩ rfl rfl ?_ h
 clear h
 exact ⟨rfl, rfl, rfl⟩
theorem and15 (s : BitVec 32) : (s &&& 15#32).toNat < 16 := by
  have : (s &&& 15#32).toNat = s.toNat % 16 := by
    rw [BitVec.toNat_and]; exact Nat.and_two_pow_sub_one_eq_mod s.toNat 4
  omega
end Go.Proofs.YtdhdmbmknpjhbaaGreat
namespace Go.Proofs.YtdhdmbmknpjhbaaGreat
open Go Go.Sx Go.Proofs
theorem take_gt {α : Type} [Inhabited α] {l : List α} {k : Nat} (h : k < l.length) : l.take (k + 1) = l.take k ++ [gt l (k : Int)] := by
  have := gt_ok (xs := l) (i := (k : Int)) (by omega) (by omega)
  simp only [Int.toNat_natCast] at this
  rw [List.take_add_one, this]; rfl
theorem foldl_take {l : List UInt8} {k : Nat} {s : BitVec 32} (h : k < l.length) : (l.take (k + 1)).foldl byteB s = byteB ((l.take k).foldl byteB s) (gt l (k : Int)) := by
  rw [take_gt h, List.foldl_append]; rfl
theorem more_ct (s : BitVec 32) (A : Option Addr) (l : List UInt8) (cp : Nat) (hl : l.length ≤ 140737488355328) : Ct Tryz.prog 150 [w32 s, .slice A l.length cp] [] [Pers.row Kd.u8 A l] (fun u G Q => u = w32 (moreB s l) ∧ G = [] ∧ Q = []) := by
 refine Ct.intro Tryz.func150 rfl rfl rfl (fun c hc => ?_)
 refine GC.sr_ ?_; refine GL.as_ rfl rfl ?_; refine GL.nl_ ?_; refine GC.sr_ ?_; refine GL.mv_ rfl rfl ?_; refine GL.pure rfl (p_com32 rfl) ?_; refine GL.as_ rfl rfl ?_; refine GL.nl_ ?_; refine GC.seq' ?_; refine GC.sr_ ?_
 refine GL.mv_ rfl rfl ?_; refine GL.pure rfl (p_len Tryz.underlying25 rfl) ?_; refine GL.mv_ rfl rfl ?_; refine GL.nl_ ?_; refine GC.block ?_; refine GC.imp (fun a w h => (⟨by simp, h.cut (is := []) (js := [0]) ⟨rfl, rfl, rfl, rfl, rfl, trivial⟩ rfl rfl⟩ : (fun (k : Nat) (a : Act) (w : World) => k ≤ l.length ∧ St c 35 [(1, .slice A l.length cp), (5, w32 ((l.take k).foldl byteB (~~~ s))), (10, .slice A l.length cp), (11, .int .i64 (l.length : Int)), (12, .int .i64 (k : Int))] [] [Pers.row Kd.u8 A l] a w) 0 a w)) (GC.loop (fun (k : Nat) (a : Act) (w : World) => k ≤ l.length ∧ St c 35 [(1, .slice A l.length cp), (5, w32 ((l.take k).foldl byteB (~~~ s))), (10, .slice A l.length cp), (11, .int .i64 (l.length : Int)), (12, .int .i64 (k : Int))] [] [Pers.row Kd.u8 A l] a w) (fun k => l.length - k) 0 ?_)
 intro k
 refine GC.and fun hk => ?_; refine GC.sr_ ?_; refine GL.pure rfl (p_lss rfl rfl) ?_; refine GL.nl_ ?_; refine GC.seq' ?_; refine GC.cond rfl (fun h1 => ?_) (fun h1 => ?_)
 ·try simp only [tst_] at h1
  refine GC.skip (?_ : GC _ _ _ _)
  refine GC.seq' ?_; refine GC.block ?_; refine GC.sr_ ?_; refine GL.step rfl (t_index (i := 0) rfl rfl rfl rfl Tryz.underlying25 sz_5 (by omega) (gt_ok (by omega) (by omega))) (GL.ex fun p_x14 => GL.ex fun r_x14 => GL.and fun ok_x14 => ?_)
  rcases r_x14 with _
  refine GL.step rfl (t_mem rfl (m_loadP (i := 0) rfl rfl ag_5 rfl)) ?_; refine GL.as_ rfl rfl ?_; refine GL.nl_ ?_; refine GC.sr_ ?_
  iterate 2 refine GL.mv_ rfl rfl ?_
  refine GL.pure rfl (p_conv8 (t := 5) (by rw [Tryz.underlying5]; simp) Tryz.underlying144 rfl) ?_; refine GL.pure rfl (p_xor32 rfl rfl) ?_; refine GL.as_ rfl rfl ?_; refine GL.nl_ ?_; refine GC.sr_ ?_; refine GL.mv_ rfl rfl ?_
  refine GL.pure rfl (p_shr32 4 (by decide) rfl rfl) ?_; refine GL.mv_ rfl rfl ?_; refine GL.pure rfl (p_and32 (b := 15#32) rfl rfl) ?_; refine GL.step rfl (t_call rfl fn_168 rfl (is := []) (js := []) rfl rfl (by exact nib_ct _ (and15 _))) (GL.ret ?_)
  rintro _ _ _ ⟨rfl, rfl, rfl⟩
  refine GL.pure rfl (p_xor32 rfl rfl) ?_; refine GL.as_ rfl rfl ?_; refine GL.nl_ ?_; refine GC.region ?_; refine GL.mv_ rfl rfl ?_; refine GL.pure rfl (p_shr32 4 (by decide) rfl rfl) ?_; refine GL.mv_ rfl rfl ?_; refine GL.pure rfl (p_and32 (b := 15#32) rfl rfl) ?_
  refine GL.step rfl (t_call rfl fn_168 rfl (is := []) (js := []) rfl rfl (by exact nib_ct _ (and15 _))) (GL.ret ?_)
  rintro _ _ _ ⟨rfl, rfl, rfl⟩
  refine GL.pure rfl (p_xor32 rfl rfl) ?_; refine GL.as_ rfl rfl ?_
  refine GL.nil (?_ : GC _ _ _ _)
  refine GC.region ?_; refine GL.pure rfl (p_add rfl rfl (w64 (by omega) (by omega))) ?_; refine GL.mv_ rfl rfl ?_; refine GL.nil ?_
  exact fun a w h => ⟨(k + 1), (by omega), (by omega), by rw [foldl_take (by omega), byteB, ← nib_step, ← nib_step]; exact h.cut (is := []) (js := [1]) ⟨rfl, rfl, rfl, rfl, rfl, trivial⟩ rfl rfl⟩
 ·try simp only [tst_] at h1
  refine GC.exit (?_ : GC _ _ _ _)
  refine GC.sr_ ?_; refine GL.mv_ rfl rfl ?_; refine GL.pure rfl (p_com32 rfl) ?_; refine GL.as_ rfl rfl ?_; refine GL.nl_ ?_; refine GC.ret ?_
  refine fun a w h => Fin.back (rs := [.tmp 4]) (vs := [_]) (is := []) (js := []) rfl ⟨rfl, trivial⟩ rfl rfl ?_ h
  clear h
  obtain rfl : k = l.length := by omega
  exact ⟨by rw [List.take_length]; rfl, rfl, rfl⟩
end Go.Proofs.YtdhdmbmknpjhbaaGreat
namespace Go.Proofs.YtdhdmbmknpjhbaaGreat
open Go Go.Sx Go.Proofs
def iterB : Nat → BitVec 32 → BitVec 32
  | 0, s => s
  | k + 1, s => stepB (iterB k s)
theorem iter8 (s : BitVec 32) (b : UInt8) : iterB 8 (s ^^^ b.toBitVec.zeroExtend 32) = byteB s b := rfl
theorem rmore_ct (s : BitVec 32) (A : Option Addr) (l : List UInt8) (cp : Nat) (hl : l.length ≤ 140737488355328) : Ct Tryz.prog 143 [w32 s, .slice A l.length cp] [] [Pers.row Kd.u8 A l] (fun u G Q => u = w32 (moreB s l) ∧ G = [] ∧ Q = []) := by
 refine Ct.intro Tryz.func143 rfl rfl rfl (fun c hc => ?_)
 refine GC.sr_ ?_; refine GL.as_ rfl rfl ?_; refine GL.nl_ ?_; refine GC.sr_ ?_; refine GL.mv_ rfl rfl ?_; refine GL.pure rfl (p_com32 rfl) ?_; refine GL.as_ rfl rfl ?_; refine GL.nl_ ?_; refine GC.seq' ?_; refine GC.sr_ ?_
 refine GL.as_ rfl rfl ?_; refine GL.nl_ ?_; refine GC.block ?_; refine GC.imp (fun a w h => (⟨by simp, h.cut (is := []) (js := [0]) ⟨rfl, rfl, rfl, trivial⟩ rfl rfl⟩ : (fun (k : Nat) (a : Act) (w : World) => k ≤ l.length ∧ St c 31 [(1, .slice A l.length cp), (5, w32 ((l.take k).foldl byteB (~~~ s))), (6, .int .i64 (k : Int))] [] [Pers.row Kd.u8 A l] a w) 0 a w)) (GC.loop (fun (k : Nat) (a : Act) (w : World) => k ≤ l.length ∧ St c 31 [(1, .slice A l.length cp), (5, w32 ((l.take k).foldl byteB (~~~ s))), (6, .int .i64 (k : Int))] [] [Pers.row Kd.u8 A l] a w) (fun k => l.length - k) 0 ?_)
 intro k
 refine GC.and fun hk => ?_; refine GC.seq' ?_; refine GC.sr_ ?_
 iterate 2 refine GL.mv_ rfl rfl ?_
 refine GL.pure rfl (p_len Tryz.underlying25 rfl) ?_; refine GL.pure rfl (p_lss rfl rfl) ?_; refine GL.nl_ ?_; refine GC.cond rfl (fun h1 => ?_) (fun h1 => ?_)
 ·try simp only [tst_] at h1
  refine GC.skip (?_ : GC _ _ _ _)
  refine GC.seq' ?_; refine GC.block ?_; refine GC.sr_ ?_
  iterate 3 refine GL.mv_ rfl rfl ?_
  refine GL.step rfl (t_index (i := 0) rfl rfl rfl rfl Tryz.underlying25 sz_5 (by omega) (gt_ok (by omega) (by omega))) (GL.ex fun p_x19 => GL.ex fun r_x19 => GL.and fun ok_x19 => ?_)
  rcases r_x19 with _
  refine GL.step rfl (t_mem rfl (m_loadP (i := 0) rfl rfl ag_5 rfl)) ?_; refine GL.pure rfl (p_conv8 (t := 5) (by rw [Tryz.underlying5]; simp) Tryz.underlying144 rfl) ?_
  refine GL.pure rfl (p_xor32 rfl rfl) ?_; refine GL.as_ rfl rfl ?_; refine GL.nl_ ?_; refine GC.sr_ ?_; refine GL.as_ rfl rfl ?_; refine GL.nl_ ?_; refine GC.block ?_; refine GC.imp (fun a w h => (⟨by simp, h.cut (is := []) (js := [1]) ⟨rfl, rfl, rfl, rfl, trivial⟩ rfl rfl⟩ : (fun (j : Nat) (a : Act) (w : World) => j ≤ 8 ∧ St c 31 [(1, .slice A l.length cp), (5, w32 (iterB j (((l.take k).foldl byteB (~~~ s)) ^^^ (gt l (k : Int)).toBitVec.zeroExtend 32))), (6, .int .i64 (k : Int)), (7, .int .i64 (j : Int))] [] [Pers.row Kd.u8 A l] a w) 0 a w)) (GC.loop (fun (j : Nat) (a : Act) (w : World) => j ≤ 8 ∧ St c 31 [(1, .slice A l.length cp), (5, w32 (iterB j (((l.take k).foldl byteB (~~~ s)) ^^^ (gt l (k : Int)).toBitVec.zeroExtend 32))), (6, .int .i64 (k : Int)), (7, .int .i64 (j : Int))] [] [Pers.row Kd.u8 A l] a w) (fun j => 8 - j) 0 ?_)
  intro j
  refine GC.and fun hj => ?_; refine GC.seq' ?_; refine GC.sr_ ?_; refine GL.mv_ rfl rfl ?_; refine GL.pure rfl (p_lss rfl rfl) ?_; refine GL.nl_ ?_; refine GC.cond rfl (fun h2 => ?_) (fun h2 => ?_)
  ·try simp only [tst_] at h2
   refine GC.skip (?_ : GC _ _ _ _)
   refine GC.seq' ?_; refine GC.block ?_; refine GC.region ?_; refine GL.mv_ rfl rfl ?_; refine GL.step rfl (t_call rfl fn_161 rfl (is := []) (js := []) rfl rfl (by exact step32_ct _)) (GL.ret ?_)
   rintro _ _ _ ⟨rfl, rfl, rfl⟩
   refine GL.as_ rfl rfl ?_
   refine GL.nil (?_ : GC _ _ _ _)
   refine GC.region ?_; refine GL.mv_ rfl rfl ?_; refine GL.pure rfl (p_add rfl rfl (w64 (by omega) (by omega))) ?_; refine GL.as_ rfl rfl ?_; refine GL.nil ?_
   exact fun a w h => ⟨(j + 1), (by omega), (by omega), h.cut (is := []) (js := [0]) ⟨rfl, rfl, rfl, rfl, trivial⟩ rfl rfl⟩
  ·try simp only [tst_] at h2
   refine GC.exit (?_ : GC _ _ _ _)
   refine GC.region ?_; refine GL.mv_ rfl rfl ?_; refine GL.pure rfl (p_add rfl rfl (w64 (by omega) (by omega))) ?_; refine GL.as_ rfl rfl ?_; refine GL.nil ?_
   obtain rfl : j = 8 := by omega
   exact fun a w h => ⟨(k + 1), (by omega), (by omega), by rw [foldl_take (by omega), ← iter8]; exact h.cut (is := []) (js := [0]) ⟨rfl, rfl, rfl, trivial⟩ rfl rfl⟩
 ·try simp only [tst_] at h1
  refine GC.exit (?_ : GC _ _ _ _)
  refine GC.sr_ ?_; refine GL.mv_ rfl rfl ?_; refine GL.pure rfl (p_com32 rfl) ?_; refine GL.as_ rfl rfl ?_; refine GL.nl_ ?_; refine GC.ret ?_
  refine fun a w h => Fin.back (rs := [.tmp 4]) (vs := [_]) (is := []) (js := []) rfl ⟨rfl, trivial⟩ rfl rfl ?_ h
  clear h
  obtain rfl : k = l.length := by omega
  exact ⟨by rw [List.take_length]; rfl, rfl, rfl⟩
theorem rmore0 (A : Option Addr) (l : List UInt8) (cp : Nat) (hl : l.length ≤ 140737488355328) : Ct Tryz.prog 143 [.int .u32 0, .slice A l.length cp] [] [Pers.row Kd.u8 A l] (fun u G Q => u = w32 (moreB 0#32 l) ∧ G = [] ∧ Q = []) := by
  have h := rmore_ct 0#32 A l cp hl
  rw [show w32 0#32 = Value.int .u32 0 from rfl] at h
  exact h
theorem of_ct (A : Option Addr) (l : List UInt8) (cp : Nat) (hl : l.length ≤ 140737488355328) : Ct Tryz.prog 107 [.slice A l.length cp] [] [Pers.row Kd.u8 A l] (fun u G Q => u = w32 (moreB 0#32 l) ∧ G = [] ∧ Q = []) := by
 refine Ct.intro Tryz.func107 rfl rfl rfl (fun c hc => ?_)
 refine GC.sr_ ?_; refine GL.as_ rfl rfl ?_; refine GL.nl_ ?_; refine GC.sr_ ?_; refine GL.mv_ rfl rfl ?_; refine GL.step rfl (t_call rfl fn_143 rfl (is := []) (js := [0]) rfl rfl (by exact rmore0 _ _ _ hl)) (GL.ret ?_)
 rintro _ _ _ ⟨rfl, rfl, rfl⟩
 refine GL.as_ rfl rfl ?_; refine GL.nl_ ?_; refine GC.ret ?_
 refine fun a w h => Fin.back (rs := [.tmp 2]) (vs := [_]) (is := []) (js := []) rfl ⟨rfl, trivial⟩ rfl rfl ?_ h
 clear h
 exact ⟨rfl, rfl, rfl⟩
theorem csum_ct (A : Option Addr) (b : List UInt8) (cp : Nat) (hl : b.length ≤ 140737488355328) : Ct Tryz.prog 125 [.slice A 1 cp] [] [Pers.row kBytes A [b]] (fun u G Q => u = w32 (moreB 0#32 b) ∧ G = [] ∧ Q = []) := by
 have e1 : ([b] : List (List UInt8)).length = 1 := rfl
 rw [← e1]
 refine Ct.intro Tryz.func125 rfl rfl rfl (fun c hc => ?_)
 refine GC.sr_ ?_; refine GL.as_ rfl rfl ?_; refine GL.nl_ ?_; refine GC.sr_ ?_; refine GL.as_ rfl rfl ?_; refine GL.nl_ ?_; refine GC.seq' ?_; refine GC.sr_ ?_; refine GL.mv_ rfl rfl ?_; refine GL.pure rfl (p_len Tryz.underlying188 rfl) ?_
 refine GL.mv_ rfl rfl ?_; refine GL.nl_ ?_; refine GC.block ?_; refine GC.imp (fun a w h => (⟨by simp, h.cut (is := []) (js := [0]) ⟨rfl, rfl, rfl, rfl, trivial⟩ rfl rfl⟩ : (fun (k : Nat) (a : Act) (w : World) => k ≤ 1 ∧ St c 17 [(3, w32 (if k = 0 then 0#32 else moreB 0#32 b)), (6, .slice A ([b] : List (List UInt8)).length cp), (7, .int .i64 (([b] : List (List UInt8)).length : Int)), (8, .int .i64 (k : Int))] [] [Pers.row kBytes A [b]] a w) 0 a w)) (GC.loop (fun (k : Nat) (a : Act) (w : World) => k ≤ 1 ∧ St c 17 [(3, w32 (if k = 0 then 0#32 else moreB 0#32 b)), (6, .slice A ([b] : List (List UInt8)).length cp), (7, .int .i64 (([b] : List (List UInt8)).length : Int)), (8, .int .i64 (k : Int))] [] [Pers.row kBytes A [b]] a w) (fun k => 1 - k) 0 ?_)
 intro k
 refine GC.and fun hk => ?_; refine GC.sr_ ?_; refine GL.pure rfl (p_lss rfl rfl) ?_; refine GL.nl_ ?_; refine GC.seq' ?_; refine GC.cond rfl (fun h1 => ?_) (fun h1 => ?_)
 ·try simp only [tst_] at h1
  refine GC.skip (?_ : GC _ _ _ _)
  refine GC.seq' ?_; refine GC.block ?_; refine GC.sr_ ?_; refine GL.step rfl (t_index (i := 0) rfl rfl rfl rfl Tryz.underlying188 sz_25 (by omega) (gt_ok (by omega) (by omega))) (GL.ex fun p_x10 => GL.ex fun r_x10 => GL.and fun ok_x10 => ?_)
  rcases r_x10 with ⟨Ax10_0, cpx10_0⟩
  refine GL.step rfl (t_mem rfl (m_loadP (i := 0) rfl rfl ag_25 rfl)) ?_; refine GL.as_ rfl rfl ?_; refine GL.nl_ ?_; refine GC.region ?_
  iterate 2 refine GL.mv_ rfl rfl ?_
  have hk0 : k = 0 := by simp at h1; omega
  have hlk : (gt [b] (k : Int)).length ≤ 140737488355328 := by subst hk0; exact hl
  refine GL.step rfl (t_call rfl fn_150 rfl (is := []) (js := [1]) rfl rfl (by exact more_ct _ _ (gt [b] (k : Int)) _ hlk)) (GL.ret ?_)
  rintro _ _ _ ⟨rfl, rfl, rfl⟩
  refine GL.as_ rfl rfl ?_
  refine GL.nil (?_ : GC _ _ _ _)
  refine GC.region ?_; refine GL.pure rfl (p_add rfl rfl (w64 (by omega) (by omega))) ?_; refine GL.mv_ rfl rfl ?_; refine GL.nil ?_
  subst hk0
  exact fun a w h => ⟨(0 + 1), (by omega), (by omega), h.cut (is := []) (js := [2]) ⟨rfl, rfl, rfl, rfl, trivial⟩ rfl rfl⟩
 ·try simp only [tst_] at h1
  refine GC.exit (?_ : GC _ _ _ _)
  refine GC.sr_ ?_; refine GL.mv_ rfl rfl ?_; refine GL.as_ rfl rfl ?_; refine GL.nl_ ?_; refine GC.ret ?_
  refine fun a w h => Fin.back (rs := [.tmp 2]) (vs := [_]) (is := []) (js := []) rfl ⟨rfl, trivial⟩ rfl rfl ?_ h
  clear h
  obtain rfl : k = 1 := by simp at h1; omega
  exact ⟨rfl, rfl, rfl⟩
end Go.Proofs.YtdhdmbmknpjhbaaGreat
namespace Go.Proofs.YtdhdmbmknpjhbaaGreat
open Go Go.Sx Go.Proofs
def isNum (n : Int) : Bool := decide (1 ≤ n) && decide (n ≤ 4611686018427387904)
theorem isNumber_ct (n : Int) : Ct Tryz.prog 181 [.int .i64 n] [] [] (fun v G Q => v = .bool (isNum n) ∧ G = [] ∧ Q = []) := by
 refine Ct.intro Tryz.func181 rfl rfl rfl (fun c hc => ?_)
 refine GC.sr_ ?_; refine GL.as_ rfl rfl ?_; refine GL.nl_ ?_; refine GC.sr_ ?_; refine GL.mv_ rfl rfl ?_; refine GL.pure rfl (p_geq rfl rfl) ?_; refine GL.mv_ rfl rfl ?_; refine GL.split (i := 5) rfl (fun h1 => ?_) (fun h1 => ?_)
 ·try simp only [tst_] at h1
  refine GL.pureG (s := 5) rfl rfl rfl (p_move rfl) ?_; refine GL.pureG (s := 5) rfl rfl rfl (p_leq rfl rfl) ?_; refine GL.pure rfl (p_pick_true rfl rfl) ?_; refine GL.as_ rfl rfl ?_; refine GL.nl_ ?_; refine GC.ret ?_
  refine fun a w h => Fin.back (rs := [.tmp 2]) (vs := [_]) (is := []) (js := []) rfl ⟨rfl, trivial⟩ rfl rfl ?_ h
  clear h
  refine ⟨congrArg Value.bool ?_, rfl, rfl⟩; simp [isNum]; omega
 ·try simp only [tst_] at h1
  iterate 2 refine GL.pass (s := 5) rfl rfl rfl ?_
  refine GL.pure rfl (p_pick_false rfl rfl) ?_; refine GL.as_ rfl rfl ?_; refine GL.nl_ ?_; refine GC.ret ?_
  refine fun a w h => Fin.back (rs := [.tmp 2]) (vs := [_]) (is := []) (js := []) rfl ⟨rfl, trivial⟩ rfl rfl ?_ h
  clear h
  refine ⟨congrArg Value.bool ?_, rfl, rfl⟩; simp [isNum]; omega
theorem tmade_ct (p m : Nat) : Ct Tryz.prog 180 [.pointer (some ⟨p, 0, none⟩)] [.cells p [.map (some m)] 223] [] (fun v G Q => v = .bool true ∧ G = [.cells p [.map (some m)] 223] ∧ Q = []) := by
 refine Ct.intro Tryz.func180 rfl rfl rfl (fun c hc => ?_)
 refine GC.sr_ ?_; refine GL.as_ rfl rfl ?_; refine GL.nl_ ?_; refine GC.sr_ ?_; refine GL.mv_ rfl rfl ?_; refine GL.pure rfl (p_pnil_neq Tryz.underlying180 rfl rfl) ?_; refine GL.mv_ rfl rfl ?_; refine GL.pureG (s := 5) rfl rfl rfl (p_move rfl) ?_
 refine GL.pureG (s := 5) rfl rfl rfl (p_nilCheck rfl) ?_; refine GL.pureG (s := 5) rfl rfl rfl (p_fieldAddr fo_223_0 rfl) ?_; refine GL.stepG rfl (s := 5) rfl rfl (t_mem rfl (m_load (i := 0) rfl rfl ag_221 rfl)) ?_; refine GL.pureG (s := 5) rfl rfl rfl (p_mapnil_neq Tryz.underlying221 rfl rfl) ?_
 refine GL.pure rfl (p_pick_true rfl rfl) ?_; refine GL.as_ rfl rfl ?_; refine GL.nl_ ?_; refine GC.ret ?_
 refine fun a w h => Fin.back (rs := [.tmp 2]) (vs := [_]) (is := [0]) (js := []) rfl ⟨rfl, trivial⟩ rfl rfl ?_ h
 clear h
 exact ⟨rfl, rfl, rfl⟩
theorem own_ct (code : Int) (A : Option Addr) (xs : List UInt8) (cp : Nat) (hx : xs.length ≤ 140737488351232) : Ct Tryz.prog 178 [.agg #[.int .u8 code, .slice A xs.length cp]] [] [Pers.row Kd.u8 A xs]
    (fun v G Q => ∃ A' cp', xs.length ≤ cp' ∧ cp' ≤ 9223372036854775807 ∧ v = .agg #[.int .u8 code, .slice A' xs.length cp'] ∧ G = [.row (.slice A' xs.length cp') 5 1 xs.length (xs.map u8v)] ∧ Q = []) := by
 refine Ct.intro Tryz.func178 rfl rfl rfl (fun c hc => ?_)
 refine GC.sr_ ?_; refine GL.step rfl (t_box rfl rfl rfl) (GL.ex fun b_t1 => ?_); refine GL.step rfl (t_alloc rfl ze_30) (GL.ex fun b_t2 => ?_); refine GL.nl_ ?_; refine GC.sr_ ?_; refine GL.pure rfl (p_fieldAddr fo_30_1 rfl) ?_
 refine GL.step rfl (t_mem rfl (m_load (i := 1) rfl rfl ag_25 rfl)) ?_; refine GL.step rfl (t_call rfl fn_182 rfl (is := []) (js := [0]) rfl rfl (by exact clone_ct _ _ _ (by first | assumption | omega))) (GL.ret ?_)
 rintro _ _ _ ⟨A5, cp5, l5, k5, rfl, rfl, rfl⟩
 refine GL.pure rfl (p_fieldAddr fo_30_1 rfl) ?_; refine GL.step rfl (t_store (i := 2) rfl rfl rfl rfl sz_25 rfl rfl rfl) ?_; refine GL.nl_ ?_; refine GC.sr_ ?_; refine GL.step rfl (t_mem rfl (m_loadN (i := 2) rfl rfl ag_30 (vs := [_, _]) sz_30 ⟨rfl, rfl, trivial⟩)) ?_
 refine GL.step rfl (t_storeN (i := 1) rfl rfl rfl sz_30 rfl rfl rfl) ?_; refine GL.nl_ ?_; refine GC.ret ?_
 refine fun a w h => Fin.back (rs := [.cell 2 30]) (vs := [_]) (is := [0]) (js := []) rfl ⟨⟨1, _, _, _, _, rfl, rfl, .inr ⟨[_, _], rfl, ag_30, sz_30, ⟨rfl, rfl, trivial⟩⟩⟩, trivial⟩ rfl rfl ?_ h
 clear h
 exact ⟨_, _, by assumption, by assumption, rfl, rfl, rfl⟩
def askF (T : List (Int × Last)) (c s : Int) : Int × Res × Int :=
  if isNum c = false ∨ isNum s = false then (0, rz, 5)
  else match mget T c with
    | none => if (T.length : Int) = 64 then (4, rz, 0) else (1, rz, 0)
    | some l => if s > l.serial then (1, rz, 0) else if s < l.serial then (3, rz, 0) else (2, l.result, 0)
def TabOk (T : List (Int × Last)) : Prop := ∀ k l, mget T k = some l → l.result.data.length ≤ 262144
abbrev tabG (p m : Nat) (es : Array MapEntry) (ck : Nat) : List Own := [.cells p [.map (some m)] 223, .blk m (.map es ck)]
abbrev resV' (v : Int) (r : Res) (A : Option Addr) (cp : Nat) (e : Int) : Value := .tuple #[.int .i64 v, .agg #[.int .u8 r.code, .slice A r.data.length cp], .int .i64 e]
theorem ask_ct (p m : Nat) (es : Array MapEntry) (ck : Nat) (T : List (Int × Last)) (cl se : Int) (hT : TabOk T) :
    Ct Tryz.prog 177 [.pointer (some ⟨p, 0, none⟩), .int .i64 cl, .int .i64 se] (tabG p m es ck) [Pers.map kLast true T es ck]
      (fun v G Q => ∃ A cp, (askF T cl se).2.1.data.length ≤ cp ∧ cp ≤ 9223372036854775807 ∧ v = resV' (askF T cl se).1 (askF T cl se).2.1 A cp (askF T cl se).2.2 ∧ G = tabG p m es ck ∧ Q = [Pers.row Kd.u8 A (askF T cl se).2.1.data]) := by
 refine Ct.intro Tryz.func177 rfl rfl rfl (fun c hc => ?_)
 refine GC.sr_ ?_; refine GL.as_ rfl rfl ?_; refine GL.step rfl (t_alloc rfl ze_30) (GL.ex fun b_t7 => ?_); refine GL.as_ rfl rfl ?_; refine GL.nl_ ?_; refine GC.seq' ?_; refine GC.sr_ ?_; refine GL.mv_ rfl rfl ?_; refine GL.step rfl (t_call rfl fn_180 rfl (is := [1]) (js := []) rfl rfl (by exact tmade_ct _ _)) (GL.ret ?_)
 rintro _ _ _ ⟨rfl, rfl, rfl⟩
 refine GL.pure rfl (p_not rfl) ?_; refine GL.nl_ ?_; refine GC.cond_false rfl ?_
 refine GC.skip (?_ : GC _ _ _ _)
 refine GC.seq' ?_; refine GC.sr_ ?_; refine GL.mv_ rfl rfl ?_; refine GL.step rfl (t_call rfl fn_181 rfl (is := []) (js := []) rfl rfl (by exact isNumber_ct _)) (GL.ret ?_)
 rintro _ _ _ ⟨rfl, rfl, rfl⟩
 refine GL.pure rfl (p_not rfl) ?_; refine GL.mv_ rfl rfl ?_; refine GL.split (i := 18) rfl (fun h1 => ?_) (fun h1 => ?_)
 ·try simp only [tst_] at h1
  iterate 3 refine GL.pass (s := 18) rfl rfl rfl ?_
  refine GL.pure rfl (p_pick_true rfl rfl) ?_; refine GL.nl_ ?_; refine GC.cond_true rfl ?_; refine GC.sr_ ?_; refine GL.pure rfl (p_build ze_30 of_30 rfl rfl) ?_; refine GL.as_ rfl rfl ?_; refine GL.step rfl (t_storeN (i := 1) rfl rfl rfl sz_30 rfl rfl rfl) ?_
  refine GL.as_ rfl rfl ?_; refine GL.nl_ ?_; refine GC.know (q := Pers.row Kd.u8 none []) (fun _ _ _ => .inl rfl) ?_; refine GC.ret ?_
  refine fun a w h => Fin.back (rs := [.tmp 6, .cell 7 30, .tmp 8]) (vs := [_, _, _]) (is := [0, 1]) (js := [0]) rfl ⟨rfl, ⟨1, _, _, _, _, rfl, rfl, .inr ⟨[_, _], rfl, ag_30, sz_30, ⟨rfl, rfl, trivial⟩⟩⟩, rfl, trivial⟩ rfl rfl ?_ h
  clear h
  have e : askF T cl se = (0, rz, 5) := by simp [askF, *]
  rw [e]; exact ⟨none, 0, by simp [rz], by simp, rfl, rfl, rfl⟩
 ·try simp only [tst_] at h1
  refine GL.pureG (s := 18) rfl rfl rfl (p_move rfl) ?_; refine GL.stepG rfl (s := 18) rfl rfl (t_call rfl fn_181 rfl (is := []) (js := []) rfl rfl (by exact isNumber_ct _)) (GL.ret ?_)
  rintro _ _ _ ⟨rfl, rfl, rfl⟩
  refine GL.pureG (s := 18) rfl rfl rfl (p_not rfl) ?_; refine GL.pure rfl (p_pick_false rfl rfl) ?_; refine GL.nl_ ?_; refine GC.cond rfl (fun h2 => ?_) (fun h2 => ?_)
  ·try simp only [tst_] at h2
   refine GC.sr_ ?_; refine GL.pure rfl (p_build ze_30 of_30 rfl rfl) ?_; refine GL.as_ rfl rfl ?_; refine GL.step rfl (t_storeN (i := 1) rfl rfl rfl sz_30 rfl rfl rfl) ?_; refine GL.as_ rfl rfl ?_; refine GL.nl_ ?_; refine GC.know (q := Pers.row Kd.u8 none []) (fun _ _ _ => .inl rfl) ?_
   refine GC.ret ?_
   refine fun a w h => Fin.back (rs := [.tmp 6, .cell 7 30, .tmp 8]) (vs := [_, _, _]) (is := [0, 1]) (js := [0]) rfl ⟨rfl, ⟨1, _, _, _, _, rfl, rfl, .inr ⟨[_, _], rfl, ag_30, sz_30, ⟨rfl, rfl, trivial⟩⟩⟩, rfl, trivial⟩ rfl rfl ?_ h
   clear h
   have e : askF T cl se = (0, rz, 5) := by simp [askF, *]
   rw [e]; exact ⟨none, 0, by simp [rz], by simp, rfl, rfl, rfl⟩
  ·try simp only [tst_] at h2
   refine GC.skip (?_ : GC _ _ _ _)
   refine GC.sr_ ?_; refine GL.mv_ rfl rfl ?_; refine GL.pure rfl (p_nilCheck rfl) ?_; refine GL.pure rfl (p_fieldAddr fo_223_0 rfl) ?_; refine GL.step rfl (t_mem rfl (m_load (i := 0) rfl rfl ag_221 rfl)) ?_; refine GL.mv_ rfl rfl ?_
   refine GL.step rfl (t_lookup (i := 2) (j := 0) rfl rfl rfl rfl rfl Tryz.underlying221 Tryz.underlying3 ze_229 zb_229) (GL.or (GL.and fun n_m30 => ?_) (GL.ex fun u_m30 => GL.ex fun r_m30 => GL.and fun s_m30 => GL.and fun ok_m30 => ?_))
   ·refine GL.mv_ rfl rfl ?_
    iterate 2 refine GL.pure rfl (p_extract rfl rfl) ?_
    refine GL.step rfl (t_alloc rfl ze_229) (GL.ex fun b_t9 => ?_); refine GL.step rfl (t_storeN (i := 0) rfl rfl rfl sz_229 rfl rfl rfl) ?_; refine GL.as_ rfl rfl ?_; refine GL.nl_ ?_; refine GC.seq' ?_; refine GC.block ?_
    refine GC.sr_ ?_; refine GL.mv_ rfl rfl ?_; refine GL.pure rfl (p_not rfl) ?_; refine GL.mv_ rfl rfl ?_; refine GL.pureG (s := 36) rfl rfl rfl (p_move rfl) ?_; refine GL.pureG (s := 36) rfl rfl rfl (p_nilCheck rfl) ?_
    refine GL.pureG (s := 36) rfl rfl rfl (p_fieldAddr fo_223_0 rfl) ?_; refine GL.stepG rfl (s := 36) rfl rfl (t_mem rfl (m_load (i := 1) rfl rfl ag_221 rfl)) ?_; refine GL.stepG rfl (s := 36) rfl rfl (t_mem rfl (m_lenmap (i := 3) (j := 0) rfl rfl rfl Tryz.underlying221)) ?_
    refine GL.pureG (s := 36) rfl rfl rfl (p_eql rfl rfl) ?_; refine GL.pure rfl (p_pick_true rfl rfl) ?_; refine GL.as_ rfl rfl ?_; refine GL.nl_ ?_; refine GC.cond rfl (fun h3 => ?_) (fun h3 => ?_)
    ·try simp only [tst_] at h3
     refine GC.sr_ ?_; refine GL.pure rfl (p_build ze_30 of_30 rfl rfl) ?_; refine GL.as_ rfl rfl ?_; refine GL.step rfl (t_storeN (i := 2) rfl rfl rfl sz_30 rfl rfl rfl) ?_; refine GL.as_ rfl rfl ?_; refine GL.nl_ ?_; refine GC.know (q := Pers.row Kd.u8 none []) (fun _ _ _ => .inl rfl) ?_
     refine GC.ret ?_
     refine fun a w h => Fin.back (rs := [.tmp 6, .cell 7 30, .tmp 8]) (vs := [_, _, _]) (is := [1, 2]) (js := [0]) rfl ⟨rfl, ⟨2, _, _, _, _, rfl, rfl, .inr ⟨[_, _], rfl, ag_30, sz_30, ⟨rfl, rfl, trivial⟩⟩⟩, rfl, trivial⟩ rfl rfl ?_ h
     clear h
     have e : askF T cl se = (4, rz, 0) := by simp [askF, *]
     rw [e]; exact ⟨none, 0, by simp [rz], by simp, rfl, rfl, rfl⟩
    ·try simp only [tst_] at h3
     refine GC.sr_ ?_; refine GL.mv_ rfl rfl ?_; refine GL.pure rfl (p_not rfl) ?_; refine GL.mv_ rfl rfl ?_
     iterate 4 refine GL.pass (s := 48) rfl rfl rfl ?_
     refine GL.pure rfl (p_pick_true rfl rfl) ?_; refine GL.as_ rfl rfl ?_; refine GL.nl_ ?_; refine GC.cond_true rfl ?_; refine GC.sr_ ?_; refine GL.pure rfl (p_build ze_30 of_30 rfl rfl) ?_; refine GL.as_ rfl rfl ?_; refine GL.step rfl (t_storeN (i := 2) rfl rfl rfl sz_30 rfl rfl rfl) ?_
     refine GL.as_ rfl rfl ?_; refine GL.nl_ ?_; refine GC.know (q := Pers.row Kd.u8 none []) (fun _ _ _ => .inl rfl) ?_; refine GC.ret ?_
     refine fun a w h => Fin.back (rs := [.tmp 6, .cell 7 30, .tmp 8]) (vs := [_, _, _]) (is := [1, 2]) (js := [0]) rfl ⟨rfl, ⟨2, _, _, _, _, rfl, rfl, .inr ⟨[_, _], rfl, ag_30, sz_30, ⟨rfl, rfl, trivial⟩⟩⟩, rfl, trivial⟩ rfl rfl ?_ h
     clear h
     have e : askF T cl se = (1, rz, 0) := by simp [askF, *]
     rw [e]; exact ⟨none, 0, by simp [rz], by simp, rfl, rfl, rfl⟩
   ·rcases r_m30 with ⟨_, ⟨_, ⟨Am30_0, cpm30_0⟩⟩⟩
    refine GL.mv_ rfl rfl ?_
    iterate 2 refine GL.pure rfl (p_extract rfl rfl) ?_
    refine GL.step rfl (t_alloc rfl ze_229) (GL.ex fun b_t9 => ?_); refine GL.step rfl (t_storeN (i := 0) rfl rfl rfl sz_229 rfl rfl rfl) ?_; refine GL.as_ rfl rfl ?_; refine GL.nl_ ?_; refine GC.seq' ?_; refine GC.block ?_
    refine GC.sr_ ?_; refine GL.mv_ rfl rfl ?_; refine GL.pure rfl (p_not rfl) ?_; refine GL.mv_ rfl rfl ?_
    iterate 6 refine GL.pass (s := 36) rfl rfl rfl ?_
    refine GL.pure rfl (p_pick_false rfl rfl) ?_; refine GL.as_ rfl rfl ?_; refine GL.nl_ ?_; refine GC.cond_false rfl ?_; refine GC.sr_ ?_; refine GL.mv_ rfl rfl ?_; refine GL.pure rfl (p_not rfl) ?_; refine GL.mv_ rfl rfl ?_
    refine GL.pureG (s := 48) rfl rfl rfl (p_move rfl) ?_; refine GL.pureG (s := 48) rfl rfl rfl (p_fieldAddr fo_229_0 rfl) ?_; refine GL.stepG rfl (s := 48) rfl rfl (t_mem rfl (m_load (i := 0) rfl rfl ag_3 rfl)) ?_; refine GL.pureG (s := 48) rfl rfl rfl (p_gtr rfl rfl) ?_
    refine GL.pure rfl (p_pick_false rfl rfl) ?_; refine GL.as_ rfl rfl ?_; refine GL.nl_ ?_; refine GC.cond rfl (fun h4 => ?_) (fun h4 => ?_)
    ·try simp only [tst_] at h4
     refine GC.sr_ ?_; refine GL.pure rfl (p_build ze_30 of_30 rfl rfl) ?_; refine GL.as_ rfl rfl ?_; refine GL.step rfl (t_storeN (i := 2) rfl rfl rfl sz_30 rfl rfl rfl) ?_; refine GL.as_ rfl rfl ?_; refine GL.nl_ ?_; refine GC.know (q := Pers.row Kd.u8 none []) (fun _ _ _ => .inl rfl) ?_
     refine GC.ret ?_
     refine fun a w h => Fin.back (rs := [.tmp 6, .cell 7 30, .tmp 8]) (vs := [_, _, _]) (is := [1, 2]) (js := [0]) rfl ⟨rfl, ⟨2, _, _, _, _, rfl, rfl, .inr ⟨[_, _], rfl, ag_30, sz_30, ⟨rfl, rfl, trivial⟩⟩⟩, rfl, trivial⟩ rfl rfl ?_ h
     clear h
     have e : askF T cl se = (1, rz, 0) := by simp [askF, *]
     rw [e]; exact ⟨none, 0, by simp [rz], by simp, rfl, rfl, rfl⟩
    ·try simp only [tst_] at h4
     refine GC.sr_ ?_; refine GL.mv_ rfl rfl ?_; refine GL.pure rfl (p_fieldAddr fo_229_0 rfl) ?_; refine GL.step rfl (t_mem rfl (m_load (i := 0) rfl rfl ag_3 rfl)) ?_; refine GL.pure rfl (p_lss rfl rfl) ?_; refine GL.as_ rfl rfl ?_
     refine GL.nl_ ?_; refine GC.cond rfl (fun h5 => ?_) (fun h5 => ?_)
     ·try simp only [tst_] at h5
      refine GC.sr_ ?_; refine GL.pure rfl (p_build ze_30 of_30 rfl rfl) ?_; refine GL.as_ rfl rfl ?_; refine GL.step rfl (t_storeN (i := 2) rfl rfl rfl sz_30 rfl rfl rfl) ?_; refine GL.as_ rfl rfl ?_; refine GL.nl_ ?_; refine GC.know (q := Pers.row Kd.u8 none []) (fun _ _ _ => .inl rfl) ?_
      refine GC.ret ?_
      refine fun a w h => Fin.back (rs := [.tmp 6, .cell 7 30, .tmp 8]) (vs := [_, _, _]) (is := [1, 2]) (js := [0]) rfl ⟨rfl, ⟨2, _, _, _, _, rfl, rfl, .inr ⟨[_, _], rfl, ag_30, sz_30, ⟨rfl, rfl, trivial⟩⟩⟩, rfl, trivial⟩ rfl rfl ?_ h
      clear h
      have e : askF T cl se = (3, rz, 0) := by simp [askF, *]
      rw [e]; exact ⟨none, 0, by simp [rz], by simp, rfl, rfl, rfl⟩
     ·try simp only [tst_] at h5
      refine GC.skip (?_ : GC _ _ _ _)
      refine GC.sr_ ?_; refine GL.pure rfl (p_fieldAddr fo_229_1 rfl) ?_; refine GL.step rfl (t_mem rfl (m_loadN (i := 0) rfl rfl ag_30 (vs := [_, _]) sz_30 ⟨rfl, rfl, trivial⟩)) ?_
      have hlen := hT _ _ s_m30
      refine GL.step rfl (t_call rfl fn_178 rfl (is := []) (js := [0]) rfl rfl (by exact own_ct _ _ _ _ (by first | omega | exact Nat.le_trans hlen (by decide)))) (GL.ret ?_)
      rintro _ _ _ ⟨A63, cp63, l63, k63, rfl, rfl, rfl⟩
      refine GL.as_ rfl rfl ?_; refine GL.step rfl (t_storeN (i := 3) rfl rfl rfl sz_30 rfl rfl rfl) ?_; refine GL.freezeB (i := 0) rfl ?_; refine GL.as_ rfl rfl ?_; refine GL.nl_ ?_; refine GC.ret ?_
      refine fun a w h => Fin.back (rs := [.tmp 6, .cell 7 30, .tmp 8]) (vs := [_, _, _]) (is := [1, 2]) (js := [0]) rfl ⟨rfl, ⟨2, _, _, _, _, rfl, rfl, .inr ⟨[_, _], rfl, ag_30, sz_30, ⟨rfl, rfl, trivial⟩⟩⟩, rfl, trivial⟩ rfl rfl ?_ h
      clear h
      have e : askF T cl se = (2, u_m30.result, 0) := by simp [askF, *]; rw [if_neg (by omega), if_neg (by omega)]
      rw [e]; exact ⟨_, _, l63, k63, rfl, rfl, rfl⟩
def resOk (code : Int) (n : Nat) : Bool := (decide (code = 1 ∨ code = 4) && decide (n ≤ 262144)) || (decide (code = 2 ∨ code = 3) && decide (n = 0))
theorem bres_ct (code : Int) (A : Option Addr) (n cp : Nat) : Ct Tryz.prog 61 [.agg #[.int .u8 code, .slice A n cp]] [] [] (fun v G Q => v = .int .i64 (if resOk code n then 0 else 42) ∧ G = [] ∧ Q = []) := by
 refine Ct.intro Tryz.func61 rfl rfl rfl (fun c hc => ?_)
 refine GC.sr_ ?_; refine GL.step rfl (t_box rfl rfl rfl) (GL.ex fun b_t1 => ?_); refine GL.as_ rfl rfl ?_; refine GL.nl_ ?_; refine GC.sr_ ?_; refine GL.as_ rfl rfl ?_; refine GL.nl_ ?_; refine GC.seq' ?_; refine GC.sr_ ?_
 refine GL.pure rfl (p_fieldAddr fo_30_0 rfl) ?_; refine GL.step rfl (t_mem rfl (m_load (i := 0) rfl rfl ag_28 rfl)) ?_; refine GL.nl_ ?_; refine GC.block ?_; refine GC.seq' ?_; refine GC.sr_ ?_; refine GL.pure rfl (p_eql rfl rfl) ?_
 refine GL.as_ rfl rfl ?_; refine GL.nl_ ?_; refine GC.cond rfl (fun h1 => ?_) (fun h1 => ?_)
 ·try simp only [tst_] at h1
  refine GC.skip (?_ : GC _ _ _ _)
  refine GC.cond rfl (fun h2 => ?_) (fun h2 => ?_)
  ·try simp only [tst_] at h2
   refine GC.region ?_; refine GL.pure rfl (p_fieldAddr fo_30_1 rfl) ?_; refine GL.step rfl (t_mem rfl (m_load (i := 0) rfl rfl ag_25 rfl)) ?_; refine GL.pure rfl (p_len Tryz.underlying25 rfl) ?_; refine GL.pure rfl (p_leq rfl rfl) ?_
   refine GL.as_ rfl rfl ?_
   refine GL.nil (?_ : GC _ _ _ _)
   refine GC.seq' ?_; refine GC.sr_ ?_; refine GL.mv_ rfl rfl ?_; refine GL.pure rfl (p_not rfl) ?_; refine GL.nl_ ?_; refine GC.cond rfl (fun h3 => ?_) (fun h3 => ?_)
   ·try simp only [tst_] at h3
    refine GC.sr_ ?_; refine GL.as_ rfl rfl ?_; refine GL.nl_ ?_; refine GC.ret ?_
    refine fun a w h => Fin.back (rs := [.tmp 2]) (vs := [_]) (is := []) (js := []) rfl ⟨rfl, trivial⟩ rfl rfl ?_ h
    clear h
    refine ⟨congrArg (Value.int .i64) ?_, rfl, rfl⟩; first | (exfalso; omega) | (simp [resOk, *]; done) | (simp [resOk, *]; omega)
   ·try simp only [tst_] at h3
    refine GC.skip (?_ : GC _ _ _ _)
    refine GC.sr_ ?_; refine GL.as_ rfl rfl ?_; refine GL.nl_ ?_; refine GC.ret ?_
    refine fun a w h => Fin.back (rs := [.tmp 2]) (vs := [_]) (is := []) (js := []) rfl ⟨rfl, trivial⟩ rfl rfl ?_ h
    clear h
    refine ⟨congrArg (Value.int .i64) ?_, rfl, rfl⟩; first | (exfalso; omega) | (simp [resOk, *]; done) | (simp [resOk, *]; omega)
  ·try simp only [tst_] at h2
   refine GC.seq' ?_; refine GC.sr_ ?_; refine GL.pure rfl (p_eql rfl rfl) ?_; refine GL.as_ rfl rfl ?_; refine GL.nl_ ?_; refine GC.cond rfl (fun h4 => ?_) (fun h4 => ?_)
   ·try simp only [tst_] at h4
    refine GC.skip (?_ : GC _ _ _ _)
    refine GC.cond rfl (fun h5 => ?_) (fun h5 => ?_)
    ·try simp only [tst_] at h5
     refine GC.region ?_; refine GL.pure rfl (p_fieldAddr fo_30_1 rfl) ?_; refine GL.step rfl (t_mem rfl (m_load (i := 0) rfl rfl ag_25 rfl)) ?_; refine GL.pure rfl (p_len Tryz.underlying25 rfl) ?_; refine GL.pure rfl (p_eql rfl rfl) ?_
     refine GL.as_ rfl rfl ?_
     refine GL.nil (?_ : GC _ _ _ _)
     refine GC.seq' ?_; refine GC.sr_ ?_; refine GL.mv_ rfl rfl ?_; refine GL.pure rfl (p_not rfl) ?_; refine GL.nl_ ?_; refine GC.cond rfl (fun h6 => ?_) (fun h6 => ?_)
     ·try simp only [tst_] at h6
      refine GC.sr_ ?_; refine GL.as_ rfl rfl ?_; refine GL.nl_ ?_; refine GC.ret ?_
      refine fun a w h => Fin.back (rs := [.tmp 2]) (vs := [_]) (is := []) (js := []) rfl ⟨rfl, trivial⟩ rfl rfl ?_ h
      clear h
      refine ⟨congrArg (Value.int .i64) ?_, rfl, rfl⟩; first | (exfalso; omega) | (simp [resOk, *]; done) | (simp [resOk, *]; omega)
     ·try simp only [tst_] at h6
      refine GC.skip (?_ : GC _ _ _ _)
      refine GC.sr_ ?_; refine GL.as_ rfl rfl ?_; refine GL.nl_ ?_; refine GC.ret ?_
      refine fun a w h => Fin.back (rs := [.tmp 2]) (vs := [_]) (is := []) (js := []) rfl ⟨rfl, trivial⟩ rfl rfl ?_ h
      clear h
      refine ⟨congrArg (Value.int .i64) ?_, rfl, rfl⟩; first | (exfalso; omega) | (simp [resOk, *]; done) | (simp [resOk, *]; omega)
    ·try simp only [tst_] at h5
     refine GC.skip (?_ : GC _ _ _ _)
     refine GC.seq' ?_; refine GC.sr_ ?_; refine GL.mv_ rfl rfl ?_; refine GL.pure rfl (p_not rfl) ?_; refine GL.nl_ ?_; refine GC.cond_true rfl ?_; refine GC.sr_ ?_; refine GL.as_ rfl rfl ?_; refine GL.nl_ ?_; refine GC.ret ?_
     refine fun a w h => Fin.back (rs := [.tmp 2]) (vs := [_]) (is := []) (js := []) rfl ⟨rfl, trivial⟩ rfl rfl ?_ h
     clear h
     refine ⟨congrArg (Value.int .i64) ?_, rfl, rfl⟩; first | (exfalso; omega) | (simp [resOk, *]; done) | (simp [resOk, *]; omega)
   ·try simp only [tst_] at h4
    refine GC.region ?_; refine GL.pure rfl (p_eql rfl rfl) ?_; refine GL.as_ rfl rfl ?_
    refine GL.nil (?_ : GC _ _ _ _)
    refine GC.cond rfl (fun h7 => ?_) (fun h7 => ?_)
    ·try simp only [tst_] at h7
     refine GC.region ?_; refine GL.pure rfl (p_fieldAddr fo_30_1 rfl) ?_; refine GL.step rfl (t_mem rfl (m_load (i := 0) rfl rfl ag_25 rfl)) ?_; refine GL.pure rfl (p_len Tryz.underlying25 rfl) ?_; refine GL.pure rfl (p_eql rfl rfl) ?_
     refine GL.as_ rfl rfl ?_
     refine GL.nil (?_ : GC _ _ _ _)
     refine GC.seq' ?_; refine GC.sr_ ?_; refine GL.mv_ rfl rfl ?_; refine GL.pure rfl (p_not rfl) ?_; refine GL.nl_ ?_; refine GC.cond rfl (fun h8 => ?_) (fun h8 => ?_)
     ·try simp only [tst_] at h8
      refine GC.sr_ ?_; refine GL.as_ rfl rfl ?_; refine GL.nl_ ?_; refine GC.ret ?_
      refine fun a w h => Fin.back (rs := [.tmp 2]) (vs := [_]) (is := []) (js := []) rfl ⟨rfl, trivial⟩ rfl rfl ?_ h
      clear h
      refine ⟨congrArg (Value.int .i64) ?_, rfl, rfl⟩; first | (exfalso; omega) | (simp [resOk, *]; done) | (simp [resOk, *]; omega)
     ·try simp only [tst_] at h8
      refine GC.skip (?_ : GC _ _ _ _)
      refine GC.sr_ ?_; refine GL.as_ rfl rfl ?_; refine GL.nl_ ?_; refine GC.ret ?_
      refine fun a w h => Fin.back (rs := [.tmp 2]) (vs := [_]) (is := []) (js := []) rfl ⟨rfl, trivial⟩ rfl rfl ?_ h
      clear h
      refine ⟨congrArg (Value.int .i64) ?_, rfl, rfl⟩; first | (exfalso; omega) | (simp [resOk, *]; done) | (simp [resOk, *]; omega)
    ·try simp only [tst_] at h7
     refine GC.skip (?_ : GC _ _ _ _)
     refine GC.seq' ?_; refine GC.sr_ ?_; refine GL.mv_ rfl rfl ?_; refine GL.pure rfl (p_not rfl) ?_; refine GL.nl_ ?_; refine GC.cond_true rfl ?_; refine GC.sr_ ?_; refine GL.as_ rfl rfl ?_; refine GL.nl_ ?_; refine GC.ret ?_
     refine fun a w h => Fin.back (rs := [.tmp 2]) (vs := [_]) (is := []) (js := []) rfl ⟨rfl, trivial⟩ rfl rfl ?_ h
     clear h
     refine ⟨congrArg (Value.int .i64) ?_, rfl, rfl⟩; first | (exfalso; omega) | (simp [resOk, *]; done) | (simp [resOk, *]; omega)
 ·try simp only [tst_] at h1
  refine GC.region ?_; refine GL.pure rfl (p_eql rfl rfl) ?_; refine GL.as_ rfl rfl ?_
  refine GL.nil (?_ : GC _ _ _ _)
  refine GC.cond rfl (fun h9 => ?_) (fun h9 => ?_)
  ·try simp only [tst_] at h9
   refine GC.region ?_; refine GL.pure rfl (p_fieldAddr fo_30_1 rfl) ?_; refine GL.step rfl (t_mem rfl (m_load (i := 0) rfl rfl ag_25 rfl)) ?_; refine GL.pure rfl (p_len Tryz.underlying25 rfl) ?_; refine GL.pure rfl (p_leq rfl rfl) ?_
   refine GL.as_ rfl rfl ?_
   refine GL.nil (?_ : GC _ _ _ _)
   refine GC.seq' ?_; refine GC.sr_ ?_; refine GL.mv_ rfl rfl ?_; refine GL.pure rfl (p_not rfl) ?_; refine GL.nl_ ?_; refine GC.cond rfl (fun h10 => ?_) (fun h10 => ?_)
   ·try simp only [tst_] at h10
    refine GC.sr_ ?_; refine GL.as_ rfl rfl ?_; refine GL.nl_ ?_; refine GC.ret ?_
    refine fun a w h => Fin.back (rs := [.tmp 2]) (vs := [_]) (is := []) (js := []) rfl ⟨rfl, trivial⟩ rfl rfl ?_ h
    clear h
    refine ⟨congrArg (Value.int .i64) ?_, rfl, rfl⟩; first | (exfalso; omega) | (simp [resOk, *]; done) | (simp [resOk, *]; omega)
   ·try simp only [tst_] at h10
    refine GC.skip (?_ : GC _ _ _ _)
    refine GC.sr_ ?_; refine GL.as_ rfl rfl ?_; refine GL.nl_ ?_; refine GC.ret ?_
    refine fun a w h => Fin.back (rs := [.tmp 2]) (vs := [_]) (is := []) (js := []) rfl ⟨rfl, trivial⟩ rfl rfl ?_ h
    clear h
    refine ⟨congrArg (Value.int .i64) ?_, rfl, rfl⟩; first | (exfalso; omega) | (simp [resOk, *]; done) | (simp [resOk, *]; omega)
  ·try simp only [tst_] at h9
   refine GC.seq' ?_; refine GC.sr_ ?_; refine GL.pure rfl (p_eql rfl rfl) ?_; refine GL.as_ rfl rfl ?_; refine GL.nl_ ?_; refine GC.cond rfl (fun h11 => ?_) (fun h11 => ?_)
   ·try simp only [tst_] at h11
    refine GC.skip (?_ : GC _ _ _ _)
    refine GC.cond rfl (fun h12 => ?_) (fun h12 => ?_)
    ·try simp only [tst_] at h12
     refine GC.region ?_; refine GL.pure rfl (p_fieldAddr fo_30_1 rfl) ?_; refine GL.step rfl (t_mem rfl (m_load (i := 0) rfl rfl ag_25 rfl)) ?_; refine GL.pure rfl (p_len Tryz.underlying25 rfl) ?_; refine GL.pure rfl (p_eql rfl rfl) ?_
     refine GL.as_ rfl rfl ?_
     refine GL.nil (?_ : GC _ _ _ _)
     refine GC.seq' ?_; refine GC.sr_ ?_; refine GL.mv_ rfl rfl ?_; refine GL.pure rfl (p_not rfl) ?_; refine GL.nl_ ?_; refine GC.cond rfl (fun h13 => ?_) (fun h13 => ?_)
     ·try simp only [tst_] at h13
      refine GC.sr_ ?_; refine GL.as_ rfl rfl ?_; refine GL.nl_ ?_; refine GC.ret ?_
      refine fun a w h => Fin.back (rs := [.tmp 2]) (vs := [_]) (is := []) (js := []) rfl ⟨rfl, trivial⟩ rfl rfl ?_ h
      clear h
      refine ⟨congrArg (Value.int .i64) ?_, rfl, rfl⟩; first | (exfalso; omega) | (simp [resOk, *]; done) | (simp [resOk, *]; omega)
     ·try simp only [tst_] at h13
      refine GC.skip (?_ : GC _ _ _ _)
      refine GC.sr_ ?_; refine GL.as_ rfl rfl ?_; refine GL.nl_ ?_; refine GC.ret ?_
      refine fun a w h => Fin.back (rs := [.tmp 2]) (vs := [_]) (is := []) (js := []) rfl ⟨rfl, trivial⟩ rfl rfl ?_ h
      clear h
      refine ⟨congrArg (Value.int .i64) ?_, rfl, rfl⟩; first | (exfalso; omega) | (simp [resOk, *]; done) | (simp [resOk, *]; omega)
    ·try simp only [tst_] at h12
     refine GC.skip (?_ : GC _ _ _ _)
     refine GC.seq' ?_; refine GC.sr_ ?_; refine GL.mv_ rfl rfl ?_; refine GL.pure rfl (p_not rfl) ?_; refine GL.nl_ ?_; refine GC.cond_true rfl ?_; refine GC.sr_ ?_; refine GL.as_ rfl rfl ?_; refine GL.nl_ ?_; refine GC.ret ?_
     refine fun a w h => Fin.back (rs := [.tmp 2]) (vs := [_]) (is := []) (js := []) rfl ⟨rfl, trivial⟩ rfl rfl ?_ h
     clear h
     refine ⟨congrArg (Value.int .i64) ?_, rfl, rfl⟩; first | (exfalso; omega) | (simp [resOk, *]; done) | (simp [resOk, *]; omega)
   ·try simp only [tst_] at h11
    refine GC.region ?_; refine GL.pure rfl (p_eql rfl rfl) ?_; refine GL.as_ rfl rfl ?_
    refine GL.nil (?_ : GC _ _ _ _)
    refine GC.cond rfl (fun h14 => ?_) (fun h14 => ?_)
    ·try simp only [tst_] at h14
     refine GC.region ?_; refine GL.pure rfl (p_fieldAddr fo_30_1 rfl) ?_; refine GL.step rfl (t_mem rfl (m_load (i := 0) rfl rfl ag_25 rfl)) ?_; refine GL.pure rfl (p_len Tryz.underlying25 rfl) ?_; refine GL.pure rfl (p_eql rfl rfl) ?_
     refine GL.as_ rfl rfl ?_
     refine GL.nil (?_ : GC _ _ _ _)
     refine GC.seq' ?_; refine GC.sr_ ?_; refine GL.mv_ rfl rfl ?_; refine GL.pure rfl (p_not rfl) ?_; refine GL.nl_ ?_; refine GC.cond rfl (fun h15 => ?_) (fun h15 => ?_)
     ·try simp only [tst_] at h15
      refine GC.sr_ ?_; refine GL.as_ rfl rfl ?_; refine GL.nl_ ?_; refine GC.ret ?_
      refine fun a w h => Fin.back (rs := [.tmp 2]) (vs := [_]) (is := []) (js := []) rfl ⟨rfl, trivial⟩ rfl rfl ?_ h
      clear h
      refine ⟨congrArg (Value.int .i64) ?_, rfl, rfl⟩; first | (exfalso; omega) | (simp [resOk, *]; done) | (simp [resOk, *]; omega)
     ·try simp only [tst_] at h15
      refine GC.skip (?_ : GC _ _ _ _)
      refine GC.sr_ ?_; refine GL.as_ rfl rfl ?_; refine GL.nl_ ?_; refine GC.ret ?_
      refine fun a w h => Fin.back (rs := [.tmp 2]) (vs := [_]) (is := []) (js := []) rfl ⟨rfl, trivial⟩ rfl rfl ?_ h
      clear h
      refine ⟨congrArg (Value.int .i64) ?_, rfl, rfl⟩; first | (exfalso; omega) | (simp [resOk, *]; done) | (simp [resOk, *]; omega)
    ·try simp only [tst_] at h14
     refine GC.skip (?_ : GC _ _ _ _)
     refine GC.seq' ?_; refine GC.sr_ ?_; refine GL.mv_ rfl rfl ?_; refine GL.pure rfl (p_not rfl) ?_; refine GL.nl_ ?_; refine GC.cond_true rfl ?_; refine GC.sr_ ?_; refine GL.as_ rfl rfl ?_; refine GL.nl_ ?_; refine GC.ret ?_
     refine fun a w h => Fin.back (rs := [.tmp 2]) (vs := [_]) (is := []) (js := []) rfl ⟨rfl, trivial⟩ rfl rfl ?_ h
     clear h
     refine ⟨congrArg (Value.int .i64) ?_, rfl, rfl⟩; first | (exfalso; omega) | (simp [resOk, *]; done) | (simp [resOk, *]; omega)
theorem resE_iff (b : Bool) : ((if b = true then (0 : Int) else 42) = 0) = (b = true) := by cases b <;> simp
def tputF (T : List (Int × Last)) (c s : Int) (r : Res) : Int × List (Int × Last) :=
  if (askF T c s).2.2 ≠ 0 then ((askF T c s).2.2, T)
  else if resOk r.code r.data.length = false then (60, T)
  else if (askF T c s).1 = 4 then (3, T)
  else if (askF T c s).1 ≠ 1 then (1, T)
  else (0, mput T c ⟨s, r⟩)
theorem resOk_len {c : Int} {n : Nat} (h : resOk c n = true) : n ≤ 262144 := by
  simp [resOk] at h; omega
theorem put_ct (p m : Nat) (es : Array MapEntry) (ck : Nat) (T : List (Int × Last)) (cl se : Int) (r : Res) (A : Option Addr) (cp : Nat) (hT : TabOk T) :
    Ct Tryz.prog 165 [.pointer (some ⟨p, 0, none⟩), .int .i64 cl, .int .i64 se, .agg #[.int .u8 r.code, .slice A r.data.length cp]] (tabG p m es ck) [Pers.map kLast true T es ck, Pers.row Kd.u8 A r.data]
      (fun v G Q => ∃ es' ck', v = .int .i64 (tputF T cl se r).1 ∧ G = tabG p m es' ck' ∧ Q = [Pers.map kLast true (tputF T cl se r).2 es' ck']) := by
 refine Ct.intro Tryz.func165 rfl rfl rfl (fun c hc => ?_)
 refine GC.sr_ ?_; refine GL.step rfl (t_box rfl rfl rfl) (GL.ex fun b_t7 => ?_); refine GL.as_ rfl rfl ?_; refine GL.nl_ ?_; refine GC.sr_ ?_
 iterate 3 refine GL.mv_ rfl rfl ?_
 refine GL.step rfl (t_call rfl fn_177 rfl (is := [1, 1]) (js := [0]) rfl rfl (by exact ask_ct _ _ _ _ _ _ _ hT)) (GL.ret ?_)
 rintro _ _ _ ⟨A16, cp16, l16, m16, rfl, rfl, rfl⟩
 refine GL.mv_ rfl rfl ?_
 iterate 3 refine GL.pure rfl (p_extract rfl rfl) ?_
 refine GL.step rfl (t_alloc rfl ze_30) (GL.ex fun b_t10 => ?_); refine GL.as_ rfl rfl ?_; refine GL.step rfl (t_storeN (i := 0) rfl rfl rfl sz_30 rfl rfl rfl) ?_; refine GL.as_ rfl rfl ?_; refine GL.nl_ ?_; refine GC.seq' ?_
 refine GC.block ?_; refine GC.sr_ ?_; refine GL.mv_ rfl rfl ?_; refine GL.pure rfl (p_neq rfl rfl) ?_; refine GL.as_ rfl rfl ?_; refine GL.nl_ ?_; refine GC.cond rfl (fun h1 => ?_) (fun h1 => ?_)
 ·try simp only [tst_, resE_iff] at h1
  refine GC.sr_ ?_; refine GL.mv_ rfl rfl ?_; refine GL.as_ rfl rfl ?_; refine GL.nl_ ?_; refine GC.ret ?_
  refine fun a w h => Fin.back (rs := [.tmp 8]) (vs := [_]) (is := [1, 1]) (js := [1]) rfl ⟨rfl, trivial⟩ rfl rfl ?_ h
  clear h
  refine ⟨es, ck, congrArg (Value.int .i64) ?_, rfl, ?_⟩ <;> simp [tputF, *]
 ·try simp only [tst_, resE_iff] at h1
  refine GC.sr_ ?_; refine GL.step rfl (t_mem rfl (m_loadN (i := 3) rfl rfl ag_30 (vs := [_, _]) sz_30 ⟨rfl, rfl, trivial⟩)) ?_; refine GL.step rfl (t_call rfl fn_61 rfl (is := []) (js := []) rfl rfl (by exact bres_ct _ _ _ _)) (GL.ret ?_)
  rintro _ _ _ ⟨rfl, rfl, rfl⟩
  refine GL.pure rfl (p_neq rfl rfl) ?_; refine GL.as_ rfl rfl ?_; refine GL.nl_ ?_; refine GC.cond rfl (fun h2 => ?_) (fun h2 => ?_)
  ·try simp only [tst_, resE_iff] at h2
   refine GC.sr_ ?_; refine GL.as_ rfl rfl ?_; refine GL.nl_ ?_; refine GC.ret ?_
   refine fun a w h => Fin.back (rs := [.tmp 8]) (vs := [_]) (is := [1, 1]) (js := [1]) rfl ⟨rfl, trivial⟩ rfl rfl ?_ h
   clear h
   refine ⟨es, ck, congrArg (Value.int .i64) ?_, rfl, ?_⟩ <;> simp [tputF, *]
  ·try simp only [tst_, resE_iff] at h2
   refine GC.sr_ ?_; refine GL.mv_ rfl rfl ?_; refine GL.pure rfl (p_eql rfl rfl) ?_; refine GL.as_ rfl rfl ?_; refine GL.nl_ ?_; refine GC.cond rfl (fun h3 => ?_) (fun h3 => ?_)
   ·try simp only [tst_, resE_iff] at h3
    refine GC.sr_ ?_; refine GL.as_ rfl rfl ?_; refine GL.nl_ ?_; refine GC.ret ?_
    refine fun a w h => Fin.back (rs := [.tmp 8]) (vs := [_]) (is := [1, 1]) (js := [1]) rfl ⟨rfl, trivial⟩ rfl rfl ?_ h
    clear h
    refine ⟨es, ck, congrArg (Value.int .i64) ?_, rfl, ?_⟩ <;> simp [tputF, *]
   ·try simp only [tst_, resE_iff] at h3
    refine GC.sr_ ?_; refine GL.mv_ rfl rfl ?_; refine GL.pure rfl (p_neq rfl rfl) ?_; refine GL.as_ rfl rfl ?_; refine GL.nl_ ?_; refine GC.cond rfl (fun h4 => ?_) (fun h4 => ?_)
    ·try simp only [tst_, resE_iff] at h4
     refine GC.sr_ ?_; refine GL.as_ rfl rfl ?_; refine GL.nl_ ?_; refine GC.ret ?_
     refine fun a w h => Fin.back (rs := [.tmp 8]) (vs := [_]) (is := [1, 1]) (js := [1]) rfl ⟨rfl, trivial⟩ rfl rfl ?_ h
     clear h
     refine ⟨es, ck, congrArg (Value.int .i64) ?_, rfl, ?_⟩ <;> simp [tputF, *]
    ·try simp only [tst_, resE_iff] at h4
     refine GC.skip (?_ : GC _ _ _ _)
     refine GC.seq' ?_; refine GC.regionM (m := 10) (M := fun a w => ∃ es2 : Array MapEntry, ∃ ck2 : Nat, St c 43 [] [.cells p [.map (some m)] 223, .blk m (.map es2 ck2)] [Pers.map kLast true (mput T cl ⟨se, r⟩) es2 ck2] a w) (is := [0, 0, 1]) (js := [0, 1, 2]) wide_ rfl rfl rfl ?_ ?_
     ·refine GA.take 0 rfl (by kernel_rfl) (by kernel_rfl) (by kernel_rfl) rfl (fun a w h => h.mem (is := [0, 0, 1]) (js := [0, 1, 2]) rfl rfl) (i_pure (p_move rfl)) ?_; refine GA.take 1 rfl (by kernel_rfl) (by kernel_rfl) (by kernel_rfl) rfl (fun a w h => h.mem (is := [0, 0, 1]) (js := [0, 1, 2]) rfl rfl) (i_pure (p_nilCheck rfl)) ?_
      refine GA.take 2 rfl (by kernel_rfl) (by kernel_rfl) (by kernel_rfl) rfl (fun a w h => h.mem (is := [0, 0, 1]) (js := [0, 1, 2]) rfl rfl) (i_pure (p_fieldAddr fo_223_0 rfl)) ?_; refine GA.take 3 rfl (by kernel_rfl) (by kernel_rfl) (by kernel_rfl) rfl (fun a w h => h.mem (is := [0, 0, 1]) (js := [0, 1, 2]) rfl rfl) (i_mem (m_load (i := 1) rfl rfl ag_221 rfl)) ?_
      refine GA.take 4 rfl (by kernel_rfl) (by kernel_rfl) (by kernel_rfl) rfl (fun a w h => h.mem (is := [0, 0, 1]) (js := [0, 1, 2]) rfl rfl) (i_pure (p_move rfl)) ?_; refine GA.take 5 rfl (by kernel_rfl) (by kernel_rfl) (by kernel_rfl) rfl (fun a w h => h.mem (is := [0, 0, 1]) (js := [0, 1, 2]) rfl rfl) (i_pure (p_move rfl)) ?_
      refine GA.take 6 rfl (by kernel_rfl) (by kernel_rfl) (by kernel_rfl) rfl (fun a w h => h.mem (is := [0, 0, 1]) (js := [0, 1, 2]) rfl rfl) (i_mem (m_loadN (i := 2) rfl rfl ag_30 (vs := [_, _]) sz_30 ⟨rfl, rfl, trivial⟩)) ?_
      have hlen : r.data.length ≤ 262144 := resOk_len h2
      refine GA.all (rs := [7]) (by kernel_rfl) (by simp) ?_
      refine GAs.cons (i := 7) rfl rfl (t_call rfl fn_178 rfl (is := []) (js := [2]) rfl rfl (by exact own_ct _ _ _ _ (by first | omega | exact Nat.le_trans hlen (by decide)))) (by rintro a w ⟨_, _, _, ⟨A41, cp41, l41, k41, rfl, rfl, rfl⟩, h⟩; exact h.mem (is := [1, 1, 2]) (js := [0, 1, 2]) rfl rfl) (GA.ret ?_) ?_
      ·rintro _ _ _ ⟨A41, cp41, l41, k41, rfl, rfl, rfl⟩
       refine GA.take 8 rfl (by kernel_rfl) (by kernel_rfl) (by kernel_rfl) rfl (fun a w h => h.mem (is := [1, 1, 2]) (js := [0, 1, 2]) rfl rfl) (i_pure (p_build ze_229 of_229 rfl rfl)) ?_; refine GA.freezeB (i := 0) rfl ?_
       refine GA.all (rs := [9]) (by kernel_rfl) (by simp) ?_
       refine GAs.cons (i := 9) rfl rfl (t_mapUpdate (i := 2) (j := 2) (u := (⟨se, r⟩ : Last)) (r := ((), ((), (A41, cp41)))) (js := [0]) rfl rfl rfl rfl rfl ⟨trivial, trivial, l41, k41⟩ rfl Tryz.underlying221 Tryz.underlying3 (fun _ _ => rfl)) (by rintro a w ⟨_, _, h⟩; exact h.mem (is := [0, 0, 1]) (js := [2, 3, 4]) rfl rfl) (GA.ex fun es_mu10 => GA.ex fun ck_mu10 => ?_) ?_
       ·exact GA.done (by kernel_rfl) (fun a w h => ⟨_, _, h.cut (is := [1, 1]) (js := [0]) trivial rfl rfl⟩)
       exact GAs.nil
      exact GAs.nil
     ·refine (?_ : GC _ _ _ _)
      refine GC.ex fun es2 => GC.ex fun ck2 => ?_; refine GC.sr_ ?_; refine GL.as_ rfl rfl ?_; refine GL.nl_ ?_; refine GC.ret ?_
      refine fun a w h => Fin.back (rs := [.tmp 8]) (vs := [_]) (is := [0, 0]) (js := [0]) rfl ⟨rfl, trivial⟩ rfl rfl ?_ h
      clear h
      refine ⟨es2, ck2, congrArg (Value.int .i64) ?_, rfl, ?_⟩ <;> simp [tputF, *]
theorem TabOk.put {T : List (Int × Last)} (h : TabOk T) (cl se : Int) (r : Res) : TabOk (tputF T cl se r).2 := by
  unfold tputF
  split
  · exact h
  · split
    · exact h
    · rename_i hr
      split
      · exact h
      · split
        · exact h
        · intro k l hl
          by_cases hk : k = cl
          · subst hk
            rw [mget_mput_same] at hl
            simp only [Option.some.injEq] at hl
            subst hl
            exact resOk_len (by simpa using hr)
          · rw [mget_mput_other _ _ hk] at hl
            exact h k l hl
theorem tnew_ct : Ct Tryz.prog 164 [] [] [] (fun v G Q => ∃ p m, v = .pointer (some ⟨p, 0, none⟩) ∧ G = tabG p m #[] 0 ∧ Q = [Pers.map kLast true [] #[] 0]) := by
 refine Ct.intro Tryz.func164 rfl rfl rfl (fun c hc => ?_)
 refine GC.sr_ ?_; refine GL.as_ rfl rfl ?_; refine GL.nl_ ?_; refine GC.sr_ ?_; refine GL.step rfl (t_makeMap rfl) (GL.ex fun m_t1 => ?_); refine GL.pure rfl (p_build ze_223 of_223 rfl rfl) ?_; refine GL.step rfl (t_box rfl rfl rfl) (GL.ex fun b_t3 => ?_)
 refine GL.as_ rfl rfl ?_; refine GL.nl_ ?_; refine GC.know (q := Pers.map kLast true [] #[] 0) (fun _ _ _ => ⟨trivial, Stamped.nil⟩) ?_; refine GC.ret ?_
 refine fun a w h => Fin.back (rs := [.tmp 0]) (vs := [_]) (is := [0, 0]) (js := [0]) rfl ⟨rfl, trivial⟩ rfl rfl ?_ h
 clear h
 exact ⟨_, _, rfl, rfl, rfl⟩
theorem put_eq (p m : Nat) (es : Array MapEntry) (ck : Nat) (T : List (Int × Last)) (cl se : Int) (r : Res) (A : Option Addr) (cp : Nat) (hT : TabOk T) (e : Int) (T' : List (Int × Last)) (he : tputF T cl se r = (e, T')) :
    Ct Tryz.prog 165 [.pointer (some ⟨p, 0, none⟩), .int .i64 cl, .int .i64 se, .agg #[.int .u8 r.code, .slice A r.data.length cp]] (tabG p m es ck) [Pers.map kLast true T es ck, Pers.row Kd.u8 A r.data]
      (fun v G Q => ∃ es' ck', v = .int .i64 e ∧ G = tabG p m es' ck' ∧ Q = [Pers.map kLast true T' es' ck']) := by
  have := put_ct p m es ck T cl se r A cp hT
  rw [he] at this
  exact this
theorem TabOk.nil : TabOk [] := fun k l h => by simp [mget] at h
theorem TabOk.one (c s : Int) (r : Res) (h : r.data.length ≤ 262144) : TabOk [(c, ⟨s, r⟩)] := fun k l hl => by
  simp only [mget] at hl
  split at hl
  · simp at hl; subst hl; exact h
  · cases hl
end Go.Proofs.YtdhdmbmknpjhbaaGreat
namespace Go.Sx
open Go
def rem {α : Type} (T : List (Int × α)) (es : List MapEntry) (seen : Array Nat) : List (Int × α) := ((T.zip es).filter fun p => !seen.contains p.2.born).map (·.1)
end Go.Sx
namespace Go.Proofs.YtdhdmbmknpjhbaaGreat
open Go Go.Sx Go.Proofs
theorem rnum_ct (n : Int) : Ct Tryz.prog 114 [.int .i64 n] [] [] (fun v G Q => v = .bool (isNum n) ∧ G = [] ∧ Q = []) := by
 refine Ct.intro Tryz.func114 rfl rfl rfl (fun c hc => ?_)
 refine GC.sr_ ?_; refine GL.as_ rfl rfl ?_; refine GL.nl_ ?_; refine GC.sr_ ?_; refine GL.mv_ rfl rfl ?_; refine GL.pure rfl (p_geq rfl rfl) ?_; refine GL.mv_ rfl rfl ?_; refine GL.split (i := 5) rfl (fun h1 => ?_) (fun h1 => ?_)
 ·try simp only [tst_] at h1
  refine GL.pureG (s := 5) rfl rfl rfl (p_move rfl) ?_; refine GL.pureG (s := 5) rfl rfl rfl (p_leq rfl rfl) ?_; refine GL.pure rfl (p_pick_true rfl rfl) ?_; refine GL.as_ rfl rfl ?_; refine GL.nl_ ?_; refine GC.ret ?_
  refine fun a w h => Fin.back (rs := [.tmp 2]) (vs := [_]) (is := []) (js := []) rfl ⟨rfl, trivial⟩ rfl rfl ?_ h
  clear h
  refine ⟨congrArg Value.bool ?_, rfl, rfl⟩; simp [isNum]; omega
 ·try simp only [tst_] at h1
  iterate 2 refine GL.pass (s := 5) rfl rfl rfl ?_
  refine GL.pure rfl (p_pick_false rfl rfl) ?_; refine GL.as_ rfl rfl ?_; refine GL.nl_ ?_; refine GC.ret ?_
  refine fun a w h => Fin.back (rs := [.tmp 2]) (vs := [_]) (is := []) (js := []) rfl ⟨rfl, trivial⟩ rfl rfl ?_ h
  clear h
  refine ⟨congrArg Value.bool ?_, rfl, rfl⟩; simp [isNum]; omega
theorem rres_ct (code : Int) (A : Option Addr) (n cp : Nat) : Ct Tryz.prog 30 [.agg #[.int .u8 code, .slice A n cp]] [] [] (fun v G Q => v = .int .i64 (if resOk code n then 0 else 42) ∧ G = [] ∧ Q = []) := by
 refine Ct.intro Tryz.func30 rfl rfl rfl (fun c hc => ?_)
 refine GC.sr_ ?_; refine GL.step rfl (t_box rfl rfl rfl) (GL.ex fun b_t1 => ?_); refine GL.as_ rfl rfl ?_; refine GL.nl_ ?_; refine GC.seq' ?_; refine GC.sr_ ?_; refine GL.pure rfl (p_fieldAddr fo_30_0 rfl) ?_; refine GL.step rfl (t_mem rfl (m_load (i := 0) rfl rfl ag_28 rfl)) ?_
 refine GL.pure rfl (p_lss rfl rfl) ?_; refine GL.mv_ rfl rfl ?_; refine GL.split (i := 6) rfl (fun h1 => ?_) (fun h1 => ?_)
 ·try simp only [tst_] at h1
  iterate 3 refine GL.pass (s := 6) rfl rfl rfl ?_
  refine GL.pure rfl (p_pick_true rfl rfl) ?_; refine GL.mv_ rfl rfl ?_
  iterate 4 refine GL.pass (s := 11) rfl rfl rfl ?_
  refine GL.pure rfl (p_pick_true rfl rfl) ?_; refine GL.nl_ ?_; refine GC.cond_true rfl ?_; refine GC.sr_ ?_; refine GL.as_ rfl rfl ?_; refine GL.nl_ ?_; refine GC.ret ?_
  refine fun a w h => Fin.back (rs := [.tmp 2]) (vs := [_]) (is := []) (js := []) rfl ⟨rfl, trivial⟩ rfl rfl ?_ h
  clear h
  refine ⟨congrArg (Value.int .i64) ?_, rfl, rfl⟩; first | (exfalso; omega) | (rw [if_pos (by simp [resOk]; omega)]) | (rw [if_neg (by simp [resOk]; omega)])
 ·try simp only [tst_] at h1
  refine GL.pureG (s := 6) rfl rfl rfl (p_fieldAddr fo_30_0 rfl) ?_; refine GL.stepG rfl (s := 6) rfl rfl (t_mem rfl (m_load (i := 0) rfl rfl ag_28 rfl)) ?_; refine GL.pureG (s := 6) rfl rfl rfl (p_gtr rfl rfl) ?_; refine GL.pure rfl (p_pick_false rfl rfl) ?_
  refine GL.mv_ rfl rfl ?_; refine GL.split (i := 11) rfl (fun h2 => ?_) (fun h2 => ?_)
  ·try simp only [tst_] at h2
   iterate 4 refine GL.pass (s := 11) rfl rfl rfl ?_
   refine GL.pure rfl (p_pick_true rfl rfl) ?_; refine GL.nl_ ?_; refine GC.cond_true rfl ?_; refine GC.sr_ ?_; refine GL.as_ rfl rfl ?_; refine GL.nl_ ?_; refine GC.ret ?_
   refine fun a w h => Fin.back (rs := [.tmp 2]) (vs := [_]) (is := []) (js := []) rfl ⟨rfl, trivial⟩ rfl rfl ?_ h
   clear h
   refine ⟨congrArg (Value.int .i64) ?_, rfl, rfl⟩; first | (exfalso; omega) | (rw [if_pos (by simp [resOk]; omega)]) | (rw [if_neg (by simp [resOk]; omega)])
  ·try simp only [tst_] at h2
   refine GL.pureG (s := 11) rfl rfl rfl (p_fieldAddr fo_30_1 rfl) ?_; refine GL.stepG rfl (s := 11) rfl rfl (t_mem rfl (m_load (i := 0) rfl rfl ag_25 rfl)) ?_; refine GL.pureG (s := 11) rfl rfl rfl (p_len Tryz.underlying25 rfl) ?_
   refine GL.pureG (s := 11) rfl rfl rfl (p_gtr rfl rfl) ?_; refine GL.pure rfl (p_pick_false rfl rfl) ?_; refine GL.nl_ ?_; refine GC.cond rfl (fun h3 => ?_) (fun h3 => ?_)
   ·try simp only [tst_] at h3
    refine GC.sr_ ?_; refine GL.as_ rfl rfl ?_; refine GL.nl_ ?_; refine GC.ret ?_
    refine fun a w h => Fin.back (rs := [.tmp 2]) (vs := [_]) (is := []) (js := []) rfl ⟨rfl, trivial⟩ rfl rfl ?_ h
    clear h
    refine ⟨congrArg (Value.int .i64) ?_, rfl, rfl⟩; first | (exfalso; omega) | (rw [if_pos (by simp [resOk]; omega)]) | (rw [if_neg (by simp [resOk]; omega)])
   ·try simp only [tst_] at h3
    refine GC.skip (?_ : GC _ _ _ _)
    refine GC.seq' ?_; refine GC.sr_ ?_; refine GL.pure rfl (p_fieldAddr fo_30_1 rfl) ?_; refine GL.step rfl (t_mem rfl (m_load (i := 0) rfl rfl ag_25 rfl)) ?_; refine GL.pure rfl (p_len Tryz.underlying25 rfl) ?_; refine GL.pure rfl (p_gtr rfl rfl) ?_
    refine GL.mv_ rfl rfl ?_; refine GL.split (i := 21) rfl (fun h4 => ?_) (fun h4 => ?_)
    ·try simp only [tst_] at h4
     refine GL.pureG (s := 21) rfl rfl rfl (p_fieldAddr fo_30_0 rfl) ?_; refine GL.stepG rfl (s := 21) rfl rfl (t_mem rfl (m_load (i := 0) rfl rfl ag_28 rfl)) ?_; refine GL.pureG (s := 21) rfl rfl rfl (p_neq rfl rfl) ?_; refine GL.pure rfl (p_pick_true rfl rfl) ?_
     refine GL.mv_ rfl rfl ?_; refine GL.split (i := 26) rfl (fun h5 => ?_) (fun h5 => ?_)
     ·try simp only [tst_] at h5
      refine GL.pureG (s := 26) rfl rfl rfl (p_fieldAddr fo_30_0 rfl) ?_; refine GL.stepG rfl (s := 26) rfl rfl (t_mem rfl (m_load (i := 0) rfl rfl ag_28 rfl)) ?_; refine GL.pureG (s := 26) rfl rfl rfl (p_neq rfl rfl) ?_
      refine GL.pure rfl (p_pick_true rfl rfl) ?_; refine GL.nl_ ?_; refine GC.cond rfl (fun h6 => ?_) (fun h6 => ?_)
      ·try simp only [tst_] at h6
       refine GC.sr_ ?_; refine GL.as_ rfl rfl ?_; refine GL.nl_ ?_; refine GC.ret ?_
       refine fun a w h => Fin.back (rs := [.tmp 2]) (vs := [_]) (is := []) (js := []) rfl ⟨rfl, trivial⟩ rfl rfl ?_ h
       clear h
       refine ⟨congrArg (Value.int .i64) ?_, rfl, rfl⟩; first | (exfalso; omega) | (rw [if_pos (by simp [resOk]; omega)]) | (rw [if_neg (by simp [resOk]; omega)])
      ·try simp only [tst_] at h6
       refine GC.skip (?_ : GC _ _ _ _)
       refine GC.sr_ ?_; refine GL.as_ rfl rfl ?_; refine GL.nl_ ?_; refine GC.ret ?_
       refine fun a w h => Fin.back (rs := [.tmp 2]) (vs := [_]) (is := []) (js := []) rfl ⟨rfl, trivial⟩ rfl rfl ?_ h
       clear h
       refine ⟨congrArg (Value.int .i64) ?_, rfl, rfl⟩; first | (exfalso; omega) | (rw [if_pos (by simp [resOk]; omega)]) | (rw [if_neg (by simp [resOk]; omega)])
     ·try simp only [tst_] at h5
      iterate 3 refine GL.pass (s := 26) rfl rfl rfl ?_
      refine GL.pure rfl (p_pick_false rfl rfl) ?_; refine GL.nl_ ?_; refine GC.cond_false rfl ?_
      refine GC.skip (?_ : GC _ _ _ _)
      refine GC.sr_ ?_; refine GL.as_ rfl rfl ?_; refine GL.nl_ ?_; refine GC.ret ?_
      refine fun a w h => Fin.back (rs := [.tmp 2]) (vs := [_]) (is := []) (js := []) rfl ⟨rfl, trivial⟩ rfl rfl ?_ h
      clear h
      refine ⟨congrArg (Value.int .i64) ?_, rfl, rfl⟩; first | (exfalso; omega) | (rw [if_pos (by simp [resOk]; omega)]) | (rw [if_neg (by simp [resOk]; omega)])
    ·try simp only [tst_] at h4
     iterate 3 refine GL.pass (s := 21) rfl rfl rfl ?_
     refine GL.pure rfl (p_pick_false rfl rfl) ?_; refine GL.mv_ rfl rfl ?_
     iterate 3 refine GL.pass (s := 26) rfl rfl rfl ?_
     refine GL.pure rfl (p_pick_false rfl rfl) ?_; refine GL.nl_ ?_; refine GC.cond_false rfl ?_
     refine GC.skip (?_ : GC _ _ _ _)
     refine GC.sr_ ?_; refine GL.as_ rfl rfl ?_; refine GL.nl_ ?_; refine GC.ret ?_
     refine fun a w h => Fin.back (rs := [.tmp 2]) (vs := [_]) (is := []) (js := []) rfl ⟨rfl, trivial⟩ rfl rfl ?_ h
     clear h
     refine ⟨congrArg (Value.int .i64) ?_, rfl, rfl⟩; first | (exfalso; omega) | (rw [if_pos (by simp [resOk]; omega)]) | (rw [if_neg (by simp [resOk]; omega)])
def rowOk (r : Row) : Bool := isNum r.client && isNum r.serial && resOk r.result.code r.result.data.length
def incB : Int → List Row → Bool
  | _, [] => true
  | b, r :: l => rowOk r && decide (b < r.client) && incB r.client l
def rightF (l : List Row) : Bool := decide (l.length ≤ 64) && incB 0 l
def lastC (l : List Row) : Nat → Int
  | 0 => 0
  | k + 1 => (gt l (k : Int)).client
theorem tdrop_gt {α : Type} [Inhabited α] {l : List α} {k : Nat} (h : k < l.length) : l.drop k = gt l (k : Int) :: l.drop (k + 1) := by
  have := gt_ok (xs := l) (i := (k : Int)) (by omega) (by omega)
  simp only [Int.toNat_natCast] at this
  rw [List.drop_eq_getElem_cons h]
  rw [List.getElem?_eq_getElem h] at this
  simp only [Option.some.injEq] at this
  rw [this]
theorem incB_step {l : List Row} {k : Nat} {b : Int} (h : k < l.length) : incB b (l.drop k) = (rowOk (gt l (k : Int)) && decide (b < (gt l (k : Int)).client) && incB (gt l (k : Int)).client (l.drop (k + 1))) := by
  rw [tdrop_gt h]; rfl
theorem incB_ok {l : List Row} {k : Nat} {b : Int} (h : k < l.length) (h1 : isNum (gt l (k : Int)).client = true) (h2 : isNum (gt l (k : Int)).serial = true) (h3 : resOk (gt l (k : Int)).result.code (gt l (k : Int)).result.data.length = true) (h4 : b < (gt l (k : Int)).client) : incB b (l.drop k) = incB (gt l (k : Int)).client (l.drop (k + 1)) := by
  rw [incB_step h, rowOk, h1, h2, h3, decide_eq_true h4]; rfl
theorem incB_bad {l : List Row} {k : Nat} {b : Int} (h : k < l.length) (h1 : isNum (gt l (k : Int)).client = false ∨ isNum (gt l (k : Int)).serial = false ∨ ¬ resOk (gt l (k : Int)).result.code (gt l (k : Int)).result.data.length = true ∨ (gt l (k : Int)).client ≤ b) : incB b (l.drop k) = false := by
  rw [incB_step h, rowOk]
  rcases h1 with h1 | h1 | h1 | h1
  · simp [h1]
  · simp [h1]
  · simp [h1]
  · simp [show ¬ b < (gt l (k : Int)).client by omega]
theorem isNum_pos {n : Int} (h : isNum n = true) : 1 ≤ n ∧ n ≤ 4611686018427387904 := by simpa [isNum] using h
theorem right_ct (A : Option Addr) (l : List Row) (cp : Nat) (hl : l.length ≤ 140737488355328) : Ct Tryz.prog 68 [.slice A l.length cp] [] [Pers.row kRow A l] (fun u G Q => u = .bool (rightF l) ∧ G = [] ∧ Q = []) := by
 refine Ct.intro Tryz.func68 rfl rfl rfl (fun c hc => ?_)
 refine GC.sr_ ?_; refine GL.as_ rfl rfl ?_; refine GL.nl_ ?_; refine GC.seq' ?_; refine GC.sr_ ?_; refine GL.mv_ rfl rfl ?_; refine GL.pure rfl (p_len Tryz.underlying37 rfl) ?_; refine GL.pure rfl (p_gtr rfl rfl) ?_; refine GL.nl_ ?_
 refine GC.cond rfl (fun h1 => ?_) (fun h1 => ?_)
 ·try simp only [tst_, resE_iff] at h1
  first
  | (exfalso; omega)
  |(skip
    refine GC.sr_ ?_; refine GL.as_ rfl rfl ?_; refine GL.nl_ ?_; refine GC.ret ?_
    refine fun a w h => Fin.back (rs := [.tmp 2]) (vs := [_]) (is := []) (js := []) rfl ⟨rfl, trivial⟩ rfl rfl ?_ h
    clear h
    exact ⟨by rw [rightF, decide_eq_false (by omega)]; rfl, rfl, rfl⟩)
 ·try simp only [tst_, resE_iff] at h1
  first
  | (exfalso; omega)
  |(skip
    refine GC.skip (?_ : GC _ _ _ _)
    refine GC.seq' ?_; refine GC.sr_ ?_; refine GL.as_ rfl rfl ?_; refine GL.nl_ ?_; refine GC.block ?_; refine GC.loopK1 (ks := [0]) (is := []) (js := [0]) (fun (k : Nat) => k ≤ l.length ∧ incB 0 l = incB (lastC l k) (l.drop k)) (fun (k : Nat) => [(3, .int .i64 (k : Int))]) (fun (k : Nat) => []) (fun (k : Nat) => []) (fun (k : Nat) => l.length - k) (0) rfl rfl rfl (fun a w h => ⟨⟨by omega, rfl⟩, h.cutK (is := []) (js := [0]) (ks := [0]) ⟨rfl, trivial⟩ rfl rfl rfl⟩) ?_
    intro k hk
    try dsimp only [List.cons_append, List.nil_append] at hk ⊢
    obtain ⟨hk, he⟩ := hk
    refine GC.seq' ?_; refine GC.sr_ ?_
    iterate 2 refine GL.mv_ rfl rfl ?_
    refine GL.pure rfl (p_len Tryz.underlying37 rfl) ?_; refine GL.pure rfl (p_lss rfl rfl) ?_; refine GL.nl_ ?_; refine GC.cond rfl (fun h2 => ?_) (fun h2 => ?_)
    ·try simp only [tst_, resE_iff] at h2
     first
     | (exfalso; omega)
     |(skip
       refine GC.skip (?_ : GC _ _ _ _)
       refine GC.seq' ?_; refine GC.block ?_; refine GC.seq' ?_
       rcases k with _ | k
       ·skip
        refine GC.layQ (y := .tmp 3) (j := 0) rfl rfl (by omega) (gt_ok (by omega) (by omega)) (fun p_x15 r_x15 hA_x15 ok_x15 => ?_)
        rcases r_x15 with ⟨_, ⟨_, ⟨_, ⟨Ax15_0, cpx15_0⟩⟩⟩⟩
        refine GC.layQ (y := .tmp 3) (j := 2) rfl rfl (by omega) (gt_ok (by omega) (by omega)) (fun p_x23 r_x23 hA_x23 ok_x23 => ?_)
        rcases r_x23 with ⟨_, ⟨_, ⟨_, ⟨Ax23_0, cpx23_0⟩⟩⟩⟩
        refine GC.layQ (y := .tmp 3) (j := 4) rfl rfl (by omega) (gt_ok (by omega) (by omega)) (fun p_x35 r_x35 hA_x35 ok_x35 => ?_)
        rcases r_x35 with ⟨_, ⟨_, ⟨_, ⟨Ax35_0, cpx35_0⟩⟩⟩⟩
        refine GC.layQ (y := .tmp 3) (j := 6) rfl rfl (by omega) (gt_ok (by omega) (by omega)) (fun p_x50 r_x50 hA_x50 ok_x50 => ?_)
        rcases r_x50 with ⟨_, ⟨_, ⟨_, ⟨Ax50_0, cpx50_0⟩⟩⟩⟩
        refine GC.regionQ wide_ (by kernel_rfl) ?_
        iterate 2 refine GQ.step rfl (q_pure (p_move rfl)) ?_
        refine GQ.step rfl (q_pure (p_indexL hA_x15 rfl rfl Tryz.underlying37 sz_61 (by omega) (by omega))) ?_; refine GQ.step rfl (q_pure (p_fieldAddr' fo_61_0 rfl)) ?_; refine GQ.step rfl (q_mem (m_loadP (i := 6) rfl rfl ag_3 rfl)) ?_
        refine GQ.step rfl (q_call fn_114 rfl (js := []) rfl (by exact rnum_ct _)) ?_; refine GQ.step rfl (q_pure (p_not rfl)) ?_; refine GQ.step rfl (q_pure (p_move rfl)) ?_; refine GQ.split (i := 20) rfl (fun h3 => ?_) (fun h3 => ?_)
        ·try simp only [tst_, resE_iff] at h3
         first
         | (exfalso; omega)
         |(skip
           iterate 7 refine GQ.pass (s := 20) rfl rfl rfl ?_
           refine GQ.step rfl (q_pure (p_pick_true rfl rfl)) ?_; refine GQ.step rfl (q_pure (p_move rfl)) ?_
           iterate 3 refine GQ.pass (s := 29) rfl rfl rfl ?_
           iterate 12 refine GQ.passU (s := 32) rfl rfl rfl ?_
           refine GQ.pass (s := 29) rfl rfl rfl ?_; refine GQ.step rfl (q_pure (p_pick_true rfl rfl)) ?_; refine GQ.step rfl (q_pure (p_move rfl)) ?_
           iterate 7 refine GQ.pass (s := 47) rfl rfl rfl ?_
           refine GQ.step rfl (q_pure (p_pick_true rfl rfl)) ?_
           refine GQ.nil (?_ : GC _ _ _ _)
           refine GC.cond_true rfl ?_; refine GC.sr_ ?_; refine GL.as_ rfl rfl ?_; refine GL.nl_ ?_; refine GC.ret ?_
           refine fun a w h => Fin.back (rs := [.tmp 2]) (vs := [_]) (is := []) (js := []) rfl ⟨rfl, trivial⟩ rfl rfl ?_ h
           clear h
           refine ⟨?_, rfl, rfl⟩
           (try simp only [show ∀ x : Nat, ((x + 1 : Nat) : Int) - 1 = x by omega] at *)
           rw [rightF, he, incB_bad (by omega) (by first | exact .inl (by assumption) | exact .inr (.inl (by assumption)) | exact .inr (.inr (.inl (by assumption))) | exact .inr (.inr (.inr (by simp only [lastC]; omega))))]
           rw [Bool.and_false]; rfl)
        ·try simp only [tst_, resE_iff] at h3
         first
         | (exfalso; omega)
         |(skip
           iterate 2 refine GQ.stepG (s := 20) rfl rfl rfl (q_pure (p_move rfl)) ?_
           refine GQ.stepG (s := 20) rfl rfl rfl (q_pure (p_indexL hA_x23 rfl rfl Tryz.underlying37 sz_61 (by omega) (by omega))) ?_; refine GQ.stepG (s := 20) rfl rfl rfl (q_pure (p_fieldAddr' fo_61_1 rfl)) ?_; refine GQ.stepG (s := 20) rfl rfl rfl (q_mem (m_loadP (i := 4) rfl rfl ag_3 rfl)) ?_
           refine GQ.stepG (s := 20) rfl rfl rfl (q_call fn_114 rfl (js := []) rfl (by exact rnum_ct _)) ?_; refine GQ.stepG (s := 20) rfl rfl rfl (q_pure (p_not rfl)) ?_; refine GQ.step rfl (q_pure (p_pick_false rfl rfl)) ?_
           refine GQ.step rfl (q_pure (p_move rfl)) ?_; refine GQ.split (i := 29) rfl (fun h4 => ?_) (fun h4 => ?_)
           ·try simp only [tst_, resE_iff] at h4
            first
            | (exfalso; omega)
            |(skip
              iterate 3 refine GQ.pass (s := 29) rfl rfl rfl ?_
              iterate 12 refine GQ.passU (s := 32) rfl rfl rfl ?_
              refine GQ.pass (s := 29) rfl rfl rfl ?_; refine GQ.step rfl (q_pure (p_pick_true rfl rfl)) ?_; refine GQ.step rfl (q_pure (p_move rfl)) ?_
              iterate 7 refine GQ.pass (s := 47) rfl rfl rfl ?_
              refine GQ.step rfl (q_pure (p_pick_true rfl rfl)) ?_
              refine GQ.nil (?_ : GC _ _ _ _)
              refine GC.cond_true rfl ?_; refine GC.sr_ ?_; refine GL.as_ rfl rfl ?_; refine GL.nl_ ?_; refine GC.ret ?_
              refine fun a w h => Fin.back (rs := [.tmp 2]) (vs := [_]) (is := []) (js := []) rfl ⟨rfl, trivial⟩ rfl rfl ?_ h
              clear h
              refine ⟨?_, rfl, rfl⟩
              (try simp only [show ∀ x : Nat, ((x + 1 : Nat) : Int) - 1 = x by omega] at *)
              rw [rightF, he, incB_bad (by omega) (by first | exact .inl (by assumption) | exact .inr (.inl (by assumption)) | exact .inr (.inr (.inl (by assumption))) | exact .inr (.inr (.inr (by simp only [lastC]; omega))))]
              rw [Bool.and_false]; rfl)
           ·try simp only [tst_, resE_iff] at h4
            first
            | (exfalso; omega)
            |(skip
              refine GQ.stepG (s := 29) rfl rfl rfl (q_pure (p_move rfl)) ?_; refine GQ.stepG (s := 29) rfl rfl rfl (q_pure (p_gtr rfl rfl)) ?_; refine GQ.stepG (s := 29) rfl rfl rfl (q_pure (p_move rfl)) ?_; refine GQ.split (i := 32) rfl (fun h5 => ?_) (fun h5 => ?_)
              ·try simp only [tst_, resE_iff] at h5
               first
               | (exfalso; omega)
               |(skip
                 iterate 2 refine GQ.stepG (s := 32) rfl rfl rfl (q_pure (p_move rfl)) ?_
                 refine GQ.stepG (s := 32) rfl rfl rfl (q_pure (p_indexL hA_x35 rfl rfl Tryz.underlying37 sz_61 (by omega) (by omega))) ?_; refine GQ.stepG (s := 32) rfl rfl rfl (q_pure (p_fieldAddr' fo_61_0 rfl)) ?_; refine GQ.stepG (s := 32) rfl rfl rfl (q_mem (m_loadP (i := 2) rfl rfl ag_3 rfl)) ?_
                 iterate 2 refine GQ.stepG (s := 32) rfl rfl rfl (q_pure (p_move rfl)) ?_
                 refine GQ.stepG (s := 32) rfl rfl rfl (q_pure (p_sub rfl rfl (w64 (by omega) (by omega)))) ?_
                 exact (by omega : False).elim)
              ·try simp only [tst_, resE_iff] at h5
               first
               | (exfalso; omega)
               |(skip
                 iterate 12 refine GQ.pass (s := 32) rfl rfl rfl ?_
                 refine GQ.stepG (s := 29) rfl rfl rfl (q_pure (p_pick_false rfl rfl)) ?_; refine GQ.step rfl (q_pure (p_pick_false rfl rfl)) ?_; refine GQ.step rfl (q_pure (p_move rfl)) ?_
                 iterate 2 refine GQ.stepG (s := 47) rfl rfl rfl (q_pure (p_move rfl)) ?_
                 refine GQ.stepG (s := 47) rfl rfl rfl (q_pure (p_indexL hA_x50 rfl rfl Tryz.underlying37 sz_61 (by omega) (by omega))) ?_; refine GQ.stepG (s := 47) rfl rfl rfl (q_pure (p_fieldAddr' fo_61_2 rfl)) ?_; refine GQ.stepG (s := 47) rfl rfl rfl (q_mem (m_loadPN (i := 0) rfl rfl ag_30 (vs := [_, _]) sz_30 ⟨rfl, rfl, trivial⟩)) ?_
                 refine GQ.stepG (s := 47) rfl rfl rfl (q_call fn_30 rfl (js := []) rfl (by exact rres_ct _ _ _ _)) ?_; refine GQ.stepG (s := 47) rfl rfl rfl (q_pure (p_neq rfl rfl)) ?_; refine GQ.step rfl (q_pure (p_pick_false rfl rfl)) ?_
                 refine GQ.nil (?_ : GC _ _ _ _)
                 refine GC.cond rfl (fun h6 => ?_) (fun h6 => ?_)
                 ·try simp only [tst_, resE_iff] at h6
                  first
                  | (exfalso; omega)
                  |(skip
                    refine GC.sr_ ?_; refine GL.as_ rfl rfl ?_; refine GL.nl_ ?_; refine GC.ret ?_
                    refine fun a w h => Fin.back (rs := [.tmp 2]) (vs := [_]) (is := []) (js := []) rfl ⟨rfl, trivial⟩ rfl rfl ?_ h
                    clear h
                    refine ⟨?_, rfl, rfl⟩
                    (try simp only [show ∀ x : Nat, ((x + 1 : Nat) : Int) - 1 = x by omega] at *)
                    rw [rightF, he, incB_bad (by omega) (by first | exact .inl (by assumption) | exact .inr (.inl (by assumption)) | exact .inr (.inr (.inl (by assumption))) | exact .inr (.inr (.inr (by simp only [lastC]; omega))))]
                    rw [Bool.and_false]; rfl)
                 ·try simp only [tst_, resE_iff] at h6
                  first
                  | (exfalso; omega)
                  |(skip
                    refine GC.skip (?_ : GC _ _ _ _)
                    refine GC.region ?_; refine GL.mv_ rfl rfl ?_; refine GL.pure rfl (p_add rfl rfl (w64 (by omega) (by omega))) ?_; refine GL.as_ rfl rfl ?_; refine GL.nil ?_
                    (try simp only [show ∀ x : Nat, ((x + 1 : Nat) : Int) - 1 = x by omega] at *)
                    exact fun a w h => ⟨(_ + 1), (by omega), ⟨by omega, by rw [he, incB_ok (by omega) (by assumption) (by assumption) (by assumption) (by first | (have := isNum_pos (by assumption : isNum (gt l ((0 : Nat) : Int)).client = true); simp only [lastC]; omega) | (simp only [lastC]; omega))]; rfl⟩, h.cut (is := []) (js := [8]) ⟨rfl, rfl, trivial⟩ rfl rfl⟩))))
       ·skip
        refine GC.lay (x := .tmp 0) (y := .const (.int .i64 (((k + 1 : Nat) : Int) - 1))) (j := 0) rfl rfl rfl (by omega) (gt_ok (by omega) (by omega)) (fun p_xp r_xp hA_xp ok_xp => ?_)
        rcases r_xp with ⟨_, ⟨_, ⟨_, ⟨Axp_0, cpxp_0⟩⟩⟩⟩
        refine GC.layQ (y := .tmp 3) (j := 2) rfl rfl (by omega) (gt_ok (by omega) (by omega)) (fun p_x15 r_x15 hA_x15 ok_x15 => ?_)
        rcases r_x15 with ⟨_, ⟨_, ⟨_, ⟨Ax15_0, cpx15_0⟩⟩⟩⟩
        refine GC.layQ (y := .tmp 3) (j := 4) rfl rfl (by omega) (gt_ok (by omega) (by omega)) (fun p_x23 r_x23 hA_x23 ok_x23 => ?_)
        rcases r_x23 with ⟨_, ⟨_, ⟨_, ⟨Ax23_0, cpx23_0⟩⟩⟩⟩
        refine GC.layQ (y := .tmp 3) (j := 6) rfl rfl (by omega) (gt_ok (by omega) (by omega)) (fun p_x35 r_x35 hA_x35 ok_x35 => ?_)
        rcases r_x35 with ⟨_, ⟨_, ⟨_, ⟨Ax35_0, cpx35_0⟩⟩⟩⟩
        refine GC.layQ (y := .tmp 3) (j := 8) rfl rfl (by omega) (gt_ok (by omega) (by omega)) (fun p_x50 r_x50 hA_x50 ok_x50 => ?_)
        rcases r_x50 with ⟨_, ⟨_, ⟨_, ⟨Ax50_0, cpx50_0⟩⟩⟩⟩
        refine GC.regionQ wide_ (by kernel_rfl) ?_
        iterate 2 refine GQ.step rfl (q_pure (p_move rfl)) ?_
        refine GQ.step rfl (q_pure (p_indexL hA_x15 rfl rfl Tryz.underlying37 sz_61 (by omega) (by omega))) ?_; refine GQ.step rfl (q_pure (p_fieldAddr' fo_61_0 rfl)) ?_; refine GQ.step rfl (q_mem (m_loadP (i := 6) rfl rfl ag_3 rfl)) ?_
        refine GQ.step rfl (q_call fn_114 rfl (js := []) rfl (by exact rnum_ct _)) ?_; refine GQ.step rfl (q_pure (p_not rfl)) ?_; refine GQ.step rfl (q_pure (p_move rfl)) ?_; refine GQ.split (i := 20) rfl (fun h7 => ?_) (fun h7 => ?_)
        ·try simp only [tst_, resE_iff] at h7
         first
         | (exfalso; omega)
         |(skip
           iterate 7 refine GQ.pass (s := 20) rfl rfl rfl ?_
           refine GQ.step rfl (q_pure (p_pick_true rfl rfl)) ?_; refine GQ.step rfl (q_pure (p_move rfl)) ?_
           iterate 3 refine GQ.pass (s := 29) rfl rfl rfl ?_
           iterate 12 refine GQ.passU (s := 32) rfl rfl rfl ?_
           refine GQ.pass (s := 29) rfl rfl rfl ?_; refine GQ.step rfl (q_pure (p_pick_true rfl rfl)) ?_; refine GQ.step rfl (q_pure (p_move rfl)) ?_
           iterate 7 refine GQ.pass (s := 47) rfl rfl rfl ?_
           refine GQ.step rfl (q_pure (p_pick_true rfl rfl)) ?_
           refine GQ.nil (?_ : GC _ _ _ _)
           refine GC.cond_true rfl ?_; refine GC.sr_ ?_; refine GL.as_ rfl rfl ?_; refine GL.nl_ ?_; refine GC.ret ?_
           refine fun a w h => Fin.back (rs := [.tmp 2]) (vs := [_]) (is := []) (js := []) rfl ⟨rfl, trivial⟩ rfl rfl ?_ h
           clear h
           refine ⟨?_, rfl, rfl⟩
           (try simp only [show ∀ x : Nat, ((x + 1 : Nat) : Int) - 1 = x by omega] at *)
           rw [rightF, he, incB_bad (by omega) (by first | exact .inl (by assumption) | exact .inr (.inl (by assumption)) | exact .inr (.inr (.inl (by assumption))) | exact .inr (.inr (.inr (by simp only [lastC]; omega))))]
           rw [Bool.and_false]; rfl)
        ·try simp only [tst_, resE_iff] at h7
         first
         | (exfalso; omega)
         |(skip
           iterate 2 refine GQ.stepG (s := 20) rfl rfl rfl (q_pure (p_move rfl)) ?_
           refine GQ.stepG (s := 20) rfl rfl rfl (q_pure (p_indexL hA_x23 rfl rfl Tryz.underlying37 sz_61 (by omega) (by omega))) ?_; refine GQ.stepG (s := 20) rfl rfl rfl (q_pure (p_fieldAddr' fo_61_1 rfl)) ?_; refine GQ.stepG (s := 20) rfl rfl rfl (q_mem (m_loadP (i := 4) rfl rfl ag_3 rfl)) ?_
           refine GQ.stepG (s := 20) rfl rfl rfl (q_call fn_114 rfl (js := []) rfl (by exact rnum_ct _)) ?_; refine GQ.stepG (s := 20) rfl rfl rfl (q_pure (p_not rfl)) ?_; refine GQ.step rfl (q_pure (p_pick_false rfl rfl)) ?_
           refine GQ.step rfl (q_pure (p_move rfl)) ?_; refine GQ.split (i := 29) rfl (fun h8 => ?_) (fun h8 => ?_)
           ·try simp only [tst_, resE_iff] at h8
            first
            | (exfalso; omega)
            |(skip
              iterate 3 refine GQ.pass (s := 29) rfl rfl rfl ?_
              iterate 12 refine GQ.passU (s := 32) rfl rfl rfl ?_
              refine GQ.pass (s := 29) rfl rfl rfl ?_; refine GQ.step rfl (q_pure (p_pick_true rfl rfl)) ?_; refine GQ.step rfl (q_pure (p_move rfl)) ?_
              iterate 7 refine GQ.pass (s := 47) rfl rfl rfl ?_
              refine GQ.step rfl (q_pure (p_pick_true rfl rfl)) ?_
              refine GQ.nil (?_ : GC _ _ _ _)
              refine GC.cond_true rfl ?_; refine GC.sr_ ?_; refine GL.as_ rfl rfl ?_; refine GL.nl_ ?_; refine GC.ret ?_
              refine fun a w h => Fin.back (rs := [.tmp 2]) (vs := [_]) (is := []) (js := []) rfl ⟨rfl, trivial⟩ rfl rfl ?_ h
              clear h
              refine ⟨?_, rfl, rfl⟩
              (try simp only [show ∀ x : Nat, ((x + 1 : Nat) : Int) - 1 = x by omega] at *)
              rw [rightF, he, incB_bad (by omega) (by first | exact .inl (by assumption) | exact .inr (.inl (by assumption)) | exact .inr (.inr (.inl (by assumption))) | exact .inr (.inr (.inr (by simp only [lastC]; omega))))]
              rw [Bool.and_false]; rfl)
           ·try simp only [tst_, resE_iff] at h8
            first
            | (exfalso; omega)
            |(skip
              refine GQ.stepG (s := 29) rfl rfl rfl (q_pure (p_move rfl)) ?_; refine GQ.stepG (s := 29) rfl rfl rfl (q_pure (p_gtr rfl rfl)) ?_; refine GQ.stepG (s := 29) rfl rfl rfl (q_pure (p_move rfl)) ?_; refine GQ.split (i := 32) rfl (fun h9 => ?_) (fun h9 => ?_)
              ·try simp only [tst_, resE_iff] at h9
               first
               | (exfalso; omega)
               |(skip
                 iterate 2 refine GQ.stepG (s := 32) rfl rfl rfl (q_pure (p_move rfl)) ?_
                 refine GQ.stepG (s := 32) rfl rfl rfl (q_pure (p_indexL hA_x35 rfl rfl Tryz.underlying37 sz_61 (by omega) (by omega))) ?_; refine GQ.stepG (s := 32) rfl rfl rfl (q_pure (p_fieldAddr' fo_61_0 rfl)) ?_; refine GQ.stepG (s := 32) rfl rfl rfl (q_mem (m_loadP (i := 2) rfl rfl ag_3 rfl)) ?_
                 iterate 2 refine GQ.stepG (s := 32) rfl rfl rfl (q_pure (p_move rfl)) ?_
                 refine GQ.stepG (s := 32) rfl rfl rfl (q_pure (p_sub rfl rfl (w64 (by omega) (by omega)))) ?_; refine GQ.stepG (s := 32) rfl rfl rfl (q_pure (p_indexL hA_xp rfl rfl Tryz.underlying37 sz_61 (by omega) (by omega))) ?_
                 refine GQ.stepG (s := 32) rfl rfl rfl (q_pure (p_fieldAddr' fo_61_0 rfl)) ?_; refine GQ.stepG (s := 32) rfl rfl rfl (q_mem (m_loadP (i := 8) rfl rfl ag_3 rfl)) ?_; refine GQ.stepG (s := 32) rfl rfl rfl (q_pure (p_leq rfl rfl)) ?_
                 refine GQ.stepG (s := 29) rfl rfl rfl (q_pure (p_pick_true rfl rfl)) ?_; refine GQ.step rfl (q_pure (p_pick_false rfl rfl)) ?_; refine GQ.step rfl (q_pure (p_move rfl)) ?_; refine GQ.split (i := 47) rfl (fun h10 => ?_) (fun h10 => ?_)
                 ·try simp only [tst_, resE_iff] at h10
                  first
                  | (exfalso; omega)
                  |(skip
                    iterate 7 refine GQ.pass (s := 47) rfl rfl rfl ?_
                    refine GQ.step rfl (q_pure (p_pick_true rfl rfl)) ?_
                    refine GQ.nil (?_ : GC _ _ _ _)
                    refine GC.cond_true rfl ?_; refine GC.sr_ ?_; refine GL.as_ rfl rfl ?_; refine GL.nl_ ?_; refine GC.ret ?_
                    refine fun a w h => Fin.back (rs := [.tmp 2]) (vs := [_]) (is := []) (js := []) rfl ⟨rfl, trivial⟩ rfl rfl ?_ h
                    clear h
                    refine ⟨?_, rfl, rfl⟩
                    (try simp only [show ∀ x : Nat, ((x + 1 : Nat) : Int) - 1 = x by omega] at *)
                    rw [rightF, he, incB_bad (by omega) (by first | exact .inl (by assumption) | exact .inr (.inl (by assumption)) | exact .inr (.inr (.inl (by assumption))) | exact .inr (.inr (.inr (by simp only [lastC]; omega))))]
                    rw [Bool.and_false]; rfl)
                 ·try simp only [tst_, resE_iff] at h10
                  first
                  | (exfalso; omega)
                  |(skip
                    iterate 2 refine GQ.stepG (s := 47) rfl rfl rfl (q_pure (p_move rfl)) ?_
                    refine GQ.stepG (s := 47) rfl rfl rfl (q_pure (p_indexL hA_x50 rfl rfl Tryz.underlying37 sz_61 (by omega) (by omega))) ?_; refine GQ.stepG (s := 47) rfl rfl rfl (q_pure (p_fieldAddr' fo_61_2 rfl)) ?_; refine GQ.stepG (s := 47) rfl rfl rfl (q_mem (m_loadPN (i := 0) rfl rfl ag_30 (vs := [_, _]) sz_30 ⟨rfl, rfl, trivial⟩)) ?_
                    refine GQ.stepG (s := 47) rfl rfl rfl (q_call fn_30 rfl (js := []) rfl (by exact rres_ct _ _ _ _)) ?_; refine GQ.stepG (s := 47) rfl rfl rfl (q_pure (p_neq rfl rfl)) ?_; refine GQ.step rfl (q_pure (p_pick_false rfl rfl)) ?_
                    refine GQ.nil (?_ : GC _ _ _ _)
                    refine GC.cond rfl (fun h11 => ?_) (fun h11 => ?_)
                    ·try simp only [tst_, resE_iff] at h11
                     first
                     | (exfalso; omega)
                     |(skip
                       refine GC.sr_ ?_; refine GL.as_ rfl rfl ?_; refine GL.nl_ ?_; refine GC.ret ?_
                       refine fun a w h => Fin.back (rs := [.tmp 2]) (vs := [_]) (is := []) (js := []) rfl ⟨rfl, trivial⟩ rfl rfl ?_ h
                       clear h
                       refine ⟨?_, rfl, rfl⟩
                       (try simp only [show ∀ x : Nat, ((x + 1 : Nat) : Int) - 1 = x by omega] at *)
                       rw [rightF, he, incB_bad (by omega) (by first | exact .inl (by assumption) | exact .inr (.inl (by assumption)) | exact .inr (.inr (.inl (by assumption))) | exact .inr (.inr (.inr (by simp only [lastC]; omega))))]
                       rw [Bool.and_false]; rfl)
                    ·try simp only [tst_, resE_iff] at h11
                     first
                     | (exfalso; omega)
                     |(skip
                       refine GC.skip (?_ : GC _ _ _ _)
                       refine GC.region ?_; refine GL.mv_ rfl rfl ?_; refine GL.pure rfl (p_add rfl rfl (w64 (by omega) (by omega))) ?_; refine GL.as_ rfl rfl ?_; refine GL.nil ?_
                       (try simp only [show ∀ x : Nat, ((x + 1 : Nat) : Int) - 1 = x by omega] at *)
                       exact fun a w h => ⟨(_ + 1), (by omega), ⟨by omega, by rw [he, incB_ok (by omega) (by assumption) (by assumption) (by assumption) (by first | (have := isNum_pos (by assumption : isNum (gt l ((0 : Nat) : Int)).client = true); simp only [lastC]; omega) | (simp only [lastC]; omega))]; rfl⟩, h.cut (is := []) (js := [10]) ⟨rfl, rfl, trivial⟩ rfl rfl⟩)))
              ·try simp only [tst_, resE_iff] at h9
               first
               | (exfalso; omega)
               |(skip
                 iterate 12 refine GQ.pass (s := 32) rfl rfl rfl ?_
                 refine GQ.stepG (s := 29) rfl rfl rfl (q_pure (p_pick_false rfl rfl)) ?_; refine GQ.step rfl (q_pure (p_pick_false rfl rfl)) ?_; refine GQ.step rfl (q_pure (p_move rfl)) ?_
                 iterate 2 refine GQ.stepG (s := 47) rfl rfl rfl (q_pure (p_move rfl)) ?_
                 refine GQ.stepG (s := 47) rfl rfl rfl (q_pure (p_indexL hA_x50 rfl rfl Tryz.underlying37 sz_61 (by omega) (by omega))) ?_; refine GQ.stepG (s := 47) rfl rfl rfl (q_pure (p_fieldAddr' fo_61_2 rfl)) ?_; refine GQ.stepG (s := 47) rfl rfl rfl (q_mem (m_loadPN (i := 0) rfl rfl ag_30 (vs := [_, _]) sz_30 ⟨rfl, rfl, trivial⟩)) ?_
                 refine GQ.stepG (s := 47) rfl rfl rfl (q_call fn_30 rfl (js := []) rfl (by exact rres_ct _ _ _ _)) ?_; refine GQ.stepG (s := 47) rfl rfl rfl (q_pure (p_neq rfl rfl)) ?_; refine GQ.step rfl (q_pure (p_pick_false rfl rfl)) ?_
                 refine GQ.nil (?_ : GC _ _ _ _)
                 refine GC.cond rfl (fun h12 => ?_) (fun h12 => ?_)
                 ·try simp only [tst_, resE_iff] at h12
                  first
                  | (exfalso; omega)
                  |(skip
                    refine GC.sr_ ?_; refine GL.as_ rfl rfl ?_; refine GL.nl_ ?_; refine GC.ret ?_
                    refine fun a w h => Fin.back (rs := [.tmp 2]) (vs := [_]) (is := []) (js := []) rfl ⟨rfl, trivial⟩ rfl rfl ?_ h
                    clear h
                    refine ⟨?_, rfl, rfl⟩
                    (try simp only [show ∀ x : Nat, ((x + 1 : Nat) : Int) - 1 = x by omega] at *)
                    rw [rightF, he, incB_bad (by omega) (by first | exact .inl (by assumption) | exact .inr (.inl (by assumption)) | exact .inr (.inr (.inl (by assumption))) | exact .inr (.inr (.inr (by simp only [lastC]; omega))))]
                    rw [Bool.and_false]; rfl)
                 ·try simp only [tst_, resE_iff] at h12
                  first
                  | (exfalso; omega)
                  |(skip
                    refine GC.skip (?_ : GC _ _ _ _)
                    refine GC.region ?_; refine GL.mv_ rfl rfl ?_; refine GL.pure rfl (p_add rfl rfl (w64 (by omega) (by omega))) ?_; refine GL.as_ rfl rfl ?_; refine GL.nil ?_
                    (try simp only [show ∀ x : Nat, ((x + 1 : Nat) : Int) - 1 = x by omega] at *)
                    exact fun a w h => ⟨(_ + 1), (by omega), ⟨by omega, by rw [he, incB_ok (by omega) (by assumption) (by assumption) (by assumption) (by first | (have := isNum_pos (by assumption : isNum (gt l ((0 : Nat) : Int)).client = true); simp only [lastC]; omega) | (simp only [lastC]; omega))]; rfl⟩, h.cut (is := []) (js := [10]) ⟨rfl, rfl, trivial⟩ rfl rfl⟩)))))
    ·try simp only [tst_, resE_iff] at h2
     first
     | (exfalso; omega)
     |(skip
       refine GC.exit (?_ : GC _ _ _ _)
       refine GC.sr_ ?_; refine GL.as_ rfl rfl ?_; refine GL.nl_ ?_; refine GC.ret ?_
       refine fun a w h => Fin.back (rs := [.tmp 2]) (vs := [_]) (is := []) (js := []) rfl ⟨rfl, trivial⟩ rfl rfl ?_ h
       clear h
       exact ⟨by rw [rightF, he, List.drop_of_length_le (by omega), decide_eq_true (by omega)]; rfl, rfl, rfl⟩))
def findR (L : List Row) (c : Int) : Option Row := L.find? fun r => decide (r.client = c)
def raskF (L : List Row) (c s : Int) : Int × Res × Int :=
  if isNum c = false ∨ isNum s = false then (0, rz, 5)
  else match findR L c with
    | none => if (L.length : Int) ≥ 64 then (4, rz, 0) else (1, rz, 0)
    | some r => if s > r.serial then (1, rz, 0) else if s = r.serial then (2, r.result, 0) else (3, rz, 0)
theorem rask_none {L : List Row} {cl s : Int} (h1 : isNum cl = true) (h2 : isNum s = true) (h : findR L cl = none) : raskF L cl s = if (L.length : Int) ≥ 64 then (4, rz, 0) else (1, rz, 0) := by
  unfold raskF; rw [if_neg (by rw [h1, h2]; simp), h]
theorem rask_bad {L : List Row} {cl s : Int} (h : isNum cl = false ∨ isNum s = false) : raskF L cl s = (0, rz, 5) := by
  unfold raskF; rw [if_pos h]
end Go.Proofs.YtdhdmbmknpjhbaaGreat
namespace Go.Proofs.YtdhdmbmknpjhbaaGreat
open Go Go.Sx Go.Proofs
def inA (cl : Int) (L : List Row) : Nat → Bool
  | 0 => false
  | k + 1 => inA cl L k || decide ((gt L (k : Int)).client ≥ cl)
def accA (row : Row) (L : List Row) : Nat → List Row
  | 0 => []
  | k + 1 => accA row L k ++ (if inA row.client L k = false ∧ (gt L (k : Int)).client ≥ row.client then [row] else []) ++ (if (gt L (k : Int)).client ≠ row.client then [gt L (k : Int)] else [])
def insL (row : Row) (L : List Row) : List Row := accA row L L.length ++ (if inA row.client L L.length = false then [row] else [])
def rputF (L : List Row) (cl s : Int) (r : Res) : Int × List Row :=
  if (raskF L cl s).2.2 ≠ 0 then ((raskF L cl s).2.2, L)
  else if resOk r.code r.data.length = false then (60, L)
  else if (raskF L cl s).1 = 4 then (3, L)
  else if (raskF L cl s).1 ≠ 1 then (1, L)
  else (0, insL ⟨cl, s, r⟩ L)
end Go.Proofs.YtdhdmbmknpjhbaaGreat
namespace Go.Proofs.YtdhdmbmknpjhbaaGreat
open Go Go.Sx Go.Proofs
def rlastF (L : List Row) (cl : Int) : Int × Bool := match findR L cl with | none => (0, false) | some r => (r.serial, true)
def lastF (T : List (Int × Last)) (cl : Int) : Int × Bool := match mget T cl with | none => (0, false) | some r => (r.serial, true)
theorem sameRes_iff (r s : Res) : sameRes r s = decide (r = s) := by
  cases r; cases s; simp [sameRes]
theorem row_ext {r s : Row} (h1 : r.client = s.client) (h2 : r.serial = s.serial) (h3 : r.result = s.result) : r = s := by
  cases r; cases s; simp_all
theorem gt_ne {α : Type} [Inhabited α] {a b : List α} {k : Int} (h : gt a k ≠ gt b k) : a ≠ b := fun e => h (by rw [e])
theorem list_ext_gt {α : Type} [Inhabited α] {a b : List α} (hl : a.length = b.length) (h : ∀ j : Nat, j < a.length → gt a (j : Int) = gt b (j : Int)) : a = b := by
  apply List.ext_getElem hl
  intro i h1 h2
  have g1 := gt_ok (xs := a) (i := (i : Int)) (by omega) (by omega)
  have g2 := gt_ok (xs := b) (i := (i : Int)) (by omega) (by omega)
  simp only [Int.toNat_natCast, List.getElem?_eq_getElem h1, List.getElem?_eq_getElem h2, Option.some.injEq] at g1 g2
  rw [g1, g2, h i h1]
theorem rsame_ct (A : Option Addr) (a_ : List Row) (cp : Nat) (B : Option Addr) (b_ : List Row) (cq : Nat) (hl : a_.length ≤ 140737488355328) : Ct Tryz.prog 74 [.slice A a_.length cp, .slice B b_.length cq] [] [Pers.row kRow A a_, Pers.row kRow B b_] (fun u G Q => u = .bool (decide (a_ = b_)) ∧ G = [] ∧ Q = []) := by
 refine Ct.intro Tryz.func74 rfl rfl rfl (fun c hc => ?_)
 refine GC.sr_ ?_; refine GL.as_ rfl rfl ?_; refine GL.nl_ ?_; refine GC.seq' ?_; refine GC.sr_ ?_; refine GL.mv_ rfl rfl ?_; refine GL.pure rfl (p_len Tryz.underlying37 rfl) ?_; refine GL.mv_ rfl rfl ?_; refine GL.pure rfl (p_len Tryz.underlying37 rfl) ?_
 refine GL.pure rfl (p_neq rfl rfl) ?_; refine GL.nl_ ?_; refine GC.cond rfl (fun h1 => ?_) (fun h1 => ?_)
 ·try simp only [tst_, sameRes_iff] at h1
  first
  | (exfalso; omega)
  |(skip
    refine GC.sr_ ?_; refine GL.as_ rfl rfl ?_; refine GL.nl_ ?_; refine GC.ret ?_
    refine fun a w h => Fin.back (rs := [.tmp 4]) (vs := [_]) (is := []) (js := []) rfl ⟨rfl, trivial⟩ rfl rfl ?_ h
    clear h
    exact ⟨congrArg Value.bool (decide_eq_false fun e => by subst e; omega).symm, rfl, rfl⟩)
 ·try simp only [tst_, sameRes_iff] at h1
  first
  | (exfalso; omega)
  |(skip
    refine GC.skip (?_ : GC _ _ _ _)
    refine GC.seq' ?_; refine GC.sr_ ?_; refine GL.as_ rfl rfl ?_; refine GL.nl_ ?_; refine GC.block ?_; refine GC.loopK1 (ks := [0, 1]) (is := []) (js := [0, 1]) (fun (k : Nat) => k ≤ a_.length ∧ ∀ j : Nat, j < k → gt a_ (j : Int) = gt b_ (j : Int)) (fun (k : Nat) => [(5, .int .i64 (k : Int))]) (fun (k : Nat) => []) (fun (k : Nat) => []) (fun (k : Nat) => a_.length - k) (0) rfl rfl rfl (fun a w h => ⟨⟨by omega, fun j hj => by omega⟩, h.cutK (is := []) (js := [0, 1]) (ks := [0, 1]) ⟨rfl, trivial⟩ rfl rfl rfl⟩) ?_
    intro k hk
    try dsimp only [List.cons_append, List.nil_append] at hk ⊢
    obtain ⟨hk, he⟩ := hk
    refine GC.seq' ?_; refine GC.sr_ ?_
    iterate 2 refine GL.mv_ rfl rfl ?_
    refine GL.pure rfl (p_len Tryz.underlying37 rfl) ?_; refine GL.pure rfl (p_lss rfl rfl) ?_; refine GL.nl_ ?_; refine GC.cond rfl (fun h2 => ?_) (fun h2 => ?_)
    ·try simp only [tst_, sameRes_iff] at h2
     first
     | (exfalso; omega)
     |(skip
       refine GC.skip (?_ : GC _ _ _ _)
       refine GC.seq' ?_; refine GC.block ?_; refine GC.seq' ?_; refine GC.layQ (y := .tmp 5) (j := 0) rfl rfl (by omega) (gt_ok (by omega) (by omega)) (fun p_x19 r_x19 hA_x19 ok_x19 => ?_)
       rcases r_x19 with ⟨_, ⟨_, ⟨_, ⟨Ax19_0, cpx19_0⟩⟩⟩⟩
       refine GC.layQ (y := .tmp 5) (j := 3) rfl rfl (by omega) (gt_ok (by omega) (by omega)) (fun p_x24 r_x24 hA_x24 ok_x24 => ?_)
       rcases r_x24 with ⟨_, ⟨_, ⟨_, ⟨Ax24_0, cpx24_0⟩⟩⟩⟩
       refine GC.layQ (y := .tmp 5) (j := 4) rfl rfl (by omega) (gt_ok (by omega) (by omega)) (fun p_x31 r_x31 hA_x31 ok_x31 => ?_)
       rcases r_x31 with ⟨_, ⟨_, ⟨_, ⟨Ax31_0, cpx31_0⟩⟩⟩⟩
       refine GC.layQ (y := .tmp 5) (j := 7) rfl rfl (by omega) (gt_ok (by omega) (by omega)) (fun p_x36 r_x36 hA_x36 ok_x36 => ?_)
       rcases r_x36 with ⟨_, ⟨_, ⟨_, ⟨Ax36_0, cpx36_0⟩⟩⟩⟩
       refine GC.layQ (y := .tmp 5) (j := 8) rfl rfl (by omega) (gt_ok (by omega) (by omega)) (fun p_x44 r_x44 hA_x44 ok_x44 => ?_)
       rcases r_x44 with ⟨_, ⟨_, ⟨_, ⟨Ax44_0, cpx44_0⟩⟩⟩⟩
       refine GC.layQ (y := .tmp 5) (j := 11) rfl rfl (by omega) (gt_ok (by omega) (by omega)) (fun p_x49 r_x49 hA_x49 ok_x49 => ?_)
       rcases r_x49 with ⟨_, ⟨_, ⟨_, ⟨Ax49_0, cpx49_0⟩⟩⟩⟩
       refine GC.regionQ wide_ (by kernel_rfl) ?_
       iterate 2 refine GQ.step rfl (q_pure (p_move rfl)) ?_
       refine GQ.step rfl (q_pure (p_indexL hA_x19 rfl rfl Tryz.underlying37 sz_61 (by omega) (by omega))) ?_; refine GQ.step rfl (q_pure (p_fieldAddr' fo_61_0 rfl)) ?_; refine GQ.step rfl (q_mem (m_loadP (i := 10) rfl rfl ag_3 rfl)) ?_
       iterate 2 refine GQ.step rfl (q_pure (p_move rfl)) ?_
       refine GQ.step rfl (q_pure (p_indexL hA_x24 rfl rfl Tryz.underlying37 sz_61 (by omega) (by omega))) ?_; refine GQ.step rfl (q_pure (p_fieldAddr' fo_61_0 rfl)) ?_; refine GQ.step rfl (q_mem (m_loadP (i := 8) rfl rfl ag_3 rfl)) ?_
       refine GQ.step rfl (q_pure (p_neq rfl rfl)) ?_; refine GQ.step rfl (q_pure (p_move rfl)) ?_; refine GQ.split (i := 28) rfl (fun h3 => ?_) (fun h3 => ?_)
       ·try simp only [tst_, sameRes_iff] at h3
        first
        | (exfalso; omega)
        |(skip
          iterate 11 refine GQ.pass (s := 28) rfl rfl rfl ?_
          refine GQ.step rfl (q_pure (p_pick_true rfl rfl)) ?_; refine GQ.step rfl (q_pure (p_move rfl)) ?_
          iterate 12 refine GQ.pass (s := 41) rfl rfl rfl ?_
          refine GQ.step rfl (q_pure (p_pick_true rfl rfl)) ?_
          refine GQ.nil (?_ : GC _ _ _ _)
          refine GC.cond_true rfl ?_; refine GC.sr_ ?_; refine GL.as_ rfl rfl ?_; refine GL.nl_ ?_; refine GC.ret ?_
          refine fun a w h => Fin.back (rs := [.tmp 4]) (vs := [_]) (is := []) (js := []) rfl ⟨rfl, trivial⟩ rfl rfl ?_ h
          clear h
          exact ⟨congrArg Value.bool (decide_eq_false (gt_ne (k := (k : Int)) fun e => by simp_all)).symm, rfl, rfl⟩)
       ·try simp only [tst_, sameRes_iff] at h3
        first
        | (exfalso; omega)
        |(skip
          iterate 2 refine GQ.stepG (s := 28) rfl rfl rfl (q_pure (p_move rfl)) ?_
          refine GQ.stepG (s := 28) rfl rfl rfl (q_pure (p_indexL hA_x31 rfl rfl Tryz.underlying37 sz_61 (by omega) (by omega))) ?_; refine GQ.stepG (s := 28) rfl rfl rfl (q_pure (p_fieldAddr' fo_61_1 rfl)) ?_; refine GQ.stepG (s := 28) rfl rfl rfl (q_mem (m_loadP (i := 6) rfl rfl ag_3 rfl)) ?_
          iterate 2 refine GQ.stepG (s := 28) rfl rfl rfl (q_pure (p_move rfl)) ?_
          refine GQ.stepG (s := 28) rfl rfl rfl (q_pure (p_indexL hA_x36 rfl rfl Tryz.underlying37 sz_61 (by omega) (by omega))) ?_; refine GQ.stepG (s := 28) rfl rfl rfl (q_pure (p_fieldAddr' fo_61_1 rfl)) ?_; refine GQ.stepG (s := 28) rfl rfl rfl (q_mem (m_loadP (i := 4) rfl rfl ag_3 rfl)) ?_
          refine GQ.stepG (s := 28) rfl rfl rfl (q_pure (p_neq rfl rfl)) ?_; refine GQ.step rfl (q_pure (p_pick_false rfl rfl)) ?_; refine GQ.step rfl (q_pure (p_move rfl)) ?_; refine GQ.split (i := 41) rfl (fun h4 => ?_) (fun h4 => ?_)
          ·try simp only [tst_, sameRes_iff] at h4
           first
           | (exfalso; omega)
           |(skip
             iterate 12 refine GQ.pass (s := 41) rfl rfl rfl ?_
             refine GQ.step rfl (q_pure (p_pick_true rfl rfl)) ?_
             refine GQ.nil (?_ : GC _ _ _ _)
             refine GC.cond_true rfl ?_; refine GC.sr_ ?_; refine GL.as_ rfl rfl ?_; refine GL.nl_ ?_; refine GC.ret ?_
             refine fun a w h => Fin.back (rs := [.tmp 4]) (vs := [_]) (is := []) (js := []) rfl ⟨rfl, trivial⟩ rfl rfl ?_ h
             clear h
             exact ⟨congrArg Value.bool (decide_eq_false (gt_ne (k := (k : Int)) fun e => by simp_all)).symm, rfl, rfl⟩)
          ·try simp only [tst_, sameRes_iff] at h4
           first
           | (exfalso; omega)
           |(skip
             iterate 2 refine GQ.stepG (s := 41) rfl rfl rfl (q_pure (p_move rfl)) ?_
             refine GQ.stepG (s := 41) rfl rfl rfl (q_pure (p_indexL hA_x44 rfl rfl Tryz.underlying37 sz_61 (by omega) (by omega))) ?_; refine GQ.stepG (s := 41) rfl rfl rfl (q_pure (p_fieldAddr' fo_61_2 rfl)) ?_; refine GQ.stepG (s := 41) rfl rfl rfl (q_mem (m_loadPN (i := 2) rfl rfl ag_30 (vs := [_, _]) sz_30 ⟨rfl, rfl, trivial⟩)) ?_
             iterate 2 refine GQ.stepG (s := 41) rfl rfl rfl (q_pure (p_move rfl)) ?_
             refine GQ.stepG (s := 41) rfl rfl rfl (q_pure (p_indexL hA_x49 rfl rfl Tryz.underlying37 sz_61 (by omega) (by omega))) ?_; refine GQ.stepG (s := 41) rfl rfl rfl (q_pure (p_fieldAddr' fo_61_2 rfl)) ?_; refine GQ.stepG (s := 41) rfl rfl rfl (q_mem (m_loadPN (i := 0) rfl rfl ag_30 (vs := [_, _]) sz_30 ⟨rfl, rfl, trivial⟩)) ?_
             refine GQ.stepG (s := 41) rfl rfl rfl (q_call fn_41 rfl (js := [3, 1]) rfl (by exact same_ct _ _ _ _ _ _)) ?_; refine GQ.stepG (s := 41) rfl rfl rfl (q_pure (p_not rfl)) ?_; refine GQ.step rfl (q_pure (p_pick_false rfl rfl)) ?_
             refine GQ.nil (?_ : GC _ _ _ _)
             refine GC.cond rfl (fun h5 => ?_) (fun h5 => ?_)
             ·try simp only [tst_, sameRes_iff] at h5
              first
              | (exfalso; omega)
              |(skip
                refine GC.sr_ ?_; refine GL.as_ rfl rfl ?_; refine GL.nl_ ?_; refine GC.ret ?_
                refine fun a w h => Fin.back (rs := [.tmp 4]) (vs := [_]) (is := []) (js := []) rfl ⟨rfl, trivial⟩ rfl rfl ?_ h
                clear h
                exact ⟨congrArg Value.bool (decide_eq_false (gt_ne (k := (k : Int)) fun e => by simp_all)).symm, rfl, rfl⟩)
             ·try simp only [tst_, sameRes_iff] at h5
              first
              | (exfalso; omega)
              |(skip
                refine GC.skip (?_ : GC _ _ _ _)
                refine GC.region ?_; refine GL.mv_ rfl rfl ?_; refine GL.pure rfl (p_add rfl rfl (w64 (by omega) (by omega))) ?_; refine GL.as_ rfl rfl ?_; refine GL.nil ?_
                exact fun a w h => ⟨(k + 1), (by omega), ⟨by omega, fun j hj => (Nat.lt_succ_iff_lt_or_eq.1 hj).elim (he j) (fun e => by subst e; exact row_ext (by assumption) (by assumption) (by assumption))⟩, h.cut (is := []) (js := [12, 13]) ⟨rfl, rfl, rfl, trivial⟩ rfl rfl⟩))))
    ·try simp only [tst_, sameRes_iff] at h2
     first
     | (exfalso; omega)
     |(skip
       refine GC.exit (?_ : GC _ _ _ _)
       refine GC.sr_ ?_; refine GL.as_ rfl rfl ?_; refine GL.nl_ ?_; refine GC.ret ?_
       refine fun a w h => Fin.back (rs := [.tmp 4]) (vs := [_]) (is := []) (js := []) rfl ⟨rfl, trivial⟩ rfl rfl ?_ h
       clear h
       exact ⟨congrArg Value.bool (decide_eq_true (list_ext_gt (by omega) fun j hj => he j (by omega))).symm, rfl, rfl⟩))
theorem samec_ct (r s : Row) (A : Option Addr) (cp : Nat) (B : Option Addr) (cq : Nat) : Ct Tryz.prog 116 [.agg #[.int .i64 r.client, .int .i64 r.serial, .int .u8 r.result.code, .slice A r.result.data.length cp], .agg #[.int .i64 s.client, .int .i64 s.serial, .int .u8 s.result.code, .slice B s.result.data.length cq]] [] [Pers.row Kd.u8 A r.result.data, Pers.row Kd.u8 B s.result.data] (fun u G Q => u = .bool (decide (r = s)) ∧ G = [] ∧ Q = []) := by
 refine Ct.intro Tryz.func116 rfl rfl rfl (fun c hc => ?_)
 refine GC.sr_ ?_; refine GL.step rfl (t_box rfl rfl rfl) (GL.ex fun b_t2 => ?_); refine GL.step rfl (t_box rfl rfl rfl) (GL.ex fun b_t3 => ?_); refine GL.as_ rfl rfl ?_; refine GL.nl_ ?_; refine GC.sr_ ?_; refine GL.pure rfl (p_fieldAddr fo_61_0 rfl) ?_
 refine GL.step rfl (t_mem rfl (m_load (i := 1) rfl rfl ag_3 rfl)) ?_; refine GL.pure rfl (p_fieldAddr fo_61_0 rfl) ?_; refine GL.step rfl (t_mem rfl (m_load (i := 0) rfl rfl ag_3 rfl)) ?_; refine GL.pure rfl (p_eql rfl rfl) ?_
 refine GL.mv_ rfl rfl ?_; refine GL.split (i := 10) rfl (fun h1 => ?_) (fun h1 => ?_)
 ·try simp only [tst_] at h1
  refine GL.pureG (s := 10) rfl rfl rfl (p_fieldAddr fo_61_1 rfl) ?_; refine GL.stepG rfl (s := 10) rfl rfl (t_mem rfl (m_load (i := 1) rfl rfl ag_3 rfl)) ?_; refine GL.pureG (s := 10) rfl rfl rfl (p_fieldAddr fo_61_1 rfl) ?_
  refine GL.stepG rfl (s := 10) rfl rfl (t_mem rfl (m_load (i := 0) rfl rfl ag_3 rfl)) ?_; refine GL.pureG (s := 10) rfl rfl rfl (p_eql rfl rfl) ?_; refine GL.pure rfl (p_pick_true rfl rfl) ?_; refine GL.mv_ rfl rfl ?_; refine GL.split (i := 17) rfl (fun h2 => ?_) (fun h2 => ?_)
  ·try simp only [tst_] at h2
   refine GL.pureG (s := 17) rfl rfl rfl (p_fieldAddr fo_61_2 rfl) ?_; refine GL.pureG (s := 17) rfl rfl rfl (p_fieldAddr fo_30_0 rfl) ?_; refine GL.stepG rfl (s := 17) rfl rfl (t_mem rfl (m_load (i := 1) rfl rfl ag_28 rfl)) ?_
   refine GL.pureG (s := 17) rfl rfl rfl (p_fieldAddr fo_61_2 rfl) ?_; refine GL.pureG (s := 17) rfl rfl rfl (p_fieldAddr fo_30_0 rfl) ?_; refine GL.stepG rfl (s := 17) rfl rfl (t_mem rfl (m_load (i := 0) rfl rfl ag_28 rfl)) ?_
   refine GL.pureG (s := 17) rfl rfl rfl (p_eql rfl rfl) ?_; refine GL.pure rfl (p_pick_true rfl rfl) ?_; refine GL.mv_ rfl rfl ?_; refine GL.split (i := 26) rfl (fun h3 => ?_) (fun h3 => ?_)
   ·try simp only [tst_] at h3
    refine GL.pureG (s := 26) rfl rfl rfl (p_fieldAddr fo_61_2 rfl) ?_; refine GL.pureG (s := 26) rfl rfl rfl (p_fieldAddr fo_30_1 rfl) ?_; refine GL.stepG rfl (s := 26) rfl rfl (t_mem rfl (m_load (i := 1) rfl rfl ag_25 rfl)) ?_
    refine GL.pureG (s := 26) rfl rfl rfl (p_fieldAddr fo_61_2 rfl) ?_; refine GL.pureG (s := 26) rfl rfl rfl (p_fieldAddr fo_30_1 rfl) ?_; refine GL.stepG rfl (s := 26) rfl rfl (t_mem rfl (m_load (i := 0) rfl rfl ag_25 rfl)) ?_
    refine GL.stepG rfl (s := 26) rfl rfl (t_call rfl fn_35 rfl (is := []) (js := [0, 1]) rfl rfl (by exact equal_ct _ _ _ _ _ _)) (GL.ret ?_)
    rintro _ _ _ ⟨rfl, rfl, rfl⟩
    refine GL.pure rfl (p_pick_true rfl rfl) ?_; refine GL.as_ rfl rfl ?_; refine GL.nl_ ?_; refine GC.ret ?_
    refine fun a w h => Fin.back (rs := [.tmp 4]) (vs := [_]) (is := []) (js := []) rfl ⟨rfl, trivial⟩ rfl rfl ?_ h
    clear h
    refine ⟨congrArg Value.bool ?_, rfl, rfl⟩; obtain ⟨r1, r2, r3, r4⟩ := r; obtain ⟨s1, s2, s3, s4⟩ := s; simp_all
   ·try simp only [tst_] at h3
    iterate 7 refine GL.pass (s := 26) rfl rfl rfl ?_
    refine GL.pure rfl (p_pick_false rfl rfl) ?_; refine GL.as_ rfl rfl ?_; refine GL.nl_ ?_; refine GC.ret ?_
    refine fun a w h => Fin.back (rs := [.tmp 4]) (vs := [_]) (is := []) (js := []) rfl ⟨rfl, trivial⟩ rfl rfl ?_ h
    clear h
    refine ⟨congrArg Value.bool ?_, rfl, rfl⟩; obtain ⟨r1, r2, r3, r4⟩ := r; obtain ⟨s1, s2, s3, s4⟩ := s; simp_all
  ·try simp only [tst_] at h2
   iterate 7 refine GL.pass (s := 17) rfl rfl rfl ?_
   refine GL.pure rfl (p_pick_false rfl rfl) ?_; refine GL.mv_ rfl rfl ?_
   iterate 7 refine GL.pass (s := 26) rfl rfl rfl ?_
   refine GL.pure rfl (p_pick_false rfl rfl) ?_; refine GL.as_ rfl rfl ?_; refine GL.nl_ ?_; refine GC.ret ?_
   refine fun a w h => Fin.back (rs := [.tmp 4]) (vs := [_]) (is := []) (js := []) rfl ⟨rfl, trivial⟩ rfl rfl ?_ h
   clear h
   refine ⟨congrArg Value.bool ?_, rfl, rfl⟩; obtain ⟨r1, r2, r3, r4⟩ := r; obtain ⟨s1, s2, s3, s4⟩ := s; simp_all
 ·try simp only [tst_] at h1
  iterate 5 refine GL.pass (s := 10) rfl rfl rfl ?_
  refine GL.pure rfl (p_pick_false rfl rfl) ?_; refine GL.mv_ rfl rfl ?_
  iterate 7 refine GL.pass (s := 17) rfl rfl rfl ?_
  refine GL.pure rfl (p_pick_false rfl rfl) ?_; refine GL.mv_ rfl rfl ?_
  iterate 7 refine GL.pass (s := 26) rfl rfl rfl ?_
  refine GL.pure rfl (p_pick_false rfl rfl) ?_; refine GL.as_ rfl rfl ?_; refine GL.nl_ ?_; refine GC.ret ?_
  refine fun a w h => Fin.back (rs := [.tmp 4]) (vs := [_]) (is := []) (js := []) rfl ⟨rfl, trivial⟩ rfl rfl ?_ h
  clear h
  refine ⟨congrArg Value.bool ?_, rfl, rfl⟩; obtain ⟨r1, r2, r3, r4⟩ := r; obtain ⟨s1, s2, s3, s4⟩ := s; simp_all
theorem eqfunc_ct (A : Option Addr) (a_ : List Row) (cp : Nat) (B : Option Addr) (b_ : List Row) (cq : Nat) (hl : a_.length ≤ 140737488355328) : Ct Tryz.prog 115 [.slice A a_.length cp, .slice B b_.length cq, .func (.func 116) #[] #[]] [] [Pers.row kRow A a_, Pers.row kRow B b_] (fun u G Q => u = .bool (decide (a_ = b_)) ∧ G = [] ∧ Q = []) := by
 refine Ct.intro Tryz.func115 rfl rfl rfl (fun c hc => ?_)
 refine GC.sr_ ?_; refine GL.as_ rfl rfl ?_; refine GL.nl_ ?_; refine GC.seq' ?_; refine GC.sr_ ?_; refine GL.mv_ rfl rfl ?_; refine GL.pure rfl (p_len Tryz.underlying37 rfl) ?_; refine GL.mv_ rfl rfl ?_; refine GL.pure rfl (p_len Tryz.underlying37 rfl) ?_
 refine GL.pure rfl (p_neq rfl rfl) ?_; refine GL.nl_ ?_; refine GC.cond rfl (fun h1 => ?_) (fun h1 => ?_)
 ·try simp only [tst_] at h1
  first
  | (exfalso; omega)
  |(skip
    refine GC.sr_ ?_; refine GL.as_ rfl rfl ?_; refine GL.nl_ ?_; refine GC.ret ?_
    refine fun a w h => Fin.back (rs := [.tmp 6]) (vs := [_]) (is := []) (js := []) rfl ⟨rfl, trivial⟩ rfl rfl ?_ h
    clear h
    exact ⟨congrArg Value.bool (decide_eq_false fun e => by subst e; omega).symm, rfl, rfl⟩)
 ·try simp only [tst_] at h1
  first
  | (exfalso; omega)
  |(skip
    refine GC.skip (?_ : GC _ _ _ _)
    refine GC.seq' ?_; refine GC.sr_ ?_; refine GL.mv_ rfl rfl ?_; refine GL.pure rfl (p_len Tryz.underlying37 rfl) ?_; refine GL.mv_ rfl rfl ?_; refine GL.nl_ ?_; refine GC.block ?_; refine GC.loopK1 (ks := [1, 2, 15, 16]) (is := []) (js := [0, 1]) (fun (k : Nat) => k ≤ a_.length ∧ ∀ j : Nat, j < k → gt a_ (j : Int) = gt b_ (j : Int)) (fun (k : Nat) => [(17, .int .i64 (k : Int))]) (fun (k : Nat) => []) (fun (k : Nat) => []) (fun (k : Nat) => a_.length - k) (0) rfl rfl rfl (fun a w h => ⟨⟨by omega, fun j hj => by omega⟩, h.cutK (is := []) (js := [0, 1]) (ks := [1, 2, 15, 16]) ⟨rfl, trivial⟩ rfl rfl rfl⟩) ?_
    intro k hk
    try dsimp only [List.cons_append, List.nil_append] at hk ⊢
    obtain ⟨hk, he⟩ := hk
    refine GC.sr_ ?_; refine GL.pure rfl (p_lss rfl rfl) ?_; refine GL.nl_ ?_; refine GC.seq' ?_; refine GC.cond rfl (fun h2 => ?_) (fun h2 => ?_)
    ·try simp only [tst_] at h2
     first
     | (exfalso; omega)
     |(skip
       refine GC.skip (?_ : GC _ _ _ _)
       refine GC.seq' ?_; refine GC.block ?_; refine GC.sr_ ?_; refine GL.mv_ rfl rfl ?_; refine GL.step rfl (t_index (i := 0) rfl rfl rfl rfl Tryz.underlying37 sz_61 (by omega) (gt_ok (by omega) (by omega))) (GL.ex fun p_x20 => GL.ex fun r_x20 => GL.and fun ok_x20 => ?_)
       rcases r_x20 with ⟨_, ⟨_, ⟨_, ⟨Ax20_0, cpx20_0⟩⟩⟩⟩
       refine GL.step rfl (t_mem rfl (m_loadPN (i := 0) rfl rfl ag_61 (vs := [_, _, _, _]) sz_61 ⟨rfl, rfl, rfl, rfl, trivial⟩)) ?_; refine GL.step rfl (t_alloc rfl ze_61) (GL.ex fun b_t8 => ?_); refine GL.as_ rfl rfl ?_
       refine GL.step rfl (t_storeN (i := 0) rfl rfl rfl sz_61 rfl rfl rfl) ?_; refine GL.nl_ ?_; refine GC.sr_ ?_
       iterate 2 refine GL.mv_ rfl rfl ?_
       refine GL.step rfl (t_index (i := 3) rfl rfl rfl rfl Tryz.underlying37 sz_61 (by omega) (gt_ok (by omega) (by omega))) (GL.ex fun p_x24 => GL.ex fun r_x24 => GL.and fun ok_x24 => ?_)
       rcases r_x24 with ⟨_, ⟨_, ⟨_, ⟨Ax24_0, cpx24_0⟩⟩⟩⟩
       refine GL.step rfl (t_mem rfl (m_loadPN (i := 0) rfl rfl ag_61 (vs := [_, _, _, _]) sz_61 ⟨rfl, rfl, rfl, rfl, trivial⟩)) ?_; refine GL.step rfl (t_alloc rfl ze_61) (GL.ex fun b_t9 => ?_); refine GL.step rfl (t_storeN (i := 0) rfl rfl rfl sz_61 rfl rfl rfl) ?_
       refine GL.nl_ ?_; refine GC.sr_ ?_; refine GL.mv_ rfl rfl ?_; refine GL.step rfl (t_mem rfl (m_loadN (i := 1) rfl rfl ag_61 (vs := [_, _, _, _]) sz_61 ⟨rfl, rfl, rfl, rfl, trivial⟩)) ?_; refine GL.step rfl (t_mem rfl (m_loadN (i := 0) rfl rfl ag_61 (vs := [_, _, _, _]) sz_61 ⟨rfl, rfl, rfl, rfl, trivial⟩)) ?_
       refine GL.step rfl (t_callv rfl fn_116 rfl rfl (is := []) (js := [3, 1]) rfl rfl (by exact samec_ct _ _ _ _ _ _)) (GL.ret ?_)
       rintro _ _ _ ⟨rfl, rfl, rfl⟩
       refine GL.pure rfl (p_not rfl) ?_; refine GL.nl_ ?_; refine GC.cond rfl (fun h3 => ?_) (fun h3 => ?_)
       ·try simp only [tst_] at h3
        first
        | (exfalso; omega)
        |(skip
          refine GC.sr_ ?_; refine GL.as_ rfl rfl ?_; refine GL.nl_ ?_; refine GC.ret ?_
          refine fun a w h => Fin.back (rs := [.tmp 6]) (vs := [_]) (is := []) (js := []) rfl ⟨rfl, trivial⟩ rfl rfl ?_ h
          clear h
          exact ⟨congrArg Value.bool (decide_eq_false (gt_ne (k := (k : Int)) (by assumption))).symm, rfl, rfl⟩)
       ·try simp only [tst_] at h3
        first
        | (exfalso; omega)
        |(skip
          refine GC.skip (?_ : GC _ _ _ _)
          refine GC.region ?_; refine GL.pure rfl (p_add rfl rfl (w64 (by omega) (by omega))) ?_; refine GL.mv_ rfl rfl ?_; refine GL.nil ?_
          exact fun a w h => ⟨(k + 1), (by omega), ⟨by omega, fun j hj => (Nat.lt_succ_iff_lt_or_eq.1 hj).elim (he j) (fun e => by subst e; assumption)⟩, h.cut (is := []) (js := [4, 5]) ⟨rfl, rfl, rfl, rfl, rfl, trivial⟩ rfl rfl⟩))
    ·try simp only [tst_] at h2
     first
     | (exfalso; omega)
     |(skip
       refine GC.exit (?_ : GC _ _ _ _)
       refine GC.sr_ ?_; refine GL.as_ rfl rfl ?_; refine GL.nl_ ?_; refine GC.ret ?_
       refine fun a w h => Fin.back (rs := [.tmp 6]) (vs := [_]) (is := []) (js := []) rfl ⟨rfl, trivial⟩ rfl rfl ?_ h
       clear h
       exact ⟨congrArg Value.bool (decide_eq_true (list_ext_gt (by omega) fun j hj => he j (by omega))).symm, rfl, rfl⟩))
theorem tsame_ct (A : Option Addr) (a_ : List Row) (cp : Nat) (B : Option Addr) (b_ : List Row) (cq : Nat) (hl : a_.length ≤ 140737488355328) : Ct Tryz.prog 71 [.slice A a_.length cp, .slice B b_.length cq] [] [Pers.row kRow A a_, Pers.row kRow B b_] (fun u G Q => u = .bool (decide (a_ = b_)) ∧ G = [] ∧ Q = []) := by
 refine Ct.intro Tryz.func71 rfl rfl rfl (fun c hc => ?_)
 refine GC.sr_ ?_; refine GL.as_ rfl rfl ?_; refine GL.nl_ ?_; refine GC.sr_ ?_
 iterate 2 refine GL.mv_ rfl rfl ?_
 refine GL.step rfl (t_call rfl fn_115 rfl (is := []) (js := [0, 1]) rfl rfl (by exact eqfunc_ct _ _ _ _ _ _ (by first | assumption | omega))) (GL.ret ?_)
 rintro _ _ _ ⟨rfl, rfl, rfl⟩
 refine GL.as_ rfl rfl ?_; refine GL.nl_ ?_; refine GC.ret ?_
 refine fun a w h => Fin.back (rs := [.tmp 4]) (vs := [_]) (is := []) (js := []) rfl ⟨rfl, trivial⟩ rfl rfl ?_ h
 clear h
 exact ⟨rfl, rfl, rfl⟩
end Go.Proofs.YtdhdmbmknpjhbaaGreat
namespace Go.Proofs.YtdhdmbmknpjhbaaGreat
open Go Go.Sx Go.Proofs
def IncL (L : List Row) : Prop := L.Pairwise fun r s => r.client < s.client
def sufA (row : Row) : Bool → List Row → List Row
  | b, [] => if b then [] else [row]
  | b, x :: xs => (if b = false ∧ x.client ≥ row.client then [row] else []) ++ (if x.client ≠ row.client then [x] else []) ++ sufA row (b || decide (x.client ≥ row.client)) xs
def ins (row : Row) : List Row → List Row
  | [] => [row]
  | x :: xs => if x.client < row.client then x :: ins row xs else if x.client = row.client then row :: xs else row :: x :: xs
theorem acc_suf (row : Row) (L : List Row) : ∀ (d k : Nat), L.length - k = d → k ≤ L.length → insL row L = accA row L k ++ sufA row (inA row.client L k) (L.drop k)
  | 0, k, hd, hk => by
    obtain rfl : k = L.length := by omega
    rw [List.drop_of_length_le (Nat.le_refl _), insL, sufA]
    cases inA row.client L L.length <;> simp
  | d + 1, k, hd, hk => by
    rw [acc_suf row L d (k + 1) (by omega) (by omega), tdrop_gt (show k < L.length by omega), sufA, accA, inA]
    simp [List.append_assoc]
theorem suf_true (row : Row) : ∀ {L : List Row}, (∀ x ∈ L, x.client ≠ row.client) → sufA row true L = L
  | [], _ => rfl
  | x :: xs, h => by
    rw [sufA, Bool.true_or, suf_true row fun y hy => h y (List.mem_cons_of_mem _ hy)]
    simp [h x (List.mem_cons_self ..)]
theorem suf_ins (row : Row) : ∀ {L : List Row}, IncL L → sufA row false L = ins row L
  | [], _ => rfl
  | x :: xs, h => by
    obtain ⟨h1, h2⟩ := List.pairwise_cons.1 h
    rw [sufA, ins]
    by_cases hlt : x.client < row.client
    · rw [if_pos hlt, if_neg (by omega), if_pos (by omega), decide_eq_false (by omega), Bool.or_false, suf_ins row h2]; rfl
    · have hne : ∀ y ∈ xs, y.client ≠ row.client := fun y hy => by have := h1 y hy; omega
      rw [if_neg hlt, if_pos ⟨rfl, by omega⟩, decide_eq_true (by omega), Bool.or_true, suf_true row hne]
      by_cases he : x.client = row.client
      · rw [if_pos he, if_neg (by simp [he])]; rfl
      · rw [if_neg he, if_pos he]; rfl
theorem insL_ins {row : Row} {L : List Row} (h : IncL L) : insL row L = ins row L := by
  rw [acc_suf row L L.length 0 (by omega) (by omega)]
  exact suf_ins row h
theorem ins_mem {row x : Row} : ∀ {L : List Row}, x ∈ ins row L → x = row ∨ x ∈ L
  | [], h => by simp [ins] at h; exact .inl h
  | y :: ys, h => by
    rw [ins] at h
    split at h
    · rcases List.mem_cons.1 h with rfl | h
      · exact .inr (List.mem_cons_self ..)
      · rcases ins_mem h with h | h
        · exact .inl h
        · exact .inr (List.mem_cons_of_mem _ h)
    · split at h
      · rcases List.mem_cons.1 h with rfl | h
        · exact .inl rfl
        · exact .inr (List.mem_cons_of_mem _ h)
      · rcases List.mem_cons.1 h with rfl | h
        · exact .inl rfl
        · exact .inr h
theorem ins_inc {row : Row} : ∀ {L : List Row}, IncL L → IncL (ins row L)
  | [], _ => List.pairwise_singleton _ _
  | x :: xs, h => by
    obtain ⟨h1, h2⟩ := List.pairwise_cons.1 h
    rw [ins]
    split
    · rename_i hlt
      refine List.pairwise_cons.2 ⟨fun y hy => ?_, ins_inc h2⟩
      rcases ins_mem hy with rfl | hy
      · exact hlt
      · exact h1 y hy
    · split
      · rename_i he
        exact List.pairwise_cons.2 ⟨fun y hy => he ▸ h1 y hy, h2⟩
      · refine List.pairwise_cons.2 ⟨fun y hy => ?_, h⟩
        rcases List.mem_cons.1 hy with rfl | hy
        · omega
        · have := h1 y hy; omega
theorem findR_cons (x : Row) (xs : List Row) (c : Int) : findR (x :: xs) c = if x.client = c then some x else findR xs c := by
  unfold findR
  by_cases h : x.client = c <;> simp [h]
theorem findR_gt {L : List Row} {c : Int} (h : ∀ x ∈ L, c < x.client) : findR L c = none := by
  unfold findR
  rw [List.find?_eq_none]
  intro x hx
  have := h x hx
  simp; omega
theorem ins_find {row : Row} (c : Int) : ∀ {L : List Row}, IncL L → findR (ins row L) c = if row.client = c then some row else findR L c
  | [], _ => by rw [ins, findR_cons]
  | x :: xs, h => by
    obtain ⟨h1, h2⟩ := List.pairwise_cons.1 h
    rw [ins]
    split
    · rename_i hlt
      rw [findR_cons, ins_find c h2, findR_cons]
      by_cases hx : x.client = c
      · rw [if_pos hx, if_neg (by omega), if_pos hx]
      · rw [if_neg hx, if_neg hx]
    · split
      · rename_i he
        rw [findR_cons, findR_cons, he]
        by_cases hx : row.client = c
        · rw [if_pos hx, if_pos hx]
        · rw [if_neg hx, if_neg hx, if_neg hx]
      · rw [findR_cons]
theorem ins_len {row : Row} : ∀ {L : List Row}, IncL L → (ins row L).length = L.length + (if (findR L row.client).isSome then 0 else 1)
  | [], _ => rfl
  | x :: xs, h => by
    obtain ⟨h1, h2⟩ := List.pairwise_cons.1 h
    rw [ins, findR_cons]
    split
    · rename_i hlt
      rw [if_neg (show ¬ x.client = row.client by omega), List.length_cons, ins_len h2, List.length_cons]; omega
    · split
      · rename_i he
        simp
      · rename_i hne hlt
        rw [findR_gt (c := row.client) fun y hy => by have := h1 y hy; omega]
        simp
theorem incB_iff : ∀ {L : List Row} {b : Int}, incB b L = true ↔ ((∀ x ∈ L, rowOk x = true ∧ b < x.client) ∧ IncL L)
  | [], b => by simp [incB, IncL]
  | x :: xs, b => by
    rw [incB, Bool.and_eq_true, Bool.and_eq_true, decide_eq_true_eq, incB_iff (L := xs)]
    constructor
    · rintro ⟨⟨h1, h2⟩, h3, h4⟩
      refine ⟨fun y hy => ?_, List.pairwise_cons.2 ⟨fun y hy => (h3 y hy).2, h4⟩⟩
      rcases List.mem_cons.1 hy with rfl | hy
      · exact ⟨h1, h2⟩
      · have := (h3 y hy).2; exact ⟨(h3 y hy).1, by omega⟩
    · rintro ⟨h1, h2⟩
      obtain ⟨h3, h4⟩ := List.pairwise_cons.1 h2
      exact ⟨h1 x (List.mem_cons_self ..), fun y hy => ⟨(h1 y (List.mem_cons_of_mem _ hy)).1, h3 y hy⟩, h4⟩
theorem right_iff {L : List Row} : rightF L = true ↔ (L.length ≤ 64 ∧ (∀ x ∈ L, rowOk x = true) ∧ IncL L) := by
  rw [rightF, Bool.and_eq_true, decide_eq_true_eq, incB_iff]
  constructor
  · rintro ⟨h1, h2, h3⟩; exact ⟨h1, fun x hx => (h2 x hx).1, h3⟩
  · rintro ⟨h1, h2, h3⟩
    refine ⟨h1, fun x hx => ⟨h2 x hx, ?_⟩, h3⟩
    have := h2 x hx
    simp only [rowOk, Bool.and_eq_true] at this
    have := isNum_pos this.1.1
    omega
def toLast (r : Row) : Last := ⟨r.serial, r.result⟩
structure Both (T : List (Int × Last)) (L : List Row) : Prop where
  right : rightF L = true
  keys : (T.map (·.1)).Nodup
  get : ∀ c, mget T c = (findR L c).map toLast
  len : T.length = L.length
theorem Both.ask {T : List (Int × Last)} {L : List Row} (h : Both T L) (c s : Int) : askF T c s = raskF L c s := by
  unfold askF raskF
  split
  · rfl
  · rw [h.get]
    cases findR L c with
    | none =>
      have hl := h.len
      have := (right_iff.1 h.right).1
      simp only [Option.map_none]
      by_cases hh : (L.length : Int) ≥ 64
      · rw [if_pos (by omega), if_pos hh]
      · rw [if_neg (by omega), if_neg hh]
    | some r =>
      simp only [Option.map_some, toLast]
      split
      · rfl
      · rename_i h1
        by_cases h2 : s = r.serial
        · rw [if_neg (by omega), if_pos h2]
        · rw [if_pos (by omega), if_neg h2]
theorem Both.last {T : List (Int × Last)} {L : List Row} (h : Both T L) (c : Int) : lastF T c = rlastF L c := by
  unfold lastF rlastF
  rw [h.get]
  cases findR L c <;> rfl
theorem mput_keys {α : Type} {x : α} {c : Int} : ∀ {T : List (Int × α)}, (T.map (·.1)).Nodup → ((mput T c x).map (·.1)).Nodup ∧ ∀ k, k ∈ (mput T c x).map (·.1) → k = c ∨ k ∈ T.map (·.1)
  | [], _ => by simp [mput]
  | (j, y) :: T, h => by
    simp only [List.map_cons, List.nodup_cons] at h
    obtain ⟨h1, h2⟩ := h
    rw [mput]
    split
    · rename_i he
      subst he
      exact ⟨by simpa using ⟨by simpa using h1, h2⟩, fun k hk => .inr (by simpa using hk)⟩
    · rename_i he
      obtain ⟨g1, g2⟩ := mput_keys (x := x) (c := c) h2
      refine ⟨List.nodup_cons.2 ⟨fun hm => ?_, g1⟩, fun k hk => ?_⟩
      · rcases g2 _ hm with h | h
        · exact he h
        · exact h1 h
      · rcases List.mem_cons.1 hk with rfl | hk
        · exact .inr (List.mem_cons_self ..)
        · rcases g2 _ hk with h | h
          · exact .inl h
          · exact .inr (List.mem_cons_of_mem _ h)
theorem Both.put {T : List (Int × Last)} {L : List Row} (h : Both T L) (cl s : Int) (r : Res) : (tputF T cl s r).1 = (rputF L cl s r).1 ∧ Both (tputF T cl s r).2 (rputF L cl s r).2 := by
  unfold tputF rputF
  rw [h.ask]
  split
  · exact ⟨rfl, h⟩
  · rename_i he
    split
    · exact ⟨rfl, h⟩
    · rename_i hr
      split
      · exact ⟨rfl, h⟩
      · rename_i h4
        split
        · exact ⟨rfl, h⟩
        · rename_i h1
          have h1 : (raskF L cl s).1 = 1 := by simpa using h1
          have he : (raskF L cl s).2.2 = 0 := by simpa using he
          obtain ⟨r1, r2, r3⟩ := right_iff.1 h.right
          have hn : isNum cl = true ∧ isNum s = true := by
            by_cases hc : isNum cl = false ∨ isNum s = false
            · rw [rask_bad hc] at he; cases he
            · simpa using hc
          refine ⟨rfl, ?_, (mput_keys h.keys).1, fun c => ?_, ?_⟩
          · rw [insL_ins r3]
            refine right_iff.2 ⟨?_, fun x hx => ?_, ins_inc r3⟩
            · rw [ins_len r3]
              simp only
              cases hf : findR L cl with
              | none =>
                rw [rask_none hn.1 hn.2 hf] at h4
                have : ¬ (L.length : Int) ≥ 64 := fun hh => h4 (by rw [if_pos hh])
                simp; omega
              | some y => simpa using r1
            · rcases ins_mem hx with rfl | hx
              · simp only [rowOk, hn.1, hn.2, Bool.true_and]
                simpa using hr
              · exact r2 x hx
          · rw [insL_ins r3, ins_find c r3]
            simp only
            by_cases hc : cl = c
            · subst hc
              rw [mget_mput_same, if_pos rfl]; rfl
            · rw [mget_mput_other _ _ (fun e => hc e.symm), if_neg hc, h.get]
          · rw [insL_ins r3, ins_len r3, mput_length, h.len, h.get]
            simp
end Go.Proofs.YtdhdmbmknpjhbaaGreat
namespace Go.Proofs.YtdhdmbmknpjhbaaGreat
open Go Go.Sx Go.Proofs
def tabOf (l : List Row) : List (Int × Last) := l.map fun r => (r.client, toLast r)
def okAt (l : List Row) (k : Nat) : Prop := rowOk (gt l (k : Int)) = true ∧ lastC l k < (gt l (k : Int)).client
theorem incB_at {l : List Row} : ∀ (k : Nat), k ≤ l.length → (∀ j, j < k → okAt l j) → incB 0 l = incB (lastC l k) (l.drop k)
  | 0, _, _ => rfl
  | k + 1, hk, h => by
    rw [incB_at k (by omega) fun j hj => h j (by omega), incB_step (by omega), (h k (by omega)).1, decide_eq_true (h k (by omega)).2]; rfl
theorem right_at {l : List Row} (h : rightF l = true) : ∀ k, k < l.length → okAt l k := by
  intro k
  induction k using Nat.strongRecOn with
  | _ k ih =>
    intro hk
    have h1 := incB_at k (by omega) fun j hj => ih j hj (by omega)
    simp only [rightF, Bool.and_eq_true] at h
    rw [h.2, incB_step hk] at h1
    have := h1.symm
    simp only [Bool.and_eq_true, decide_eq_true_eq] at this
    exact this.1
theorem right_of {l : List Row} (h : ∀ k, k < l.length → okAt l k) (h64 : l.length ≤ 64) : rightF l = true := by
  rw [rightF, incB_at l.length (Nat.le_refl _) h, List.drop_of_length_le (Nat.le_refl _), decide_eq_true h64]; rfl
theorem cl_le {l : List Row} : ∀ (k : Nat), k ≤ l.length → (∀ j, j < k → okAt l j) → ∀ r ∈ l.take k, r.client ≤ lastC l k
  | 0, _, _, r, hr => by simp at hr
  | k + 1, hk, h, r, hr => by
    rw [take_gt (by omega)] at hr
    rcases List.mem_append.1 hr with hr | hr
    · have := cl_le k (by omega) (fun j hj => h j (by omega)) r hr
      have := (h k (by omega)).2
      simp only [lastC]; omega
    · rw [List.mem_singleton.1 hr]; exact Int.le_refl _
theorem mget_out {l : List Row} {c : Int} (h : ∀ r ∈ l, r.client ≠ c) : mget (tabOf l) c = none := by
  induction l with
  | nil => rfl
  | cons x xs ih =>
    simp only [tabOf, List.map_cons, mget]
    rw [if_neg (h x (List.mem_cons_self ..))]
    exact ih fun r hr => h r (List.mem_cons_of_mem _ hr)
theorem mput_out {α : Type} {c : Int} {x : α} : ∀ {T : List (Int × α)}, mget T c = none → mput T c x = T ++ [(c, x)]
  | [], _ => rfl
  | (j, y) :: T, h => by
    rw [mget] at h
    split at h
    · cases h
    · rename_i hj
      rw [mput, if_neg hj, mput_out h]; rfl
theorem mget_in {l : List Row} {c : Int} {x : Last} (h : mget (tabOf l) c = some x) : ∃ r ∈ l, r.client = c ∧ toLast r = x := by
  induction l with
  | nil => cases h
  | cons y ys ih =>
    simp only [tabOf, List.map_cons, mget] at h
    split at h
    · rename_i e
      simp only [Option.some.injEq] at h
      exact ⟨y, List.mem_cons_self .., e, h⟩
    · obtain ⟨r, hr, h1⟩ := ih h
      exact ⟨r, List.mem_cons_of_mem _ hr, h1⟩
theorem tabOk_of {l : List Row} (h : ∀ r ∈ l, rowOk r = true) : TabOk (tabOf l) := fun c x hx => by
  obtain ⟨r, hr, _, rfl⟩ := mget_in hx
  have := h r hr
  simp only [rowOk, Bool.and_eq_true] at this
  exact resOk_len this.2
theorem take_ok {l : List Row} {k : Nat} (hk : k ≤ l.length) (h : ∀ j, j < k → okAt l j) : ∀ r ∈ l.take k, rowOk r = true := fun r hr => by
  obtain ⟨j, hj, rfl⟩ := List.getElem_of_mem hr
  simp only [List.length_take] at hj
  have g := gt_ok (xs := l) (i := (j : Int)) (by omega) (by omega)
  simp only [Int.toNat_natCast, List.getElem?_eq_getElem (show j < l.length by omega), Option.some.injEq] at g
  rw [List.getElem_take, g]
  exact (h j (by omega)).1
theorem put_next {l : List Row} {k : Nat} (hk : k < l.length) (h : ∀ j, j < k → okAt l j) (hok : okAt l k) (h64 : k < 64) :
    tputF (tabOf (l.take k)) (gt l (k : Int)).client (gt l (k : Int)).serial (gt l (k : Int)).result = (0, tabOf (l.take (k + 1))) := by
  have h1 := hok.1
  simp only [rowOk, Bool.and_eq_true] at h1
  have hn : mget (tabOf (l.take k)) (gt l (k : Int)).client = none := mget_out fun r hr => by
    have := cl_le k (by omega) h r hr
    have := hok.2
    omega
  have hlen : (tabOf (l.take k)).length = k := by simp [tabOf]; omega
  have e : askF (tabOf (l.take k)) (gt l (k : Int)).client (gt l (k : Int)).serial = (1, rz, 0) := by
    unfold askF
    rw [if_neg (by rw [h1.1.1, h1.1.2]; simp), hn]
    simp only
    rw [if_neg (by rw [hlen]; omega)]
  unfold tputF
  rw [e]
  rw [if_neg (by simp), if_neg (by rw [h1.2]; simp), if_neg (by simp), if_neg (by simp), mput_out hn, take_gt hk]
  simp only [tabOf, List.map_append]; rfl
theorem put_bad {l : List Row} {k : Nat} (hk : k < l.length) (h : ∀ j, j < k → okAt l j) (hk64 : k ≤ 64) (hbad : ¬ (okAt l k ∧ k < 64)) (hlt : lastC l k < (gt l (k : Int)).client) :
    (tputF (tabOf (l.take k)) (gt l (k : Int)).client (gt l (k : Int)).serial (gt l (k : Int)).result).1 ≠ 0 := by
  have hlen : (tabOf (l.take k)).length = k := by simp [tabOf]; omega
  have hn : mget (tabOf (l.take k)) (gt l (k : Int)).client = none := mget_out fun r hr => by
    have := cl_le k (by omega) h r hr
    omega
  unfold tputF
  by_cases hc : isNum (gt l (k : Int)).client = false ∨ isNum (gt l (k : Int)).serial = false
  · have e : askF (tabOf (l.take k)) (gt l (k : Int)).client (gt l (k : Int)).serial = (0, rz, 5) := by unfold askF; rw [if_pos hc]
    rw [e]; simp
  · have e : askF (tabOf (l.take k)) (gt l (k : Int)).client (gt l (k : Int)).serial = if (((tabOf (l.take k)).length : Nat) : Int) = 64 then (4, rz, 0) else (1, rz, 0) := by
      unfold askF; rw [if_neg hc, hn]
    rw [e, hlen]
    by_cases hr : resOk (gt l (k : Int)).result.code (gt l (k : Int)).result.data.length = true
    · have hok : okAt l k := ⟨by
        simp only [rowOk, hr, Bool.and_true, Bool.and_eq_true]
        simpa using hc, hlt⟩
      have h64 : ¬ k < 64 := fun h => hbad ⟨hok, h⟩
      rw [if_pos (show ((k : Nat) : Int) = 64 by omega)]; simp [hr]
    · split <;> simp [hr]
theorem tload_ok (A : Option Addr) (l : List Row) (cp : Nat) (hl : l.length ≤ 140737488355328) (hr : rightF l = true) : Ct Tryz.prog 146 [.slice A l.length cp] [] [Pers.row kRow A l]
    (fun u G Q => ∃ p m es ck, u = .tuple #[.pointer (some ⟨p, 0, none⟩), .int .i64 0] ∧ G = tabG p m es ck ∧ Q = [Pers.map kLast true (tabOf l) es ck]) := by
 have hall := right_at hr
 have h64 : l.length ≤ 64 := (right_iff.1 hr).1
 refine Ct.intro Tryz.func146 rfl rfl rfl (fun c hc => ?_)
 refine GC.sr_ ?_
 iterate 2 refine GL.as_ rfl rfl ?_
 refine GL.nl_ ?_; refine GC.sr_ ?_; refine GL.step rfl (t_call rfl fn_164 rfl (is := []) (js := []) rfl rfl (by exact tnew_ct)) (GL.ret ?_)
 rintro _ _ _ ⟨p8, m8, rfl, rfl, rfl⟩
 refine GL.as_ rfl rfl ?_; refine GL.nl_ ?_; refine GC.sr_ ?_; refine GL.as_ rfl rfl ?_; refine GL.nl_ ?_; refine GC.seq' ?_; refine GC.sr_ ?_; refine GL.mv_ rfl rfl ?_; refine GL.pure rfl (p_len Tryz.underlying37 rfl) ?_
 refine GL.mv_ rfl rfl ?_; refine GL.nl_ ?_; refine GC.block ?_; refine GC.loopK3 (ks := [4, 9, 10]) (is := [0]) (js := [0, 1]) (fun (k : Nat) (es : Array MapEntry) (ck : Nat) => k ≤ l.length) (fun (k : Nat) (es : Array MapEntry) (ck : Nat) => [(5, .int .i64 (lastC l k)), (11, .int .i64 (k : Int))]) (fun (k : Nat) (es : Array MapEntry) (ck : Nat) => [.blk m8 (.map es ck)]) (fun (k : Nat) (es : Array MapEntry) (ck : Nat) => [Pers.map kLast true (tabOf (l.take k)) es ck]) (fun (k : Nat) (es : Array MapEntry) (ck : Nat) => l.length - k) (0) (_) (_) rfl rfl rfl (fun a w h => ⟨by omega, h.cutK (is := [1, 0]) (js := [0, 0, 1]) (ks := [4, 9, 10]) ⟨rfl, rfl, trivial⟩ rfl rfl rfl⟩) ?_
 intro k es ck hk
 try dsimp only [List.cons_append, List.nil_append] at hk ⊢
 refine GC.sr_ ?_; refine GL.pure rfl (p_lss rfl rfl) ?_; refine GL.nl_ ?_; refine GC.seq' ?_; refine GC.cond rfl (fun h1 => ?_) (fun h1 => ?_)
 ·try simp only [tst_] at h1
  first
  | (exfalso; first | omega | (have := (hall k (by omega)).2; omega))
  |(skip
    refine GC.skip (?_ : GC _ _ _ _)
    refine GC.seq' ?_; refine GC.block ?_; refine GC.sr_ ?_; refine GL.step rfl (t_index (i := 2) rfl rfl rfl rfl Tryz.underlying37 sz_61 (by omega) (gt_ok (by omega) (by omega))) (GL.ex fun p_x13 => GL.ex fun r_x13 => GL.and fun ok_x13 => ?_)
    rcases r_x13 with ⟨_, ⟨_, ⟨_, ⟨Ax13_0, cpx13_0⟩⟩⟩⟩
    refine GL.step rfl (t_mem rfl (m_loadPN (i := 0) rfl rfl ag_61 (vs := [_, _, _, _]) sz_61 ⟨rfl, rfl, rfl, rfl, trivial⟩)) ?_; refine GL.step rfl (t_alloc rfl ze_61) (GL.ex fun b_t7 => ?_); refine GL.step rfl (t_storeN (i := 0) rfl rfl rfl sz_61 rfl rfl rfl) ?_
    refine GL.nl_ ?_; refine GC.seq' ?_; refine GC.sr_ ?_; refine GL.pure rfl (p_fieldAddr fo_61_0 rfl) ?_; refine GL.step rfl (t_mem rfl (m_load (i := 0) rfl rfl ag_3 rfl)) ?_; refine GL.mv_ rfl rfl ?_; refine GL.pure rfl (p_leq rfl rfl) ?_
    refine GL.mv_ rfl rfl ?_; refine GL.split (i := 19) rfl (fun h2 => ?_) (fun h2 => ?_)
    ·try simp only [tst_] at h2
     first
     | (exfalso; first | omega | (have := (hall k (by omega)).2; omega))
     |(skip
       iterate 9 refine GL.pass (s := 19) rfl rfl rfl ?_
       refine GL.pure rfl (p_pick_true rfl rfl) ?_; refine GL.nl_ ?_; refine GC.cond_true rfl ?_; refine GC.sr_ ?_
       iterate 2 refine GL.as_ rfl rfl ?_
       refine GL.nl_ ?_; refine GC.ret ?_
       refine fun a w h => Fin.back (rs := [.tmp 2, .tmp 3]) (vs := [_, _]) (is := [2, 1]) (js := [2]) rfl ⟨rfl, rfl, trivial⟩ rfl rfl ?_ h
       clear h
       exact ⟨rfl, rfl, rfl⟩)
    ·try simp only [tst_] at h2
     first
     | (exfalso; first | omega | (have := (hall k (by omega)).2; omega))
     |(skip
       refine GL.pureG (s := 19) rfl rfl rfl (p_move rfl) ?_; refine GL.pureG (s := 19) rfl rfl rfl (p_fieldAddr fo_61_0 rfl) ?_; refine GL.stepG rfl (s := 19) rfl rfl (t_mem rfl (m_load (i := 0) rfl rfl ag_3 rfl)) ?_; refine GL.pureG (s := 19) rfl rfl rfl (p_fieldAddr fo_61_1 rfl) ?_
       refine GL.stepG rfl (s := 19) rfl rfl (t_mem rfl (m_load (i := 0) rfl rfl ag_3 rfl)) ?_; refine GL.pureG (s := 19) rfl rfl rfl (p_fieldAddr fo_61_2 rfl) ?_; refine GL.stepG rfl (s := 19) rfl rfl (t_mem rfl (m_loadN (i := 0) rfl rfl ag_30 (vs := [_, _]) sz_30 ⟨rfl, rfl, trivial⟩)) ?_
       refine GL.stepG rfl (s := 19) rfl rfl (t_call rfl fn_165 rfl (is := [2, 1]) (js := [2, 1]) rfl rfl (by exact put_eq _ _ _ _ (tabOf (l.take k)) _ _ (gt l (k : Int)).result _ _ (tabOk_of (take_ok hk fun j hj => hall j (by omega))) 0 (tabOf (l.take (k + 1))) (put_next (by omega) (fun j hj => hall j (by omega)) (hall k (by omega)) (by omega)))) (GL.ret ?_)
       rintro _ _ _ ⟨es27, ck27, rfl, rfl, rfl⟩
       refine GL.pureG (s := 19) rfl rfl rfl (p_neq rfl rfl) ?_; refine GL.pure rfl (p_pick_false rfl rfl) ?_; refine GL.nl_ ?_; refine GC.cond_false rfl ?_
       refine GC.skip (?_ : GC _ _ _ _)
       refine GC.region ?_; refine GL.pure rfl (p_fieldAddr fo_61_0 rfl) ?_; refine GL.step rfl (t_mem rfl (m_load (i := 2) rfl rfl ag_3 rfl)) ?_; refine GL.as_ rfl rfl ?_
       refine GL.nil (?_ : GC _ _ _ _)
       refine GC.region ?_; refine GL.pure rfl (p_add rfl rfl (w64 (by omega) (by omega))) ?_; refine GL.mv_ rfl rfl ?_; refine GL.nil ?_
       exact fun a w h => ⟨(k + 1), (_), (_), (by omega), by omega, h.cut (is := [1, 0]) (js := [0, 4, 5]) ⟨rfl, rfl, rfl, rfl, rfl, trivial⟩ rfl rfl⟩))
 ·try simp only [tst_] at h1
  first
  | (exfalso; first | omega | (have := (hall k (by omega)).2; omega))
  |(skip
    refine GC.exit (?_ : GC _ _ _ _)
    refine GC.sr_ ?_; refine GL.mv_ rfl rfl ?_
    iterate 2 refine GL.as_ rfl rfl ?_
    refine GL.nl_ ?_; refine GC.ret ?_
    refine fun a w h => Fin.back (rs := [.tmp 2, .tmp 3]) (vs := [_, _]) (is := [1, 0]) (js := [0]) rfl ⟨rfl, rfl, trivial⟩ rfl rfl ?_ h
    clear h
    obtain rfl : k = l.length := by omega
    rw [List.take_length]
    exact ⟨_, _, _, _, rfl, rfl, rfl⟩)
theorem tload_bad (A : Option Addr) (l : List Row) (cp : Nat) (hl : l.length ≤ 140737488355328) (hr : rightF l = false) : Ct Tryz.prog 146 [.slice A l.length cp] [] [Pers.row kRow A l] (fun u G Q => u = .tuple #[.pointer none, .int .i64 60] ∧ G = [] ∧ Q = []) := by
 refine Ct.intro Tryz.func146 rfl rfl rfl (fun c hc => ?_)
 refine GC.sr_ ?_
 iterate 2 refine GL.as_ rfl rfl ?_
 refine GL.nl_ ?_; refine GC.sr_ ?_; refine GL.step rfl (t_call rfl fn_164 rfl (is := []) (js := []) rfl rfl (by exact tnew_ct)) (GL.ret ?_)
 rintro _ _ _ ⟨p8, m8, rfl, rfl, rfl⟩
 refine GL.as_ rfl rfl ?_; refine GL.nl_ ?_; refine GC.sr_ ?_; refine GL.as_ rfl rfl ?_; refine GL.nl_ ?_; refine GC.seq' ?_; refine GC.sr_ ?_; refine GL.mv_ rfl rfl ?_; refine GL.pure rfl (p_len Tryz.underlying37 rfl) ?_
 refine GL.mv_ rfl rfl ?_; refine GL.nl_ ?_; refine GC.block ?_; refine GC.loopK3 (ks := [4, 9, 10]) (is := [0]) (js := [0, 1]) (fun (k : Nat) (es : Array MapEntry) (ck : Nat) => k ≤ l.length ∧ (∀ j, j < k → okAt l j) ∧ k ≤ 64) (fun (k : Nat) (es : Array MapEntry) (ck : Nat) => [(5, .int .i64 (lastC l k)), (11, .int .i64 (k : Int))]) (fun (k : Nat) (es : Array MapEntry) (ck : Nat) => [.blk m8 (.map es ck)]) (fun (k : Nat) (es : Array MapEntry) (ck : Nat) => [Pers.map kLast true (tabOf (l.take k)) es ck]) (fun (k : Nat) (es : Array MapEntry) (ck : Nat) => l.length - k) (0) (_) (_) rfl rfl rfl (fun a w h => ⟨⟨by omega, fun j hj => by omega, by omega⟩, h.cutK (is := [1, 0]) (js := [0, 0, 1]) (ks := [4, 9, 10]) ⟨rfl, rfl, trivial⟩ rfl rfl rfl⟩) ?_
 intro k es ck hk
 try dsimp only [List.cons_append, List.nil_append] at hk ⊢
 refine GC.sr_ ?_; refine GL.pure rfl (p_lss rfl rfl) ?_; refine GL.nl_ ?_; refine GC.seq' ?_; refine GC.cond rfl (fun h1 => ?_) (fun h1 => ?_)
 ·try simp only [tst_] at h1
  first
  | (exfalso; first | omega | (simp at h1; done))
  |(skip
    refine GC.skip (?_ : GC _ _ _ _)
    refine GC.seq' ?_; refine GC.block ?_; refine GC.sr_ ?_
    by_cases hok : okAt l k ∧ k < 64
    ·skip
     refine GL.step rfl (t_index (i := 2) rfl rfl rfl rfl Tryz.underlying37 sz_61 (by omega) (gt_ok (by omega) (by omega))) (GL.ex fun p_x13 => GL.ex fun r_x13 => GL.and fun ok_x13 => ?_)
     rcases r_x13 with ⟨_, ⟨_, ⟨_, ⟨Ax13_0, cpx13_0⟩⟩⟩⟩
     refine GL.step rfl (t_mem rfl (m_loadPN (i := 0) rfl rfl ag_61 (vs := [_, _, _, _]) sz_61 ⟨rfl, rfl, rfl, rfl, trivial⟩)) ?_; refine GL.step rfl (t_alloc rfl ze_61) (GL.ex fun b_t7 => ?_); refine GL.step rfl (t_storeN (i := 0) rfl rfl rfl sz_61 rfl rfl rfl) ?_
     refine GL.nl_ ?_; refine GC.seq' ?_; refine GC.sr_ ?_; refine GL.pure rfl (p_fieldAddr fo_61_0 rfl) ?_; refine GL.step rfl (t_mem rfl (m_load (i := 0) rfl rfl ag_3 rfl)) ?_; refine GL.mv_ rfl rfl ?_; refine GL.pure rfl (p_leq rfl rfl) ?_
     refine GL.mv_ rfl rfl ?_; refine GL.split (i := 19) rfl (fun h2 => ?_) (fun h2 => ?_)
     ·try simp only [tst_] at h2
      first
      | (exfalso; first | omega | (have := hok.1.2; omega))
      |(skip
        iterate 9 refine GL.pass (s := 19) rfl rfl rfl ?_
        refine GL.pure rfl (p_pick_true rfl rfl) ?_; refine GL.nl_ ?_; refine GC.cond_true rfl ?_; refine GC.sr_ ?_
        iterate 2 refine GL.as_ rfl rfl ?_
        refine GL.nl_ ?_; refine GC.ret ?_
        refine fun a w h => Fin.back (rs := [.tmp 2, .tmp 3]) (vs := [_, _]) (is := []) (js := []) rfl ⟨rfl, rfl, trivial⟩ rfl rfl ?_ h
        clear h
        exact ⟨rfl, rfl, rfl⟩)
     ·try simp only [tst_] at h2
      first
      | (exfalso; first | omega | (have := hok.1.2; omega))
      |(skip
        refine GL.pureG (s := 19) rfl rfl rfl (p_move rfl) ?_; refine GL.pureG (s := 19) rfl rfl rfl (p_fieldAddr fo_61_0 rfl) ?_; refine GL.stepG rfl (s := 19) rfl rfl (t_mem rfl (m_load (i := 0) rfl rfl ag_3 rfl)) ?_; refine GL.pureG (s := 19) rfl rfl rfl (p_fieldAddr fo_61_1 rfl) ?_
        refine GL.stepG rfl (s := 19) rfl rfl (t_mem rfl (m_load (i := 0) rfl rfl ag_3 rfl)) ?_; refine GL.pureG (s := 19) rfl rfl rfl (p_fieldAddr fo_61_2 rfl) ?_; refine GL.stepG rfl (s := 19) rfl rfl (t_mem rfl (m_loadN (i := 0) rfl rfl ag_30 (vs := [_, _]) sz_30 ⟨rfl, rfl, trivial⟩)) ?_
        refine GL.stepG rfl (s := 19) rfl rfl (t_call rfl fn_165 rfl (is := [2, 1]) (js := [2, 1]) rfl rfl (by exact put_eq _ _ _ _ (tabOf (l.take k)) _ _ (gt l (k : Int)).result _ _ (tabOk_of (take_ok hk.1 hk.2.1)) 0 (tabOf (l.take (k + 1))) (put_next (by omega) hk.2.1 hok.1 hok.2))) (GL.ret ?_)
        rintro _ _ _ ⟨es27, ck27, rfl, rfl, rfl⟩
        refine GL.pureG (s := 19) rfl rfl rfl (p_neq rfl rfl) ?_; refine GL.pure rfl (p_pick_false rfl rfl) ?_; refine GL.nl_ ?_; refine GC.cond_false rfl ?_
        refine GC.skip (?_ : GC _ _ _ _)
        refine GC.region ?_; refine GL.pure rfl (p_fieldAddr fo_61_0 rfl) ?_; refine GL.step rfl (t_mem rfl (m_load (i := 2) rfl rfl ag_3 rfl)) ?_; refine GL.as_ rfl rfl ?_
        refine GL.nil (?_ : GC _ _ _ _)
        refine GC.region ?_; refine GL.pure rfl (p_add rfl rfl (w64 (by omega) (by omega))) ?_; refine GL.mv_ rfl rfl ?_; refine GL.nil ?_
        exact fun a w h => ⟨(k + 1), (_), (_), (by omega), ⟨by omega, fun j hj => (Nat.lt_succ_iff_lt_or_eq.1 hj).elim (hk.2.1 j) (fun e => by subst e; exact hok.1), by omega⟩, h.cut (is := [1, 0]) (js := [0, 4, 5]) ⟨rfl, rfl, rfl, rfl, rfl, trivial⟩ rfl rfl⟩)
    ·skip
     refine GL.step rfl (t_index (i := 2) rfl rfl rfl rfl Tryz.underlying37 sz_61 (by omega) (gt_ok (by omega) (by omega))) (GL.ex fun p_x13 => GL.ex fun r_x13 => GL.and fun ok_x13 => ?_)
     rcases r_x13 with ⟨_, ⟨_, ⟨_, ⟨Ax13_0, cpx13_0⟩⟩⟩⟩
     refine GL.step rfl (t_mem rfl (m_loadPN (i := 0) rfl rfl ag_61 (vs := [_, _, _, _]) sz_61 ⟨rfl, rfl, rfl, rfl, trivial⟩)) ?_; refine GL.step rfl (t_alloc rfl ze_61) (GL.ex fun b_t7 => ?_); refine GL.step rfl (t_storeN (i := 0) rfl rfl rfl sz_61 rfl rfl rfl) ?_
     refine GL.nl_ ?_; refine GC.seq' ?_; refine GC.sr_ ?_; refine GL.pure rfl (p_fieldAddr fo_61_0 rfl) ?_; refine GL.step rfl (t_mem rfl (m_load (i := 0) rfl rfl ag_3 rfl)) ?_; refine GL.mv_ rfl rfl ?_; refine GL.pure rfl (p_leq rfl rfl) ?_
     refine GL.mv_ rfl rfl ?_; refine GL.split (i := 19) rfl (fun h3 => ?_) (fun h3 => ?_)
     ·try simp only [tst_] at h3
      first
      | (exfalso; first | omega | exact put_bad (by omega) hk.2.1 hk.2.2 hok (by omega) h3)
      |(skip
        iterate 9 refine GL.pass (s := 19) rfl rfl rfl ?_
        refine GL.pure rfl (p_pick_true rfl rfl) ?_; refine GL.nl_ ?_; refine GC.cond_true rfl ?_; refine GC.sr_ ?_
        iterate 2 refine GL.as_ rfl rfl ?_
        refine GL.nl_ ?_; refine GC.ret ?_
        refine fun a w h => Fin.back (rs := [.tmp 2, .tmp 3]) (vs := [_, _]) (is := []) (js := []) rfl ⟨rfl, rfl, trivial⟩ rfl rfl ?_ h
        clear h
        exact ⟨rfl, rfl, rfl⟩)
     ·try simp only [tst_] at h3
      first
      | (exfalso; first | omega | exact put_bad (by omega) hk.2.1 hk.2.2 hok (by omega) h3)
      |(skip
        refine GL.pureG (s := 19) rfl rfl rfl (p_move rfl) ?_; refine GL.pureG (s := 19) rfl rfl rfl (p_fieldAddr fo_61_0 rfl) ?_; refine GL.stepG rfl (s := 19) rfl rfl (t_mem rfl (m_load (i := 0) rfl rfl ag_3 rfl)) ?_; refine GL.pureG (s := 19) rfl rfl rfl (p_fieldAddr fo_61_1 rfl) ?_
        refine GL.stepG rfl (s := 19) rfl rfl (t_mem rfl (m_load (i := 0) rfl rfl ag_3 rfl)) ?_; refine GL.pureG (s := 19) rfl rfl rfl (p_fieldAddr fo_61_2 rfl) ?_; refine GL.stepG rfl (s := 19) rfl rfl (t_mem rfl (m_loadN (i := 0) rfl rfl ag_30 (vs := [_, _]) sz_30 ⟨rfl, rfl, trivial⟩)) ?_
        refine GL.stepG rfl (s := 19) rfl rfl (t_call rfl fn_165 rfl (is := [2, 1]) (js := [2, 1]) rfl rfl (by exact put_ct _ _ _ _ (tabOf (l.take k)) _ _ (gt l (k : Int)).result _ _ (tabOk_of (take_ok hk.1 hk.2.1)))) (GL.ret ?_)
        rintro _ _ _ ⟨es27, ck27, rfl, rfl, rfl⟩
        refine GL.pureG (s := 19) rfl rfl rfl (p_neq rfl rfl) ?_; refine GL.pure rfl (p_pick_false rfl rfl) ?_; refine GL.nl_ ?_; refine GC.cond rfl (fun h4 => ?_) (fun h4 => ?_)
        ·try simp only [tst_] at h4
         first
         | (exfalso; first | omega | exact put_bad (by omega) hk.2.1 hk.2.2 hok (by omega) h4)
         |(skip
           refine GC.sr_ ?_
           iterate 2 refine GL.as_ rfl rfl ?_
           refine GL.nl_ ?_; refine GC.ret ?_
           refine fun a w h => Fin.back (rs := [.tmp 2, .tmp 3]) (vs := [_, _]) (is := []) (js := []) rfl ⟨rfl, rfl, trivial⟩ rfl rfl ?_ h
           clear h
           exact ⟨rfl, rfl, rfl⟩)
        ·try simp only [tst_] at h4
         first
         | (exfalso; first | omega | exact put_bad (by omega) hk.2.1 hk.2.2 hok (by omega) h4)
         |(skip
           refine GC.skip (?_ : GC _ _ _ _)
           refine GC.region ?_; refine GL.pure rfl (p_fieldAddr fo_61_0 rfl) ?_; refine GL.step rfl (t_mem rfl (m_load (i := 2) rfl rfl ag_3 rfl)) ?_; refine GL.as_ rfl rfl ?_
           refine GL.nil (?_ : GC _ _ _ _)
           refine GC.region ?_; refine GL.pure rfl (p_add rfl rfl (w64 (by omega) (by omega))) ?_; refine GL.mv_ rfl rfl ?_; refine GL.nil ?_
           exact fun a w h => ⟨(k + 1), (_), (_), (by omega), ⟨by omega, fun j hj => (Nat.lt_succ_iff_lt_or_eq.1 hj).elim (hk.2.1 j) (fun e => by subst e; exact hok.1), by omega⟩, h.cut (is := [1, 0]) (js := [0, 4, 5]) ⟨rfl, rfl, rfl, rfl, rfl, trivial⟩ rfl rfl⟩)))
 ·try simp only [tst_] at h1
  first
  | (exfalso; first | omega | (simp at h1; done))
  |(skip
    refine GC.exit (?_ : GC _ _ _ _)
    refine GC.sr_ ?_; refine GL.mv_ rfl rfl ?_
    iterate 2 refine GL.as_ rfl rfl ?_
    refine GL.nl_ ?_; refine GC.ret ?_
    refine fun a w h => Fin.back (rs := [.tmp 2, .tmp 3]) (vs := [_, _]) (is := []) (js := []) rfl ⟨rfl, rfl, trivial⟩ rfl rfl ?_ h
    clear h
    exfalso
    obtain rfl : k = l.length := by omega
    rw [right_of hk.2.1 hk.2.2] at hr
    cases hr)
end Go.Proofs.YtdhdmbmknpjhbaaGreat
namespace Go.Proofs.YtdhdmbmknpjhbaaGreat
open Go Go.Sx Go.Proofs
abbrev kI : Kd Int := Kd.int .i64
abbrev iv (x : Int) : Value := Value.int .i64 x
theorem mem_gt {α : Type} [Inhabited α] {l : List α} {x : α} (h : x ∈ l) : ∃ k : Nat, k < l.length ∧ gt l (k : Int) = x := by
  obtain ⟨k, hk, rfl⟩ := List.getElem_of_mem h
  have g := gt_ok (xs := l) (i := (k : Int)) (by omega) (by omega)
  simp only [Int.toNat_natCast, List.getElem?_eq_getElem hk, Option.some.injEq] at g
  exact ⟨k, hk, g.symm⟩
theorem ext_gtI {α : Type} [Inhabited α] {a b : List α} (hl : a.length = b.length) (h : ∀ j : Nat, j < a.length → gt a (j : Int) = gt b (j : Int)) : a = b := by
  apply List.ext_getElem hl
  intro i h1 h2
  have g1 := gt_ok (xs := a) (i := (i : Int)) (by omega) (by omega)
  have g2 := gt_ok (xs := b) (i := (i : Int)) (by omega) (by omega)
  simp only [Int.toNat_natCast, List.getElem?_eq_getElem h1, List.getElem?_eq_getElem h2, Option.some.injEq] at g1 g2
  rw [g1, g2, h i h1]
theorem equal_i (A : Option Addr) (x : List Int) (cp : Nat) (B : Option Addr) (y : List Int) (cq : Nat) (hl : x.length ≤ 140737488355328) : Ct Tryz.prog 36 [.slice A x.length cp, .slice B y.length cq] [] [Pers.row kI A x, Pers.row kI B y] (fun u G Q => u = .bool (decide (x = y)) ∧ G = [] ∧ Q = []) := by
 refine Ct.intro Tryz.func36 rfl rfl rfl (fun c hc => ?_)
 refine GC.sr_ ?_; refine GL.as_ rfl rfl ?_; refine GL.nl_ ?_; refine GC.seq' ?_; refine GC.sr_ ?_; refine GL.mv_ rfl rfl ?_; refine GL.pure rfl (p_len Tryz.underlying31 rfl) ?_; refine GL.mv_ rfl rfl ?_; refine GL.pure rfl (p_len Tryz.underlying31 rfl) ?_
 refine GL.pure rfl (p_neq rfl rfl) ?_; refine GL.nl_ ?_; refine GC.cond rfl (fun h1 => ?_) (fun h1 => ?_)
 ·try simp only [tst_] at h1
  refine GC.sr_ ?_; refine GL.as_ rfl rfl ?_; refine GL.nl_ ?_; refine GC.ret ?_
  refine fun a w h => Fin.back (rs := [.tmp 4]) (vs := [_]) (is := []) (js := []) rfl ⟨rfl, trivial⟩ rfl rfl ?_ h
  clear h
  exact ⟨congrArg Value.bool (decide_eq_false fun e => by subst e; omega).symm, rfl, rfl⟩
 ·try simp only [tst_] at h1
  refine GC.skip (?_ : GC _ _ _ _)
  refine GC.seq' ?_; refine GC.sr_ ?_; refine GL.mv_ rfl rfl ?_; refine GL.pure rfl (p_len Tryz.underlying31 rfl) ?_; refine GL.mv_ rfl rfl ?_; refine GL.nl_ ?_; refine GC.block ?_; refine GC.loopK1 (ks := [0, 1, 12]) (is := []) (js := [0, 1]) (fun (k : Nat) => k ≤ x.length ∧ ∀ j : Nat, j < k → gt x (j : Int) = gt y (j : Int)) (fun (k : Nat) => [(13, .int .i64 (k : Int))]) (fun (k : Nat) => []) (fun (k : Nat) => []) (fun (k : Nat) => x.length - k) (0) rfl rfl rfl (fun a w h => ⟨⟨by omega, fun j hj => by omega⟩, h.cutK (is := []) (js := [0, 1]) (ks := [0, 1, 12]) ⟨rfl, trivial⟩ rfl rfl rfl⟩) ?_
  intro k hk
  try dsimp only [List.cons_append, List.nil_append] at hk ⊢
  obtain ⟨hk, he⟩ := hk
  refine GC.sr_ ?_; refine GL.pure rfl (p_lss rfl rfl) ?_; refine GL.nl_ ?_; refine GC.seq' ?_; refine GC.cond rfl (fun h2 => ?_) (fun h2 => ?_)
  ·try simp only [tst_] at h2
   refine GC.skip (?_ : GC _ _ _ _)
   refine GC.seq' ?_; refine GC.block ?_; refine GC.sr_ ?_; refine GL.mv_ rfl rfl ?_; refine GL.as_ rfl rfl ?_; refine GL.nl_ ?_; refine GC.seq' ?_; refine GC.layQ (y := .tmp 5) (j := 0) rfl rfl (by omega) (gt_ok (by omega) (by omega)) (fun p_x18 r_x18 hA_x18 ok_x18 => ?_)
   rcases r_x18 with _
   refine GC.layQ (y := .tmp 5) (j := 2) rfl rfl (by omega) (gt_ok (by omega) (by omega)) (fun p_x22 r_x22 hA_x22 ok_x22 => ?_)
   rcases r_x22 with _
   refine GC.regionQ wide_ (by kernel_rfl) ?_
   iterate 2 refine GQ.step rfl (q_pure (p_move rfl)) ?_
   refine GQ.step rfl (q_pure (p_indexL hA_x18 rfl rfl Tryz.underlying31 sz_3 (by omega) (by omega))) ?_; refine GQ.step rfl (q_mem (m_loadP (i := 1) rfl rfl ag_3 rfl)) ?_
   iterate 2 refine GQ.step rfl (q_pure (p_move rfl)) ?_
   refine GQ.step rfl (q_pure (p_indexL hA_x22 rfl rfl Tryz.underlying31 sz_3 (by omega) (by omega))) ?_; refine GQ.step rfl (q_mem (m_loadP (i := 0) rfl rfl ag_3 rfl)) ?_; refine GQ.step rfl (q_pure (p_neq rfl rfl)) ?_
   refine GQ.nil (?_ : GC _ _ _ _)
   refine GC.cond rfl (fun h3 => ?_) (fun h3 => ?_)
   ·try simp only [tst_] at h3
    refine GC.sr_ ?_; refine GL.as_ rfl rfl ?_; refine GL.nl_ ?_; refine GC.ret ?_
    refine fun a w h => Fin.back (rs := [.tmp 4]) (vs := [_]) (is := []) (js := []) rfl ⟨rfl, trivial⟩ rfl rfl ?_ h
    clear h
    exact ⟨congrArg Value.bool (decide_eq_false (fun e => by subst e; omega)).symm, rfl, rfl⟩
   ·try simp only [tst_] at h3
    refine GC.skip (?_ : GC _ _ _ _)
    refine GC.region ?_; refine GL.pure rfl (p_add rfl rfl (w64 (by omega) (by omega))) ?_; refine GL.mv_ rfl rfl ?_; refine GL.nil ?_
    exact fun a w h => ⟨(k + 1), (by omega), ⟨by omega, fun j hj => (Nat.lt_succ_iff_lt_or_eq.1 hj).elim (he j) (fun e => by subst e; omega)⟩, h.cut (is := []) (js := [2, 3]) ⟨rfl, rfl, rfl, rfl, trivial⟩ rfl rfl⟩
  ·try simp only [tst_] at h2
   refine GC.exit (?_ : GC _ _ _ _)
   refine GC.sr_ ?_; refine GL.as_ rfl rfl ?_; refine GL.nl_ ?_; refine GC.ret ?_
   refine fun a w h => Fin.back (rs := [.tmp 4]) (vs := [_]) (is := []) (js := []) rfl ⟨rfl, trivial⟩ rfl rfl ?_ h
   clear h
   exact ⟨congrArg Value.bool (decide_eq_true (ext_gtI (by omega) fun j hj => he j (by omega))).symm, rfl, rfl⟩
theorem clone_i (A : Option Addr) (xs : List Int) (cp : Nat) (hx : xs.length ≤ 17592186044416) : Ct Tryz.prog 167 [.slice A xs.length cp] [] [Pers.row kI A xs]
    (fun v G Q => ∃ A' cp', xs.length ≤ cp' ∧ cp' ≤ 9223372036854775807 ∧ v = .slice A' xs.length cp' ∧ G = [.row (.slice A' xs.length cp') 3 1 xs.length (xs.map iv)] ∧ Q = []) := by
 cases A with
 | none =>
   refine Ct.pure (fun w S h => row_none (h.per _ (List.mem_singleton.2 rfl))) fun hx0 => ?_
   subst hx0
   refine Ct.intro Tryz.func167 rfl rfl rfl (fun c hc => ?_)
   refine GC.sr_ ?_; refine GL.as_ rfl rfl ?_; refine GL.nl_ ?_; refine GC.seq' ?_; refine GC.sr_ ?_; refine GL.mv_ rfl rfl ?_; refine GL.pure rfl (p_slnil_eql Tryz.underlying31 rfl rfl) ?_; refine GL.nl_ ?_; refine GC.cond_true rfl ?_
   refine GC.sr_ ?_; refine GL.as_ rfl rfl ?_; refine GL.nl_ ?_; refine GC.nilrow 3 1 ?_; refine GC.ret ?_
   refine fun a w h => Fin.back (rs := [.tmp 2]) (vs := [_]) (is := [0]) (js := []) rfl ⟨rfl, trivial⟩ rfl rfl ?_ h
   clear h
   exact ⟨_, _, by simp, by simp, rfl, rfl, rfl⟩
 | some a =>
   refine Ct.intro Tryz.func167 rfl rfl rfl (fun c hc => ?_)
   refine GC.sr_ ?_; refine GL.as_ rfl rfl ?_; refine GL.nl_ ?_; refine GC.seq' ?_; refine GC.sr_ ?_; refine GL.mv_ rfl rfl ?_; refine GL.pure rfl (p_slnil_eql Tryz.underlying31 rfl rfl) ?_; refine GL.nl_ ?_; refine GC.cond_false rfl ?_
   refine GC.skip (?_ : GC _ _ _ _)
   refine GC.sr_ ?_; refine GL.step rfl (t_buildSlice rfl Tryz.underlying31 sz_3 ze_3 rfl rfl rfl rfl rfl rfl) (GL.ex fun b_t5 => ?_); refine GL.mv_ rfl rfl ?_; refine GL.torow (i := 0) (m := 0) (sz := 1) rfl rfl (by decide) rfl ?_
   refine GL.step rfl (t_appendS (i := 0) (k := 0) rfl el_31 rfl rfl rfl rfl (by simp; omega) (fun _ => rfl)) (GL.ex fun v7 => ?_); refine GL.as_ rfl rfl ?_; refine GL.nl_ ?_; refine GC.shape (i := 0) rfl (fun A1 c1 e1 l1 l2 => ?_)
   subst e1
   simp only [Nat.zero_add, List.nil_append] at l1 ⊢
   refine GC.ret ?_
   refine fun a w h => Fin.back (rs := [.tmp 2]) (vs := [_]) (is := [0]) (js := []) rfl ⟨rfl, trivial⟩ rfl rfl ?_ h
   clear h
   exact ⟨_, _, l1, l2, rfl, rfl, rfl⟩
def incI : Int → List Int → Bool
  | _, [] => true
  | b, x :: l => decide (b < x) && decide (x < 64) && incI x l
def groupOk (e : Int) (l : List Int) : Bool := decide (0 ≤ e) && decide (e ≤ 4611686018427387904) && decide (1 ≤ l.length) && decide (l.length ≤ 9) && incI (-1) l
def lastI (l : List Int) : Nat → Int
  | 0 => -1
  | k + 1 => gt l (k : Int)
theorem drop_gtI {α : Type} [Inhabited α] {l : List α} {k : Nat} (h : k < l.length) : l.drop k = gt l (k : Int) :: l.drop (k + 1) := by
  have := gt_ok (xs := l) (i := (k : Int)) (by omega) (by omega)
  simp only [Int.toNat_natCast] at this
  rw [List.drop_eq_getElem_cons h]
  rw [List.getElem?_eq_getElem h] at this
  simp only [Option.some.injEq] at this
  rw [this]
theorem incI_step {l : List Int} {k : Nat} {b : Int} (h : k < l.length) : incI b (l.drop k) = (decide (b < gt l (k : Int)) && decide (gt l (k : Int) < 64) && incI (gt l (k : Int)) (l.drop (k + 1))) := by
  rw [drop_gtI h]; rfl
theorem incI_ok {l : List Int} {k : Nat} {b : Int} (h : k < l.length) (h1 : b < gt l (k : Int)) (h2 : gt l (k : Int) < 64) : incI b (l.drop k) = incI (gt l (k : Int)) (l.drop (k + 1)) := by
  rw [incI_step h, decide_eq_true h1, decide_eq_true h2]; rfl
theorem incI_bad {l : List Int} {k : Nat} {b : Int} (h : k < l.length) (h1 : gt l (k : Int) ≤ b ∨ 64 ≤ gt l (k : Int)) : incI b (l.drop k) = false := by
  rw [incI_step h]
  rcases h1 with h1 | h1
  · rw [decide_eq_false (by omega)]; rfl
  · rw [decide_eq_false (show ¬ gt l (k : Int) < 64 by omega), Bool.and_false, Bool.false_and]
theorem grp_next {x b nb : Bool} {l : List Int} {k : Nat} (hk : k < l.length) (he : x = (b && incI (lastI l k) (l.drop k))) (hb : nb = (b && decide (lastI l k < gt l (k : Int)) && decide (gt l (k : Int) < 64))) : x = (nb && incI (lastI l (k + 1)) (l.drop (k + 1))) := by
  subst hb; rw [he, incI_step hk, lastI, Bool.and_assoc, Bool.and_assoc, Bool.and_assoc]
abbrev grpV (e : Int) (A : Option Addr) (n cp : Nat) : Value := .agg #[.int .i64 e, .slice A n cp]
end Go.Proofs.YtdhdmbmknpjhbaaGreat
