/- THE VOLUME: volumes of pages, both; a step of both; rows of pages held against each other. -/
import Derived.Test.YtihhpkbbhfcdcaaVp4
set_option linter.unusedVariables false
set_option linter.unusedSimpArgs false
set_option maxRecDepth 100000
namespace Go.Proofs.Ytihhpkbbhfcdcaa
open Go Go.Sx Go.Proofs
def loadV (bl sz : Int) (l : List Page) : Vol := putF (newV bl sz) l
theorem loadV_ok {bl sz : Int} {l : List Page} (h : shapeOk bl sz) (hl : laidF bl sz (-1) l = true) : VolOk (loadV bl sz l) := putF_ok (newV_ok h) (laidF_all hl (by omega))
theorem patch_yes {bl sz : Int} {l : List Page} (hl : laidF bl sz (-1) l = true) : patchF (newV bl sz) l = (0, loadV bl sz l) := by
  unfold patchF; rw [if_pos (show laidF (newV bl sz).bl (newV bl sz).sz (-1) l = true from hl)]; rfl
theorem patch_no {v : Vol} {l : List Page} (hl : laidF v.bl v.sz (-1) l = false) : patchF v l = (50, v) := by
  unfold patchF; rw [if_neg (by rw [hl]; simp)]
theorem patch_eq (p pb pv : Nat) (v : Vol) (A : Option Addr) (l : List Page) (cp : Nat) (hv : VolOk v) (hl : l.length ≤ 140737488355328) (e : Int) (v' : Vol) (h : patchF v l = (e, v')) : Ct Try.prog 21 [.pointer (some ⟨p, 0, none⟩), .slice A l.length cp] (volG p pb pv v) [Pers.row kPage A l]
    (fun u G Q => u = .int .i64 e ∧ G = volG p pb pv v' ∧ Q = []) := by
  have := patch_ct p pb pv v A l cp hv hl
  rw [h] at this; exact this
theorem rpatch_eq (p pB pV c1 c2 : Nat) (sp spv cs : List Value) (v : Vol) (A : Option Addr) (l : List Page) (cp : Nat) (hv : VolOk v) (hl : l.length ≤ 140737488355328) (hd : ∀ x ∈ l, x.data.length ≤ 140737488355328) (e : Int) (v' : Vol) (h : patchF v l = (e, v')) : Ct Try.prog 32 [.pointer (some ⟨p, 0, none⟩), .slice A l.length cp] (rvG p pB pV c1 c2 sp spv cs v) [Pers.reps kBytes (chV v) cs, Pers.row kPage A l]
    (fun u G Q => ∃ cs', u = .int .i64 e ∧ G = rvG p pB pV c1 c2 sp spv cs' v' ∧ Q = [Pers.reps kBytes (chV v') cs']) := by
  have := rpatch_ct p pB pV c1 c2 sp spv cs v A l cp hv hl hd
  rw [h] at this; exact this

theorem load_bad (bl sz : Int) (A : Option Addr) (l : List Page) (cp : Nat) (h : ¬ shapeOk bl sz) : Ct Try.prog 30 [shpV bl sz, .slice A l.length cp] [] [Pers.row kPage A l] (fun v G Q => v = .tuple #[.pointer none, .int .i64 40] ∧ G = [] ∧ Q = []) := by
  refine Ct.intro Try.func30 rfl rfl rfl (fun c hc => ?_)
  refine GC.seq' ?_
  refine GC.region ?_
  refine GL.step rfl (t_box rfl rfl rfl) (GL.ex fun b_t2 => ?_)
  refine GL.pure rfl (p_assign rfl) ?_
  refine GL.pure rfl (p_assign rfl) ?_
  refine GL.nil (?_ : GC _ _ _ _)
  refine GC.seq' ?_
  refine GC.region ?_
  refine GL.step rfl (t_mem rfl (m_loadN (i := 0) rfl rfl ag_23 (vs := [_, _]) sz_23 ⟨rfl, rfl, trivial⟩)) ?_
  refine GL.step rfl (t_call rfl fn_9 rfl (is := []) (js := []) rfl rfl (by exact new_bad _ _ h)) (GL.ret ?_)
  rintro _ _ _ ⟨rfl, rfl, rfl⟩
  refine GL.pure rfl (p_move rfl) ?_
  refine GL.pure rfl (p_extract rfl rfl) ?_
  refine GL.pure rfl (p_extract rfl rfl) ?_
  refine GL.pure rfl (p_assign rfl) ?_
  refine GL.pure rfl (p_assign rfl) ?_
  refine GL.nil (?_ : GC _ _ _ _)
  refine GC.seq' ?_
  refine GC.seq' ?_
  refine GC.region ?_
  refine GL.pure rfl (p_move rfl) ?_
  refine GL.pure rfl (p_eql rfl rfl) ?_
  refine GL.nil (?_ : GC _ _ _ _)
  refine GC.cond_false rfl ?_
  refine GC.skip (?_ : GC _ _ _ _)
  refine GC.seq' ?_
  refine GC.seq' ?_
  refine GC.region ?_
  refine GL.pure rfl (p_move rfl) ?_
  refine GL.pure rfl (p_neq rfl rfl) ?_
  refine GL.nil (?_ : GC _ _ _ _)
  refine GC.cond_true rfl ?_
  refine GC.seq' ?_
  refine GC.region ?_
  refine GL.pure rfl (p_move rfl) ?_
  refine GL.pure rfl (p_assign rfl) ?_
  refine GL.pure rfl (p_assign rfl) ?_
  refine GL.nil (?_ : GC _ _ _ _)
  refine GC.ret ?_
  refine fun a w h => Fin.back (rs := [.tmp 4, .tmp 5]) (vs := [_, _]) (is := []) (js := []) rfl ⟨rfl, rfl, trivial⟩ rfl rfl ?_ h
  clear h
  exact ⟨rfl, rfl, rfl⟩
theorem load_no (bl sz : Int) (A : Option Addr) (l : List Page) (cp : Nat) (h : shapeOk bl sz) (hl : l.length ≤ 140737488355328) (hn : laidF bl sz (-1) l = false) : Ct Try.prog 30 [shpV bl sz, .slice A l.length cp] [] [Pers.row kPage A l] (fun v G Q => v = .tuple #[.pointer none, .int .i64 50] ∧ G = [] ∧ Q = []) := by
  refine Ct.intro Try.func30 rfl rfl rfl (fun c hc => ?_)
  refine GC.seq' ?_
  refine GC.region ?_
  refine GL.step rfl (t_box rfl rfl rfl) (GL.ex fun b_t2 => ?_)
  refine GL.pure rfl (p_assign rfl) ?_
  refine GL.pure rfl (p_assign rfl) ?_
  refine GL.nil (?_ : GC _ _ _ _)
  refine GC.seq' ?_
  refine GC.region ?_
  refine GL.step rfl (t_mem rfl (m_loadN (i := 0) rfl rfl ag_23 (vs := [_, _]) sz_23 ⟨rfl, rfl, trivial⟩)) ?_
  refine GL.step rfl (t_call rfl fn_9 rfl (is := []) (js := []) rfl rfl (by exact new_ok _ _ h)) (GL.ret ?_)
  rintro _ _ _ ⟨p10, pb10, pv10, rfl, rfl, rfl⟩
  refine GL.pure rfl (p_move rfl) ?_
  refine GL.pure rfl (p_extract rfl rfl) ?_
  refine GL.pure rfl (p_extract rfl rfl) ?_
  refine GL.pure rfl (p_assign rfl) ?_
  refine GL.pure rfl (p_assign rfl) ?_
  refine GL.nil (?_ : GC _ _ _ _)
  refine GC.seq' ?_
  refine GC.seq' ?_
  refine GC.region ?_
  refine GL.pure rfl (p_move rfl) ?_
  refine GL.pure rfl (p_eql rfl rfl) ?_
  refine GL.nil (?_ : GC _ _ _ _)
  refine GC.cond_true rfl ?_
  refine GC.region ?_
  refine GL.pure rfl (p_move rfl) ?_
  refine GL.pure rfl (p_move rfl) ?_
  refine GL.step rfl (t_call rfl fn_21 rfl (is := [0, 0, 0]) (js := [0]) rfl rfl (by exact patch_eq _ _ _ (newV bl sz) _ _ _ (newV_ok h) hl _ _ (patch_no hn))) (GL.ret ?_)
  rintro _ _ _ ⟨rfl, rfl, rfl⟩
  refine GL.pure rfl (p_assign rfl) ?_
  refine GL.nil (?_ : GC _ _ _ _)
  refine GC.seq' ?_
  refine GC.seq' ?_
  refine GC.region ?_
  refine GL.pure rfl (p_move rfl) ?_
  refine GL.pure rfl (p_neq rfl rfl) ?_
  refine GL.nil (?_ : GC _ _ _ _)
  refine GC.cond_true rfl ?_
  refine GC.seq' ?_
  refine GC.region ?_
  refine GL.pure rfl (p_move rfl) ?_
  refine GL.pure rfl (p_assign rfl) ?_
  refine GL.pure rfl (p_assign rfl) ?_
  refine GL.nil (?_ : GC _ _ _ _)
  refine GC.ret ?_
  refine fun a w h => Fin.back (rs := [.tmp 4, .tmp 5]) (vs := [_, _]) (is := []) (js := []) rfl ⟨rfl, rfl, trivial⟩ rfl rfl ?_ h
  clear h
  exact ⟨rfl, rfl, rfl⟩
theorem load_ok (bl sz : Int) (A : Option Addr) (l : List Page) (cp : Nat) (h : shapeOk bl sz) (hl : l.length ≤ 140737488355328) (hn : laidF bl sz (-1) l = true) : Ct Try.prog 30 [shpV bl sz, .slice A l.length cp] [] [Pers.row kPage A l] (fun v G Q => ∃ p pb pv, v = .tuple #[.pointer (some ⟨p, 0, none⟩), .int .i64 0] ∧ G = volG p pb pv (loadV bl sz l) ∧ Q = []) := by
  refine Ct.intro Try.func30 rfl rfl rfl (fun c hc => ?_)
  refine GC.seq' ?_
  refine GC.region ?_
  refine GL.step rfl (t_box rfl rfl rfl) (GL.ex fun b_t2 => ?_)
  refine GL.pure rfl (p_assign rfl) ?_
  refine GL.pure rfl (p_assign rfl) ?_
  refine GL.nil (?_ : GC _ _ _ _)
  refine GC.seq' ?_
  refine GC.region ?_
  refine GL.step rfl (t_mem rfl (m_loadN (i := 0) rfl rfl ag_23 (vs := [_, _]) sz_23 ⟨rfl, rfl, trivial⟩)) ?_
  refine GL.step rfl (t_call rfl fn_9 rfl (is := []) (js := []) rfl rfl (by exact new_ok _ _ h)) (GL.ret ?_)
  rintro _ _ _ ⟨p10, pb10, pv10, rfl, rfl, rfl⟩
  refine GL.pure rfl (p_move rfl) ?_
  refine GL.pure rfl (p_extract rfl rfl) ?_
  refine GL.pure rfl (p_extract rfl rfl) ?_
  refine GL.pure rfl (p_assign rfl) ?_
  refine GL.pure rfl (p_assign rfl) ?_
  refine GL.nil (?_ : GC _ _ _ _)
  refine GC.seq' ?_
  refine GC.seq' ?_
  refine GC.region ?_
  refine GL.pure rfl (p_move rfl) ?_
  refine GL.pure rfl (p_eql rfl rfl) ?_
  refine GL.nil (?_ : GC _ _ _ _)
  refine GC.cond_true rfl ?_
  refine GC.region ?_
  refine GL.pure rfl (p_move rfl) ?_
  refine GL.pure rfl (p_move rfl) ?_
  refine GL.step rfl (t_call rfl fn_21 rfl (is := [0, 0, 0]) (js := [0]) rfl rfl (by exact patch_eq _ _ _ (newV bl sz) _ _ _ (newV_ok h) hl _ _ (patch_yes hn))) (GL.ret ?_)
  rintro _ _ _ ⟨rfl, rfl, rfl⟩
  refine GL.pure rfl (p_assign rfl) ?_
  refine GL.nil (?_ : GC _ _ _ _)
  refine GC.seq' ?_
  refine GC.seq' ?_
  refine GC.region ?_
  refine GL.pure rfl (p_move rfl) ?_
  refine GL.pure rfl (p_neq rfl rfl) ?_
  refine GL.nil (?_ : GC _ _ _ _)
  refine GC.cond_false rfl ?_
  refine GC.skip (?_ : GC _ _ _ _)
  refine GC.seq' ?_
  refine GC.region ?_
  refine GL.pure rfl (p_move rfl) ?_
  refine GL.pure rfl (p_assign rfl) ?_
  refine GL.pure rfl (p_assign rfl) ?_
  refine GL.nil (?_ : GC _ _ _ _)
  refine GC.ret ?_
  refine fun a w h => Fin.back (rs := [.tmp 4, .tmp 5]) (vs := [_, _]) (is := [0, 0, 0]) (js := []) rfl ⟨rfl, rfl, trivial⟩ rfl rfl ?_ h
  clear h
  exact ⟨_, _, _, rfl, rfl, rfl⟩
theorem rload_bad (bl sz : Int) (A : Option Addr) (l : List Page) (cp : Nat) (h : ¬ shapeOk bl sz) : Ct Try.prog 31 [shpV bl sz, .slice A l.length cp] [] [Pers.row kPage A l] (fun v G Q => v = .tuple #[.pointer none, .int .i64 40] ∧ G = [] ∧ Q = []) := by
  refine Ct.intro Try.func31 rfl rfl rfl (fun c hc => ?_)
  refine GC.seq' ?_
  refine GC.region ?_
  refine GL.step rfl (t_box rfl rfl rfl) (GL.ex fun b_t2 => ?_)
  refine GL.pure rfl (p_assign rfl) ?_
  refine GL.pure rfl (p_assign rfl) ?_
  refine GL.nil (?_ : GC _ _ _ _)
  refine GC.seq' ?_
  refine GC.region ?_
  refine GL.step rfl (t_mem rfl (m_loadN (i := 0) rfl rfl ag_23 (vs := [_, _]) sz_23 ⟨rfl, rfl, trivial⟩)) ?_
  refine GL.step rfl (t_call rfl fn_42 rfl (is := []) (js := []) rfl rfl (by exact rnew_bad _ _ h)) (GL.ret ?_)
  rintro _ _ _ ⟨rfl, rfl, rfl⟩
  refine GL.pure rfl (p_move rfl) ?_
  refine GL.pure rfl (p_extract rfl rfl) ?_
  refine GL.pure rfl (p_extract rfl rfl) ?_
  refine GL.pure rfl (p_assign rfl) ?_
  refine GL.pure rfl (p_assign rfl) ?_
  refine GL.nil (?_ : GC _ _ _ _)
  refine GC.seq' ?_
  refine GC.seq' ?_
  refine GC.region ?_
  refine GL.pure rfl (p_move rfl) ?_
  refine GL.pure rfl (p_neq rfl rfl) ?_
  refine GL.nil (?_ : GC _ _ _ _)
  refine GC.cond_true rfl ?_
  refine GC.seq' ?_
  refine GC.region ?_
  refine GL.pure rfl (p_move rfl) ?_
  refine GL.pure rfl (p_assign rfl) ?_
  refine GL.pure rfl (p_assign rfl) ?_
  refine GL.nil (?_ : GC _ _ _ _)
  refine GC.ret ?_
  refine fun a w h => Fin.back (rs := [.tmp 4, .tmp 5]) (vs := [_, _]) (is := []) (js := []) rfl ⟨rfl, rfl, trivial⟩ rfl rfl ?_ h
  clear h
  exact ⟨rfl, rfl, rfl⟩
theorem rload_no (bl sz : Int) (A : Option Addr) (l : List Page) (cp : Nat) (h : shapeOk bl sz) (hl : l.length ≤ 140737488355328) (hd : ∀ x ∈ l, x.data.length ≤ 140737488355328) (hn : laidF bl sz (-1) l = false) : Ct Try.prog 31 [shpV bl sz, .slice A l.length cp] [] [Pers.row kPage A l] (fun v G Q => v = .tuple #[.pointer none, .int .i64 50] ∧ G = [] ∧ Q = []) := by
  refine Ct.intro Try.func31 rfl rfl rfl (fun c hc => ?_)
  refine GC.seq' ?_
  refine GC.region ?_
  refine GL.step rfl (t_box rfl rfl rfl) (GL.ex fun b_t2 => ?_)
  refine GL.pure rfl (p_assign rfl) ?_
  refine GL.pure rfl (p_assign rfl) ?_
  refine GL.nil (?_ : GC _ _ _ _)
  refine GC.seq' ?_
  refine GC.region ?_
  refine GL.step rfl (t_mem rfl (m_loadN (i := 0) rfl rfl ag_23 (vs := [_, _]) sz_23 ⟨rfl, rfl, trivial⟩)) ?_
  refine GL.step rfl (t_call rfl fn_42 rfl (is := []) (js := []) rfl rfl (by exact rnew_ok _ _ h)) (GL.ret ?_)
  rintro _ _ _ ⟨rp10, rB10, rV10, rc110, rc210, sp10, spv10, cs10, rfl, rfl, rfl⟩
  refine GL.pure rfl (p_move rfl) ?_
  refine GL.pure rfl (p_extract rfl rfl) ?_
  refine GL.pure rfl (p_extract rfl rfl) ?_
  refine GL.pure rfl (p_assign rfl) ?_
  refine GL.pure rfl (p_assign rfl) ?_
  refine GL.nil (?_ : GC _ _ _ _)
  refine GC.seq' ?_
  refine GC.seq' ?_
  refine GC.region ?_
  refine GL.pure rfl (p_move rfl) ?_
  refine GL.pure rfl (p_neq rfl rfl) ?_
  refine GL.nil (?_ : GC _ _ _ _)
  refine GC.cond_false rfl ?_
  refine GC.skip (?_ : GC _ _ _ _)
  refine GC.seq' ?_
  refine GC.region ?_
  refine GL.pure rfl (p_move rfl) ?_
  refine GL.pure rfl (p_move rfl) ?_
  refine GL.step rfl (t_call rfl fn_32 rfl (is := [0, 0, 0]) (js := [0, 1]) rfl rfl (by exact rpatch_eq _ _ _ _ _ _ _ _ (newV bl sz) _ _ _ (newV_ok h) hl hd _ _ (patch_no hn))) (GL.ret ?_)
  rintro _ _ _ ⟨cs18, rfl, rfl, rfl⟩
  refine GL.pure rfl (p_assign rfl) ?_
  refine GL.nil (?_ : GC _ _ _ _)
  refine GC.seq' ?_
  refine GC.seq' ?_
  refine GC.region ?_
  refine GL.pure rfl (p_move rfl) ?_
  refine GL.pure rfl (p_neq rfl rfl) ?_
  refine GL.nil (?_ : GC _ _ _ _)
  refine GC.cond_true rfl ?_
  refine GC.seq' ?_
  refine GC.region ?_
  refine GL.pure rfl (p_move rfl) ?_
  refine GL.pure rfl (p_assign rfl) ?_
  refine GL.pure rfl (p_assign rfl) ?_
  refine GL.nil (?_ : GC _ _ _ _)
  refine GC.ret ?_
  refine fun a w h => Fin.back (rs := [.tmp 4, .tmp 5]) (vs := [_, _]) (is := []) (js := []) rfl ⟨rfl, rfl, trivial⟩ rfl rfl ?_ h
  clear h
  exact ⟨rfl, rfl, rfl⟩
theorem rload_ok (bl sz : Int) (A : Option Addr) (l : List Page) (cp : Nat) (h : shapeOk bl sz) (hl : l.length ≤ 140737488355328) (hd : ∀ x ∈ l, x.data.length ≤ 140737488355328) (hn : laidF bl sz (-1) l = true) : Ct Try.prog 31 [shpV bl sz, .slice A l.length cp] [] [Pers.row kPage A l]
    (fun v G Q => ∃ p pB pV c1 c2 sp spv cs, v = .tuple #[.pointer (some ⟨p, 0, none⟩), .int .i64 0] ∧ G = rvG p pB pV c1 c2 sp spv cs (loadV bl sz l) ∧ Q = [Pers.reps kBytes (chV (loadV bl sz l)) cs]) := by
  refine Ct.intro Try.func31 rfl rfl rfl (fun c hc => ?_)
  refine GC.seq' ?_
  refine GC.region ?_
  refine GL.step rfl (t_box rfl rfl rfl) (GL.ex fun b_t2 => ?_)
  refine GL.pure rfl (p_assign rfl) ?_
  refine GL.pure rfl (p_assign rfl) ?_
  refine GL.nil (?_ : GC _ _ _ _)
  refine GC.seq' ?_
  refine GC.region ?_
  refine GL.step rfl (t_mem rfl (m_loadN (i := 0) rfl rfl ag_23 (vs := [_, _]) sz_23 ⟨rfl, rfl, trivial⟩)) ?_
  refine GL.step rfl (t_call rfl fn_42 rfl (is := []) (js := []) rfl rfl (by exact rnew_ok _ _ h)) (GL.ret ?_)
  rintro _ _ _ ⟨rp10, rB10, rV10, rc110, rc210, sp10, spv10, cs10, rfl, rfl, rfl⟩
  refine GL.pure rfl (p_move rfl) ?_
  refine GL.pure rfl (p_extract rfl rfl) ?_
  refine GL.pure rfl (p_extract rfl rfl) ?_
  refine GL.pure rfl (p_assign rfl) ?_
  refine GL.pure rfl (p_assign rfl) ?_
  refine GL.nil (?_ : GC _ _ _ _)
  refine GC.seq' ?_
  refine GC.seq' ?_
  refine GC.region ?_
  refine GL.pure rfl (p_move rfl) ?_
  refine GL.pure rfl (p_neq rfl rfl) ?_
  refine GL.nil (?_ : GC _ _ _ _)
  refine GC.cond_false rfl ?_
  refine GC.skip (?_ : GC _ _ _ _)
  refine GC.seq' ?_
  refine GC.region ?_
  refine GL.pure rfl (p_move rfl) ?_
  refine GL.pure rfl (p_move rfl) ?_
  refine GL.step rfl (t_call rfl fn_32 rfl (is := [0, 0, 0]) (js := [0, 1]) rfl rfl (by exact rpatch_eq _ _ _ _ _ _ _ _ (newV bl sz) _ _ _ (newV_ok h) hl hd _ _ (patch_yes hn))) (GL.ret ?_)
  rintro _ _ _ ⟨cs18, rfl, rfl, rfl⟩
  refine GL.pure rfl (p_assign rfl) ?_
  refine GL.nil (?_ : GC _ _ _ _)
  refine GC.seq' ?_
  refine GC.seq' ?_
  refine GC.region ?_
  refine GL.pure rfl (p_move rfl) ?_
  refine GL.pure rfl (p_neq rfl rfl) ?_
  refine GL.nil (?_ : GC _ _ _ _)
  refine GC.cond_false rfl ?_
  refine GC.skip (?_ : GC _ _ _ _)
  refine GC.seq' ?_
  refine GC.region ?_
  refine GL.pure rfl (p_move rfl) ?_
  refine GL.pure rfl (p_assign rfl) ?_
  refine GL.pure rfl (p_assign rfl) ?_
  refine GL.nil (?_ : GC _ _ _ _)
  refine GC.ret ?_
  refine fun a w h => Fin.back (rs := [.tmp 4, .tmp 5]) (vs := [_, _]) (is := [0, 0, 0]) (js := [0]) rfl ⟨rfl, rfl, trivial⟩ rfl rfl ?_ h
  clear h
  exact ⟨_, _, _, _, _, _, _, _, rfl, rfl, rfl⟩

theorem begin_bad (bl sz : Int) (A : Option Addr) (l : List Page) (cp : Nat) (h : ¬ shapeOk bl sz) : Ct Try.prog 15 [shpV bl sz, .slice A l.length cp] [] [Pers.row kPage A l] (fun v G Q => v = .tuple #[.pointer none, .pointer none, .bool true] ∧ G = [] ∧ Q = []) := by
  refine Ct.intro Try.func15 rfl rfl rfl (fun c hc => ?_)
  refine GC.seq' ?_
  refine GC.region ?_
  refine GL.step rfl (t_box rfl rfl rfl) (GL.ex fun b_t2 => ?_)
  refine GL.pure rfl (p_assign rfl) ?_
  refine GL.pure rfl (p_assign rfl) ?_
  refine GL.pure rfl (p_assign rfl) ?_
  refine GL.nil (?_ : GC _ _ _ _)
  refine GC.seq' ?_
  refine GC.region ?_
  refine GL.step rfl (t_mem rfl (m_loadN (i := 0) rfl rfl ag_23 (vs := [_, _]) sz_23 ⟨rfl, rfl, trivial⟩)) ?_
  refine GL.pure rfl (p_move rfl) ?_
  refine GL.step rfl (t_call rfl fn_30 rfl (is := []) (js := [0]) rfl rfl (by exact load_bad _ _ _ _ _ h)) (GL.ret ?_)
  rintro _ _ _ ⟨rfl, rfl, rfl⟩
  refine GL.pure rfl (p_move rfl) ?_
  refine GL.pure rfl (p_extract rfl rfl) ?_
  refine GL.pure rfl (p_extract rfl rfl) ?_
  refine GL.pure rfl (p_assign rfl) ?_
  refine GL.pure rfl (p_assign rfl) ?_
  refine GL.nil (?_ : GC _ _ _ _)
  refine GC.seq' ?_
  refine GC.region ?_
  refine GL.step rfl (t_mem rfl (m_loadN (i := 0) rfl rfl ag_23 (vs := [_, _]) sz_23 ⟨rfl, rfl, trivial⟩)) ?_
  refine GL.pure rfl (p_move rfl) ?_
  refine GL.step rfl (t_call rfl fn_31 rfl (is := []) (js := [0]) rfl rfl (by exact rload_bad _ _ _ _ _ h)) (GL.ret ?_)
  rintro _ _ _ ⟨rfl, rfl, rfl⟩
  refine GL.pure rfl (p_move rfl) ?_
  refine GL.pure rfl (p_extract rfl rfl) ?_
  refine GL.pure rfl (p_extract rfl rfl) ?_
  refine GL.pure rfl (p_assign rfl) ?_
  refine GL.pure rfl (p_assign rfl) ?_
  refine GL.nil (?_ : GC _ _ _ _)
  refine GC.seq' ?_
  refine GC.region ?_
  refine GL.pure rfl (p_move rfl) ?_
  refine GL.pure rfl (p_move rfl) ?_
  refine GL.pure rfl (p_move rfl) ?_
  refine GL.pure rfl (p_move rfl) ?_
  refine GL.pure rfl (p_eql rfl rfl) ?_
  refine GL.pure rfl (p_move rfl) ?_
  refine GL.pureG (s := 28) rfl rfl rfl (p_move rfl) ?_
  refine GL.pureG (s := 28) rfl rfl rfl (p_pnil_eql Try.underlying24 rfl rfl) ?_
  refine GL.pureG (s := 28) rfl rfl rfl (p_move rfl) ?_
  refine GL.pureG (s := 28) rfl rfl rfl (p_pnil_eql Try.underlying36 rfl rfl) ?_
  refine GL.pureG (s := 28) rfl rfl rfl (p_beql Try.underlying4 rfl rfl) ?_
  refine GL.pure rfl (p_pick_true rfl rfl) ?_
  refine GL.pure rfl (p_assign rfl) ?_
  refine GL.pure rfl (p_assign rfl) ?_
  refine GL.pure rfl (p_assign rfl) ?_
  refine GL.nil (?_ : GC _ _ _ _)
  refine GC.ret ?_
  refine fun a w h => Fin.back (rs := [.tmp 4, .tmp 5, .tmp 6]) (vs := [_, _, _]) (is := []) (js := []) rfl ⟨rfl, rfl, rfl, trivial⟩ rfl rfl ?_ h
  clear h
  exact ⟨rfl, rfl, rfl⟩
theorem begin_no (bl sz : Int) (A : Option Addr) (l : List Page) (cp : Nat) (h : shapeOk bl sz) (hl : l.length ≤ 140737488355328) (hd : ∀ x ∈ l, x.data.length ≤ 140737488355328) (hn : laidF bl sz (-1) l = false) : Ct Try.prog 15 [shpV bl sz, .slice A l.length cp] [] [Pers.row kPage A l] (fun v G Q => v = .tuple #[.pointer none, .pointer none, .bool true] ∧ G = [] ∧ Q = []) := by
  refine Ct.intro Try.func15 rfl rfl rfl (fun c hc => ?_)
  refine GC.seq' ?_
  refine GC.region ?_
  refine GL.step rfl (t_box rfl rfl rfl) (GL.ex fun b_t2 => ?_)
  refine GL.pure rfl (p_assign rfl) ?_
  refine GL.pure rfl (p_assign rfl) ?_
  refine GL.pure rfl (p_assign rfl) ?_
  refine GL.nil (?_ : GC _ _ _ _)
  refine GC.seq' ?_
  refine GC.region ?_
  refine GL.step rfl (t_mem rfl (m_loadN (i := 0) rfl rfl ag_23 (vs := [_, _]) sz_23 ⟨rfl, rfl, trivial⟩)) ?_
  refine GL.pure rfl (p_move rfl) ?_
  refine GL.step rfl (t_call rfl fn_30 rfl (is := []) (js := [0]) rfl rfl (by exact load_no _ _ _ _ _ h hl hn)) (GL.ret ?_)
  rintro _ _ _ ⟨rfl, rfl, rfl⟩
  refine GL.pure rfl (p_move rfl) ?_
  refine GL.pure rfl (p_extract rfl rfl) ?_
  refine GL.pure rfl (p_extract rfl rfl) ?_
  refine GL.pure rfl (p_assign rfl) ?_
  refine GL.pure rfl (p_assign rfl) ?_
  refine GL.nil (?_ : GC _ _ _ _)
  refine GC.seq' ?_
  refine GC.region ?_
  refine GL.step rfl (t_mem rfl (m_loadN (i := 0) rfl rfl ag_23 (vs := [_, _]) sz_23 ⟨rfl, rfl, trivial⟩)) ?_
  refine GL.pure rfl (p_move rfl) ?_
  refine GL.step rfl (t_call rfl fn_31 rfl (is := []) (js := [0]) rfl rfl (by exact rload_no _ _ _ _ _ h hl hd hn)) (GL.ret ?_)
  rintro _ _ _ ⟨rfl, rfl, rfl⟩
  refine GL.pure rfl (p_move rfl) ?_
  refine GL.pure rfl (p_extract rfl rfl) ?_
  refine GL.pure rfl (p_extract rfl rfl) ?_
  refine GL.pure rfl (p_assign rfl) ?_
  refine GL.pure rfl (p_assign rfl) ?_
  refine GL.nil (?_ : GC _ _ _ _)
  refine GC.seq' ?_
  refine GC.region ?_
  refine GL.pure rfl (p_move rfl) ?_
  refine GL.pure rfl (p_move rfl) ?_
  refine GL.pure rfl (p_move rfl) ?_
  refine GL.pure rfl (p_move rfl) ?_
  refine GL.pure rfl (p_eql rfl rfl) ?_
  refine GL.pure rfl (p_move rfl) ?_
  refine GL.pureG (s := 28) rfl rfl rfl (p_move rfl) ?_
  refine GL.pureG (s := 28) rfl rfl rfl (p_pnil_eql Try.underlying24 rfl rfl) ?_
  refine GL.pureG (s := 28) rfl rfl rfl (p_move rfl) ?_
  refine GL.pureG (s := 28) rfl rfl rfl (p_pnil_eql Try.underlying36 rfl rfl) ?_
  refine GL.pureG (s := 28) rfl rfl rfl (p_beql Try.underlying4 rfl rfl) ?_
  refine GL.pure rfl (p_pick_true rfl rfl) ?_
  refine GL.pure rfl (p_assign rfl) ?_
  refine GL.pure rfl (p_assign rfl) ?_
  refine GL.pure rfl (p_assign rfl) ?_
  refine GL.nil (?_ : GC _ _ _ _)
  refine GC.ret ?_
  refine fun a w h => Fin.back (rs := [.tmp 4, .tmp 5, .tmp 6]) (vs := [_, _, _]) (is := []) (js := []) rfl ⟨rfl, rfl, rfl, trivial⟩ rfl rfl ?_ h
  clear h
  exact ⟨rfl, rfl, rfl⟩
theorem begin_ok (bl sz : Int) (A : Option Addr) (l : List Page) (cp : Nat) (h : shapeOk bl sz) (hl : l.length ≤ 140737488355328) (hd : ∀ x ∈ l, x.data.length ≤ 140737488355328) (hn : laidF bl sz (-1) l = true) : Ct Try.prog 15 [shpV bl sz, .slice A l.length cp] [] [Pers.row kPage A l]
    (fun v G Q => ∃ vp vb vv p pB pV c1 c2 sp spv cs, v = .tuple #[.pointer (some ⟨vp, 0, none⟩), .pointer (some ⟨p, 0, none⟩), .bool true] ∧ G = volG vp vb vv (loadV bl sz l) ++ rvG p pB pV c1 c2 sp spv cs (loadV bl sz l) ∧ Q = [Pers.reps kBytes (chV (loadV bl sz l)) cs]) := by
  refine Ct.intro Try.func15 rfl rfl rfl (fun c hc => ?_)
  refine GC.seq' ?_
  refine GC.region ?_
  refine GL.step rfl (t_box rfl rfl rfl) (GL.ex fun b_t2 => ?_)
  refine GL.pure rfl (p_assign rfl) ?_
  refine GL.pure rfl (p_assign rfl) ?_
  refine GL.pure rfl (p_assign rfl) ?_
  refine GL.nil (?_ : GC _ _ _ _)
  refine GC.seq' ?_
  refine GC.region ?_
  refine GL.step rfl (t_mem rfl (m_loadN (i := 0) rfl rfl ag_23 (vs := [_, _]) sz_23 ⟨rfl, rfl, trivial⟩)) ?_
  refine GL.pure rfl (p_move rfl) ?_
  refine GL.step rfl (t_call rfl fn_30 rfl (is := []) (js := [0]) rfl rfl (by exact load_ok _ _ _ _ _ h hl hn)) (GL.ret ?_)
  rintro _ _ _ ⟨p14, pb14, pv14, rfl, rfl, rfl⟩
  refine GL.pure rfl (p_move rfl) ?_
  refine GL.pure rfl (p_extract rfl rfl) ?_
  refine GL.pure rfl (p_extract rfl rfl) ?_
  refine GL.pure rfl (p_assign rfl) ?_
  refine GL.pure rfl (p_assign rfl) ?_
  refine GL.nil (?_ : GC _ _ _ _)
  refine GC.seq' ?_
  refine GC.region ?_
  refine GL.step rfl (t_mem rfl (m_loadN (i := 3) rfl rfl ag_23 (vs := [_, _]) sz_23 ⟨rfl, rfl, trivial⟩)) ?_
  refine GL.pure rfl (p_move rfl) ?_
  refine GL.step rfl (t_call rfl fn_31 rfl (is := []) (js := [0]) rfl rfl (by exact rload_ok _ _ _ _ _ h hl hd hn)) (GL.ret ?_)
  rintro _ _ _ ⟨rp20, rB20, rV20, rc120, rc220, sp20, spv20, cs20, rfl, rfl, rfl⟩
  refine GL.pure rfl (p_move rfl) ?_
  refine GL.pure rfl (p_extract rfl rfl) ?_
  refine GL.pure rfl (p_extract rfl rfl) ?_
  refine GL.pure rfl (p_assign rfl) ?_
  refine GL.pure rfl (p_assign rfl) ?_
  refine GL.nil (?_ : GC _ _ _ _)
  refine GC.seq' ?_
  refine GC.region ?_
  refine GL.pure rfl (p_move rfl) ?_
  refine GL.pure rfl (p_move rfl) ?_
  refine GL.pure rfl (p_move rfl) ?_
  refine GL.pure rfl (p_move rfl) ?_
  refine GL.pure rfl (p_eql rfl rfl) ?_
  refine GL.pure rfl (p_move rfl) ?_
  refine GL.pureG (s := 28) rfl rfl rfl (p_move rfl) ?_
  refine GL.pureG (s := 28) rfl rfl rfl (p_pnil_eql Try.underlying24 rfl rfl) ?_
  refine GL.pureG (s := 28) rfl rfl rfl (p_move rfl) ?_
  refine GL.pureG (s := 28) rfl rfl rfl (p_pnil_eql Try.underlying36 rfl rfl) ?_
  refine GL.pureG (s := 28) rfl rfl rfl (p_beql Try.underlying4 rfl rfl) ?_
  refine GL.pure rfl (p_pick_true rfl rfl) ?_
  refine GL.pure rfl (p_assign rfl) ?_
  refine GL.pure rfl (p_assign rfl) ?_
  refine GL.pure rfl (p_assign rfl) ?_
  refine GL.nil (?_ : GC _ _ _ _)
  refine GC.ret ?_
  refine fun a w h => Fin.back (rs := [.tmp 4, .tmp 5, .tmp 6]) (vs := [_, _, _]) (is := [3, 3, 3, 0, 0, 0]) (js := [0]) rfl ⟨rfl, rfl, rfl, trivial⟩ rfl rfl ?_ h
  clear h
  exact ⟨_, _, _, _, _, _, _, _, _, _, _, rfl, rfl, rfl⟩
end Go.Proofs.Ytihhpkbbhfcdcaa
