/- THE VOLUME: pages laid: the contracts. -/
import Derived.Test.YtihhpkbbhfcdcaaVp2
set_option linter.unusedVariables false
set_option linter.unusedSimpArgs false
set_option maxRecDepth 100000
namespace Go.Proofs.Ytihhpkbbhfcdcaa
open Go Go.Sx Go.Proofs

def put1 (v : Vol) (p : Page) : Vol := { v with b := laid v.b (p.at_ * v.sz).toNat p.data, vs := laid v.vs p.at_.toNat [p.ver], last := max v.last p.ver }
def putF (v : Vol) : List Page → Vol
  | [] => v
  | p :: r => putF (put1 v p) r
def patchF (v : Vol) (l : List Page) : Int × Vol := if laidF v.bl v.sz (-1) l = true then (0, putF v l) else (50, v)
def pageOk (bl sz : Int) (p : Page) : Prop := 0 ≤ p.at_ ∧ p.at_ < bl ∧ 1 ≤ p.ver ∧ p.ver ≤ 4611686018427387904 ∧ (p.data.length : Int) = sz
theorem laidF_all {bl sz : Int} : ∀ {l : List Page} {last : Int}, laidF bl sz last l = true → -1 ≤ last → ∀ p ∈ l, pageOk bl sz p
  | [], _, _, _, p, hp => by cases hp
  | q :: r, last, h, hl, p, hp => by
    rw [laidF] at h
    split at h
    · cases h
    · rename_i hb
      simp only [badP] at hb
      rcases List.mem_cons.1 hp with rfl | hp
      · simp only [pageOk]; omega
      · exact laidF_all h (by omega) p hp
theorem put1_ok {v : Vol} (h : VolOk v) {p : Page} (hp : pageOk v.bl v.sz p) : VolOk (put1 v p) := by
  obtain ⟨h0, h1, h2, h3, h4⟩ := hp
  have hB := atB h.shp h0 (n := 1) (by omega) (by omega)
  have e1 : (p.at_ + 1) * v.sz = p.at_ * v.sz + v.sz := by rw [Int.add_mul, Int.one_mul]
  have hl := h.lb
  have hv := h.lv
  have hla := h.last
  exact (((h.last' (num := max v.last p.ver) (by omega) (by omega)).setb (o := (p.at_ * v.sz).toNat) (ys := p.data) (by show _ ≤ v.b.length; omega)).setv (o := p.at_.toNat) (k := 1) (num := p.ver) (by show _ ≤ v.vs.length; omega) (by omega) h3)
theorem putF_ok {l : List Page} : ∀ {v : Vol}, VolOk v → (∀ p ∈ l, pageOk v.bl v.sz p) → VolOk (putF v l) := by
  induction l with
  | nil => exact fun h _ => h
  | cons p r ih => exact fun h hp => ih (put1_ok h (hp p (.head _))) (fun q hq => hp q (.tail _ hq))
theorem patchF_ok {v : Vol} (h : VolOk v) (l : List Page) : VolOk (patchF v l).2 := by
  unfold patchF
  split
  · rename_i hl; exact putF_ok h (laidF_all hl (by omega))
  · exact h
theorem gt_mem {α : Type} [Inhabited α] {l : List α} {k : Nat} (h : k < l.length) : gt l (k : Int) ∈ l := by
  have := gt_ok (xs := l) (i := (k : Int)) (by omega) (by omega)
  exact List.mem_of_getElem? this
theorem putF_step {v u : Vol} {l : List Page} {k : Nat} (hk : k < l.length) (h : putF v l = putF u (l.drop k)) : putF v l = putF (put1 u (gt l (k : Int))) (l.drop (k + 1)) := by
  rw [h, drop_gt hk]; rfl

theorem patch_ct (p pb pv : Nat) (v : Vol) (A : Option Addr) (l : List Page) (cp : Nat) (hv : VolOk v) (hl : l.length ≤ 140737488355328) : Ct Try.prog 21 [.pointer (some ⟨p, 0, none⟩), .slice A l.length cp] (volG p pb pv v) [Pers.row kPage A l]
    (fun u G Q => u = .int .i64 (patchF v l).1 ∧ G = volG p pb pv (patchF v l).2 ∧ Q = []) := by
  refine Ct.intro Try.func21 rfl rfl rfl (fun c hc => ?_)
  refine GC.seq' ?_
  refine GC.region ?_
  refine GL.pure rfl (p_assign rfl) ?_
  refine GL.nil (?_ : GC _ _ _ _)
  refine GC.seq' ?_
  refine GC.seq' ?_
  refine GC.region ?_
  refine GL.pure rfl (p_move rfl) ?_
  refine GL.step rfl (t_call rfl fn_27 rfl (is := [0, 0, 0]) (js := []) rfl rfl (by exact made_ct _ _ _ v)) (GL.ret ?_)
  rintro _ _ _ ⟨rfl, rfl, rfl⟩
  refine GL.pure rfl (p_not rfl) ?_
  refine GL.nil (?_ : GC _ _ _ _)
  refine GC.cond_false rfl ?_
  refine GC.skip (?_ : GC _ _ _ _)
  refine GC.seq' ?_
  refine GC.seq' ?_
  refine GC.region ?_
  refine GL.pure rfl (p_move rfl) ?_
  refine GL.pure rfl (p_move rfl) ?_
  refine GL.step rfl (t_call rfl fn_38 rfl (is := [0, 0, 0]) (js := [0]) rfl rfl (by exact laid_ct _ _ _ v _ _ _ hl)) (GL.ret ?_)
  rintro _ _ _ ⟨rfl, rfl, rfl⟩
  refine GL.pure rfl (p_not rfl) ?_
  refine GL.nil (?_ : GC _ _ _ _)
  refine GC.cond rfl (fun h1 => ?_) (fun h1 => ?_)
  · try simp only [decide_eq_true_eq, decide_eq_false_iff_not, Bool.not_eq_true', Bool.not_eq_false', Bool.not_true, Bool.not_false, Bool.not_not, ne_eq, Decidable.not_not, Int.not_lt, Int.not_le, gt_iff_lt, ge_iff_le, bool_true_eq_, bool_false_eq_] at h1
    refine GC.seq' ?_
    refine GC.region ?_
    refine GL.pure rfl (p_assign rfl) ?_
    refine GL.nil (?_ : GC _ _ _ _)
    refine GC.ret ?_
    refine fun a w h => Fin.back (rs := [.tmp 4]) (vs := [_]) (is := [0, 0, 0]) (js := []) rfl ⟨rfl, trivial⟩ rfl rfl ?_ h
    clear h
    have e : patchF v l = (50, v) := by simp [patchF, h1]
    rw [e]; exact ⟨rfl, rfl, rfl⟩
  · try simp only [decide_eq_true_eq, decide_eq_false_iff_not, Bool.not_eq_true', Bool.not_eq_false', Bool.not_true, Bool.not_false, Bool.not_not, ne_eq, Decidable.not_not, Int.not_lt, Int.not_le, gt_iff_lt, ge_iff_le, bool_true_eq_, bool_false_eq_] at h1
    refine GC.skip (?_ : GC _ _ _ _)
    refine GC.seq' ?_
    refine GC.seq' ?_
    refine GC.region ?_
    have hall := laidF_all h1 (by omega)
    refine GL.pure rfl (p_move rfl) ?_
    refine GL.pure rfl (p_len Try.underlying33 rfl) ?_
    refine GL.pure rfl (p_move rfl) ?_
    refine GL.nil (?_ : GC _ _ _ _)
    refine GC.block ?_
    refine GC.imp (fun a w h => (⟨⟨by simp, rfl, hv, rfl, rfl⟩, h.cut (is := [0, 0, 0]) (js := [0]) ⟨rfl, rfl, rfl, rfl, trivial⟩ rfl rfl⟩ : (fun (y : Nat × Vol) (a : Act) (w : World) => (y.1 ≤ l.length ∧ putF v l = putF y.2 (l.drop y.1) ∧ VolOk y.2 ∧ y.2.bl = v.bl ∧ y.2.sz = v.sz) ∧ St c 44 [(0, .pointer (some ⟨p, 0, none⟩)), (14, .slice A l.length cp), (15, .int .i64 (l.length : Int)), (16, .int .i64 (y.1 : Int))] [.cells p [.int .i64 y.2.bl, .int .i64 y.2.sz, .slice (some ⟨pb, 0, none⟩) (y.2.bl * y.2.sz).toNat (y.2.bl * y.2.sz).toNat, .slice (some ⟨pv, 0, none⟩) y.2.bl.toNat y.2.bl.toNat, .int .i64 y.2.last] 58, .cells pb (y.2.b.map u8v) 5, .cells pv (y.2.vs.map (Value.int .i64)) 3] [Pers.row kPage A l] a w) (0, v) a w)) (GC.loop (fun (y : Nat × Vol) (a : Act) (w : World) => (y.1 ≤ l.length ∧ putF v l = putF y.2 (l.drop y.1) ∧ VolOk y.2 ∧ y.2.bl = v.bl ∧ y.2.sz = v.sz) ∧ St c 44 [(0, .pointer (some ⟨p, 0, none⟩)), (14, .slice A l.length cp), (15, .int .i64 (l.length : Int)), (16, .int .i64 (y.1 : Int))] [.cells p [.int .i64 y.2.bl, .int .i64 y.2.sz, .slice (some ⟨pb, 0, none⟩) (y.2.bl * y.2.sz).toNat (y.2.bl * y.2.sz).toNat, .slice (some ⟨pv, 0, none⟩) y.2.bl.toNat y.2.bl.toNat, .int .i64 y.2.last] 58, .cells pb (y.2.b.map u8v) 5, .cells pv (y.2.vs.map (Value.int .i64)) 3] [Pers.row kPage A l] a w) (fun y => l.length - y.1) (0, v) ?_)
    intro y
    refine GC.and fun hk => ?_
    obtain ⟨k, u⟩ := y
    dsimp only at hk ⊢
    obtain ⟨hk, hput, hu, hbl, hsz⟩ := hk
    refine GC.seq' ?_
    refine GC.region ?_
    refine GL.pure rfl (p_lss rfl rfl) ?_
    refine GL.nil (?_ : GC _ _ _ _)
    refine GC.seq' ?_
    refine GC.cond rfl (fun h2 => ?_) (fun h2 => ?_)
    · try simp only [decide_eq_true_eq, decide_eq_false_iff_not, Bool.not_eq_true', Bool.not_eq_false', Bool.not_true, Bool.not_false, Bool.not_not, ne_eq, Decidable.not_not, Int.not_lt, Int.not_le, gt_iff_lt, ge_iff_le, bool_true_eq_, bool_false_eq_] at h2
      refine GC.skip (?_ : GC _ _ _ _)
      refine GC.seq' ?_
      refine GC.block ?_
      refine GC.seq' ?_
      refine GC.region ?_
      have hp := hall _ (gt_mem (l := l) (k := k) (by omega))
      rw [← hbl, ← hsz] at hp
      have hp2 := hp
      obtain ⟨q0, q1, q2, q3, q4⟩ := hp
      have hB := atB hu.shp q0 (n := 1) (by omega) (by omega)
      have e1 : ((gt l (k : Int)).at_ + 1) * u.sz = (gt l (k : Int)).at_ * u.sz + u.sz := by rw [Int.add_mul, Int.one_mul]
      have hlb := hu.lb
      have hsh := hu.shp
      simp only [shapeOk] at hsh
      have hv2 := hu.setb (o := ((gt l (k : Int)).at_ * u.sz).toNat) (ys := (gt l (k : Int)).data) (by omega)
      refine GL.step rfl (t_index (i := 0) rfl rfl rfl rfl Try.underlying33 sz_71 (by (first | omega | (rw [seg_length (by omega)]; omega) | (dsimp only; rw [seg_length (by omega)]; omega) | (dsimp only; omega))) (gt_ok (by (first | omega | (rw [seg_length (by omega)]; omega) | (dsimp only; rw [seg_length (by omega)]; omega) | (dsimp only; omega))) (by (first | omega | (rw [seg_length (by omega)]; omega) | (dsimp only; rw [seg_length (by omega)]; omega) | (dsimp only; omega))))) (GL.ex fun p_x18 => GL.ex fun r_x18 => GL.and fun ok_x18 => ?_)
      rcases r_x18 with ⟨_, ⟨_, ⟨Ax18_0, cpx18_0⟩⟩⟩
      refine GL.step rfl (t_mem rfl (m_loadPN (i := 0) rfl rfl ag_71 (vs := [_, _, _]) sz_71 ⟨rfl, rfl, rfl, trivial⟩)) ?_
      refine GL.step rfl (t_alloc rfl ze_71) (GL.ex fun b_t6 => ?_)
      refine GL.step rfl (t_storeN (i := 0) rfl rfl rfl sz_71 rfl rfl rfl) ?_
      refine GL.nil (?_ : GC _ _ _ _)
      refine GC.seq' ?_
      refine GC.regionM (m := 7) (M := fun a w => St c 44 [(0, .pointer (some ⟨p, 0, none⟩)), (6, .pointer (some ⟨b_t6, 0, none⟩)), (14, .slice A l.length cp), (15, .int .i64 (l.length : Int)), (16, .int .i64 (k : Int))] [.cells p [.int .i64 u.bl, .int .i64 u.sz, .slice (some ⟨pb, 0, none⟩) (u.bl * u.sz).toNat (u.bl * u.sz).toNat, .slice (some ⟨pv, 0, none⟩) u.bl.toNat u.bl.toNat, .int .i64 u.last] 58, .cells pb ((laid u.b ((gt l (k : Int)).at_ * u.sz).toNat (gt l (k : Int)).data).map u8v) 5, .cells pv (u.vs.map (Value.int .i64)) 3, .cells b_t6 [.int .i64 (gt l (k : Int)).at_, .int .i64 (gt l (k : Int)).ver, .slice Ax18_0 (gt l (k : Int)).data.length cpx18_0] 71] [Pers.row kPage A l] a w) (is := [0, 0, 1]) (js := [0, 1, 2]) wide_ rfl rfl rfl ?_ ?_
      · refine GA.take 0 rfl (by kernel_rfl) (by kernel_rfl) (by kernel_rfl) rfl (fun a w h => h.mem (is := [0, 0, 1]) (js := [0, 1, 2]) rfl rfl) (i_pure (p_move rfl)) ?_
        refine GA.take 1 rfl (by kernel_rfl) (by kernel_rfl) (by kernel_rfl) rfl (fun a w h => h.mem (is := [0, 0, 1]) (js := [0, 1, 2]) rfl rfl) (i_pure (p_fieldAddr fo_71_0 rfl)) ?_
        refine GA.take 2 rfl (by kernel_rfl) (by kernel_rfl) (by kernel_rfl) rfl (fun a w h => h.mem (is := [0, 0, 1]) (js := [0, 1, 2]) rfl rfl) (i_mem (m_load (i := 0) rfl rfl ag_3 rfl)) ?_
        refine GA.take 4 rfl (by kernel_rfl) (by kernel_rfl) (by kernel_rfl) rfl (fun a w h => h.mem (is := [0, 0, 1]) (js := [0, 1, 2]) rfl rfl) (i_pure (p_fieldAddr fo_71_2 rfl)) ?_
        refine GA.take 5 rfl (by kernel_rfl) (by kernel_rfl) (by kernel_rfl) rfl (fun a w h => h.mem (is := [0, 0, 1]) (js := [0, 1, 2]) rfl rfl) (i_mem (m_load (i := 0) rfl rfl ag_31 rfl)) ?_
        refine GA.all (rs := [3]) (by kernel_rfl) (by simp) ?_
        refine GAs.cons (i := 3) rfl rfl (t_call rfl fn_29 rfl (is := [1, 1, 1]) (js := []) rfl rfl (by exact at_ct _ _ _ u (gt l (k : Int)).at_ 1 hu (by omega) (by omega) (by omega))) (by rintro a w ⟨_, _, _, ⟨rfl, rfl, rfl⟩, h⟩; exact h.mem (is := [3, 0, 1]) (js := [0, 1, 2]) rfl rfl) (GA.ret ?_) ?_
        · rintro _ _ _ ⟨rfl, rfl, rfl⟩
          refine GA.all (rs := [6]) (by kernel_rfl) (by simp) ?_
          refine GAs.cons (i := 6) rfl rfl (t_copyB (i := 1) (k := 1) rfl rfl rfl rfl rfl Try.underlying31 sz_5 (by (first | omega | (rw [seg_length (by omega)]; omega) | (dsimp only; rw [seg_length (by omega)]; omega) | (dsimp only; omega))) (by simp; (first | omega | (rw [seg_length (by omega)]; omega) | (dsimp only; rw [seg_length (by omega)]; omega) | (dsimp only; omega))) (laid_map _ _ _ _).symm rfl) (by rintro a w h; exact h.mem (is := [3, 0, 1]) (js := [0, 1, 2]) rfl rfl) ?_ ?_
          · exact GA.done (by kernel_rfl) (fun a w h => h.cut (is := [0, 0, 0, 0]) (js := [2]) ⟨rfl, rfl, rfl, rfl, rfl, trivial⟩ rfl rfl)
          exact GAs.nil
        exact GAs.nil
      · refine (?_ : GC _ _ _ _)
        refine GC.seq' ?_
        refine GC.region ?_
        refine GL.pure rfl (p_move rfl) ?_
        refine GL.pure rfl (p_fieldAddr fo_71_0 rfl) ?_
        refine GL.step rfl (t_mem rfl (m_load (i := 3) rfl rfl ag_3 rfl)) ?_
        refine GL.pure rfl (p_fieldAddr fo_71_1 rfl) ?_
        refine GL.step rfl (t_mem rfl (m_load (i := 3) rfl rfl ag_3 rfl)) ?_
        refine GL.step rfl (t_call rfl fn_37 rfl (is := [0, 0, 0]) (js := []) rfl rfl (by exact stamp_ct _ _ _ _ (gt l (k : Int)).at_ 1 (gt l (k : Int)).ver hv2 (by omega) (by omega) (by show _ ≤ u.bl; omega))) (GL.ret ?_)
        rintro _ _ _ ⟨rfl, rfl, rfl⟩
        refine GL.nil (?_ : GC _ _ _ _)
        refine GC.regionM (m := 11) (M := fun a w => St c 44 [(0, .pointer (some ⟨p, 0, none⟩)), (14, .slice A l.length cp), (15, .int .i64 (l.length : Int)), (16, .int .i64 (k : Int))] [.cells p [.int .i64 u.bl, .int .i64 u.sz, .slice (some ⟨pb, 0, none⟩) (u.bl * u.sz).toNat (u.bl * u.sz).toNat, .slice (some ⟨pv, 0, none⟩) u.bl.toNat u.bl.toNat, .int .i64 (max u.last (gt l (k : Int)).ver)] 58, .cells pb ((laid u.b ((gt l (k : Int)).at_ * u.sz).toNat (gt l (k : Int)).data).map u8v) 5, .cells pv ((laid u.vs (gt l (k : Int)).at_.toNat [(gt l (k : Int)).ver]).map (Value.int .i64)) 3] [Pers.row kPage A l] a w) (is := [1, 1, 1]) (js := [0]) wide_ rfl rfl rfl ?_ ?_
        · refine GA.take 0 rfl (by kernel_rfl) (by kernel_rfl) (by kernel_rfl) rfl (fun a w h => h.mem (is := [1, 1, 1]) (js := [0]) rfl rfl) (i_pure (p_move rfl)) ?_
          refine GA.take 1 rfl (by kernel_rfl) (by kernel_rfl) (by kernel_rfl) rfl (fun a w h => h.mem (is := [1, 1, 1]) (js := [0]) rfl rfl) (i_pure (p_move rfl)) ?_
          refine GA.take 2 rfl (by kernel_rfl) (by kernel_rfl) (by kernel_rfl) rfl (fun a w h => h.mem (is := [1, 1, 1]) (js := [0]) rfl rfl) (i_pure (p_nilCheck rfl)) ?_
          refine GA.take 3 rfl (by kernel_rfl) (by kernel_rfl) (by kernel_rfl) rfl (fun a w h => h.mem (is := [1, 1, 1]) (js := [0]) rfl rfl) (i_pure (p_fieldAddr fo_58_3 rfl)) ?_
          refine GA.take 5 rfl (by kernel_rfl) (by kernel_rfl) (by kernel_rfl) rfl (fun a w h => h.mem (is := [1, 1, 1]) (js := [0]) rfl rfl) (i_pure (p_fieldAddr fo_71_1 rfl)) ?_
          refine GA.take 6 rfl (by kernel_rfl) (by kernel_rfl) (by kernel_rfl) rfl (fun a w h => h.mem (is := [1, 1, 1]) (js := [0]) rfl rfl) (i_mem (m_load (i := 2) rfl rfl ag_3 rfl)) ?_
          refine GA.all (rs := [4]) (by kernel_rfl) (by simp) ?_
          refine GAs.cons (i := 4) rfl rfl (t_mem rfl (m_load (i := 0) rfl rfl ag_3 rfl)) (by rintro a w h; exact h.mem (is := [1, 1, 1]) (js := [0]) rfl rfl) ?_ ?_
          · refine GA.take 7 rfl (by kernel_rfl) (by kernel_rfl) (by kernel_rfl) rfl (fun a w h => h.mem (is := [1, 1, 1]) (js := [0]) rfl rfl) (i_pure (p_max2 rfl rfl)) ?_
            refine GA.take 8 rfl (by kernel_rfl) (by kernel_rfl) (by kernel_rfl) rfl (fun a w h => h.mem (is := [1, 1, 1]) (js := [0]) rfl rfl) (i_pure (p_nilCheck rfl)) ?_
            refine GA.take 9 rfl (by kernel_rfl) (by kernel_rfl) (by kernel_rfl) rfl (fun a w h => h.mem (is := [1, 1, 1]) (js := [0]) rfl rfl) (i_pure (p_fieldAddr fo_58_3 rfl)) ?_
            refine GA.all (rs := [10]) (by kernel_rfl) (by simp) ?_
            refine GAs.cons (i := 10) rfl rfl (t_store (i := 0) rfl rfl rfl rfl sz_3 rfl rfl rfl) (by rintro a w h; exact h.mem (is := [1, 1, 1]) (js := [0]) rfl rfl) ?_ ?_
            · exact GA.done (by kernel_rfl) (fun a w h => h.cut (is := [0, 0, 0]) (js := [0]) ⟨rfl, rfl, rfl, rfl, trivial⟩ rfl rfl)
            exact GAs.nil
          exact GAs.nil
        · refine (?_ : GC _ _ _ _)
          refine GC.region ?_
          refine GL.pure rfl (p_add rfl rfl (w64 (by (first | omega | (rw [seg_length (by omega)]; omega) | (dsimp only; rw [seg_length (by omega)]; omega) | (dsimp only; omega))) (by (first | omega | (rw [seg_length (by omega)]; omega) | (dsimp only; rw [seg_length (by omega)]; omega) | (dsimp only; omega))))) ?_
          refine GL.pure rfl (p_move rfl) ?_
          refine GL.nil ?_
          exact fun a w h => ⟨(k + 1, put1 u (gt l (k : Int))), (by simp only; omega), ⟨by simp only; omega, putF_step (by omega) hput, put1_ok hu hp2, hbl, hsz⟩, h.cut (is := [0, 0, 0]) (js := [0]) ⟨rfl, rfl, rfl, rfl, trivial⟩ rfl rfl⟩
    · try simp only [decide_eq_true_eq, decide_eq_false_iff_not, Bool.not_eq_true', Bool.not_eq_false', Bool.not_true, Bool.not_false, Bool.not_not, ne_eq, Decidable.not_not, Int.not_lt, Int.not_le, gt_iff_lt, ge_iff_le, bool_true_eq_, bool_false_eq_] at h2
      refine GC.exit (?_ : GC _ _ _ _)
      refine GC.seq' ?_
      refine GC.region ?_
      refine GL.pure rfl (p_assign rfl) ?_
      refine GL.nil (?_ : GC _ _ _ _)
      refine GC.ret ?_
      refine fun a w h => Fin.back (rs := [.tmp 4]) (vs := [_]) (is := [0, 0, 0]) (js := []) rfl ⟨rfl, trivial⟩ rfl rfl ?_ h
      clear h
      have e : patchF v l = (0, u) := by rw [List.drop_of_length_le (by omega)] at hput; simp only [patchF, h1, if_true]; rw [hput]; rfl
      rw [e]; exact ⟨rfl, rfl, rfl⟩
end Go.Proofs.Ytihhpkbbhfcdcaa
