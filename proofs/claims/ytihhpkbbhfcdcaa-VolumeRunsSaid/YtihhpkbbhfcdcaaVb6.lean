/- THE VOLUME: the blocks that were changed since; a first look. -/
import Derived.Test.YtihhpkbbhfcdcaaVb5
set_option linter.unusedVariables false
set_option linter.unusedSimpArgs false
set_option maxRecDepth 100000
namespace Go.Proofs.Ytihhpkbbhfcdcaa
open Go Go.Sx Go.Proofs

def pagesA (v : Vol) (since : Int) : Nat → List Page
  | 0 => []
  | k + 1 => if gt v.vs k > max since 0 then pagesA v since k ++ [⟨k, gt v.vs k, pc v k 1⟩] else pagesA v since k
def pagesF (v : Vol) (since : Int) : List Page := pagesA v since v.bl.toNat
theorem pages_yes {v : Vol} {since : Int} {k : Nat} (h : gt v.vs k > max since 0) : pagesA v since (k + 1) = pagesA v since k ++ [⟨k, gt v.vs k, pc v k 1⟩] := by rw [pagesA, if_pos h]
theorem pages_no {v : Vol} {since : Int} {k : Nat} (h : ¬ gt v.vs k > max since 0) : pagesA v since (k + 1) = pagesA v since k := by rw [pagesA, if_neg h]
theorem pagesA_le (v : Vol) (since : Int) : ∀ k, (pagesA v since k).length ≤ k
  | 0 => by simp [pagesA]
  | k + 1 => by
    have := pagesA_le v since k
    rw [pagesA]; split
    · simp; omega
    · omega

theorem pages_ct (p pb pv : Nat) (v : Vol) (since : Int) (hv : VolOk v) : Ct Try.prog 14 [.pointer (some ⟨p, 0, none⟩), .int .i64 since] (volG p pb pv v) []
    (fun u G Q => ∃ A cp cs, (pagesF v since).length ≤ cp ∧ cp ≤ 9223372036854775807 ∧ u = .slice A (pagesF v since).length cp ∧ G = .row (.slice A (pagesF v since).length cp) 71 3 (pagesF v since).length cs :: volG p pb pv v ∧ Q = [Pers.reps kPage (pagesF v since) cs]) := by
  have hl := hv.lv
  have hs := hv.shp
  simp only [shapeOk] at hs
  refine Ct.intro Try.func14 rfl rfl rfl (fun c hc => ?_)
  refine GC.seq' ?_
  refine GC.region ?_
  refine GL.pure rfl (p_assign rfl) ?_
  refine GL.nil (?_ : GC _ _ _ _)
  refine GC.seq' ?_
  refine GC.seq' ?_
  refine GC.region ?_
  refine GL.pure rfl (p_move rfl) ?_
  refine GL.step rfl (t_call rfl fn_27 rfl (is := [0, 0, 0]) (js := []) rfl rfl (by exact made_ct _ _ _ v)) (GL.ret ?_)
  rintro _ _ _ ⟨rfl, rfl, rfl⟩
  refine GL.pure rfl (p_not rfl) ?_
  refine GL.nil (?_ : GC _ _ _ _)
  refine GC.cond_false rfl ?_
  refine GC.skip (?_ : GC _ _ _ _)
  refine GC.seq' ?_
  refine GC.region ?_
  refine GL.pure rfl (p_assign rfl) ?_
  refine GL.nil (?_ : GC _ _ _ _)
  refine GC.seq' ?_
  refine GC.seq' ?_
  refine GC.region ?_
  refine GL.nilrow 71 3 ?_
  refine GL.know (q := Pers.reps kPage [] []) (fun _ _ _ => rfl) ?_
  refine GL.pure rfl (p_move rfl) ?_
  refine GL.pure rfl (p_nilCheck rfl) ?_
  refine GL.pure rfl (p_fieldAddr fo_58_2 rfl) ?_
  refine GL.step rfl (t_mem rfl (m_load (i := 1) rfl rfl ag_56 rfl)) ?_
  refine GL.pure rfl (p_len Try.underlying56 rfl) ?_
  refine GL.pure rfl (p_move rfl) ?_
  refine GL.nil (?_ : GC _ _ _ _)
  refine GC.block ?_
  refine GC.imp (fun a w h => (⟨⟨by simp, rfl⟩, h.cut (is := [1, 1, 1, 0]) (js := [0]) ⟨rfl, rfl, rfl, rfl, rfl, rfl, trivial⟩ rfl rfl⟩ : (fun (y : Nat × Nat × Value × List Value) (a : Act) (w : World) => (y.1 ≤ v.bl.toNat ∧ y.2.1 = (pagesA v since y.1).length) ∧ St c 37 [(0, .pointer (some ⟨p, 0, none⟩)), (1, .int .i64 since), (5, y.2.2.1), (14, .slice (some ⟨pv, 0, none⟩) v.bl.toNat v.bl.toNat), (15, .int .i64 ((v.bl.toNat : Nat) : Int)), (16, .int .i64 (y.1 : Int))] [.cells p [.int .i64 v.bl, .int .i64 v.sz, .slice (some ⟨pb, 0, none⟩) (v.bl * v.sz).toNat (v.bl * v.sz).toNat, .slice (some ⟨pv, 0, none⟩) v.bl.toNat v.bl.toNat, .int .i64 v.last] 58, .cells pb (v.b.map u8v) 5, .cells pv (v.vs.map (Value.int .i64)) 3, .row y.2.2.1 71 3 y.2.1 y.2.2.2] [Pers.reps kPage (pagesA v since y.1) y.2.2.2] a w) (0, 0, _, []) a w)) (GC.loop (fun (y : Nat × Nat × Value × List Value) (a : Act) (w : World) => (y.1 ≤ v.bl.toNat ∧ y.2.1 = (pagesA v since y.1).length) ∧ St c 37 [(0, .pointer (some ⟨p, 0, none⟩)), (1, .int .i64 since), (5, y.2.2.1), (14, .slice (some ⟨pv, 0, none⟩) v.bl.toNat v.bl.toNat), (15, .int .i64 ((v.bl.toNat : Nat) : Int)), (16, .int .i64 (y.1 : Int))] [.cells p [.int .i64 v.bl, .int .i64 v.sz, .slice (some ⟨pb, 0, none⟩) (v.bl * v.sz).toNat (v.bl * v.sz).toNat, .slice (some ⟨pv, 0, none⟩) v.bl.toNat v.bl.toNat, .int .i64 v.last] 58, .cells pb (v.b.map u8v) 5, .cells pv (v.vs.map (Value.int .i64)) 3, .row y.2.2.1 71 3 y.2.1 y.2.2.2] [Pers.reps kPage (pagesA v since y.1) y.2.2.2] a w) (fun y => v.bl.toNat - y.1) (0, 0, _, []) ?_)
  intro y
  refine GC.and fun hk => ?_
  obtain ⟨k, n, V, cs⟩ := y
  dsimp only at hk ⊢
  obtain ⟨hk, hn⟩ := hk
  have hle := pagesA_le v since k
  refine GC.seq' ?_
  refine GC.region ?_
  refine GL.pure rfl (p_lss rfl rfl) ?_
  refine GL.nil (?_ : GC _ _ _ _)
  refine GC.seq' ?_
  refine GC.cond rfl (fun h1 => ?_) (fun h1 => ?_)
  · try simp only [decide_eq_true_eq, decide_eq_false_iff_not, Bool.not_eq_true', Bool.not_eq_false', Bool.not_true, Bool.not_false, Bool.not_not, ne_eq, Decidable.not_not, Int.not_lt, Int.not_le, gt_iff_lt, ge_iff_le, bool_true_eq_, bool_false_eq_] at h1
    refine GC.skip (?_ : GC _ _ _ _)
    refine GC.seq' ?_
    refine GC.block ?_
    refine GC.seq' ?_
    refine GC.region ?_
    refine GL.pure rfl (p_move rfl) ?_
    refine GL.pure rfl (p_indexB rfl rfl Try.underlying56 sz_3 (by omega) (by omega)) ?_
    refine GL.step rfl (t_mem rfl (m_load (i := 2) rfl rfl ag_3 (nth_map _ (by omega) (by omega)))) ?_
    refine GL.pure rfl (p_assign rfl) ?_
    refine GL.pure rfl (p_assign rfl) ?_
    refine GL.nil (?_ : GC _ _ _ _)
    refine GC.seq' ?_
    refine GC.region ?_
    refine GL.pure rfl (p_move rfl) ?_
    refine GL.pure rfl (p_move rfl) ?_
    refine GL.pure rfl (p_max2 rfl rfl) ?_
    refine GL.pure rfl (p_gtr rfl rfl) ?_
    refine GL.nil (?_ : GC _ _ _ _)
    refine GC.cond rfl (fun h2 => ?_) (fun h2 => ?_)
    · try simp only [decide_eq_true_eq, decide_eq_false_iff_not, Bool.not_eq_true', Bool.not_eq_false', Bool.not_true, Bool.not_false, Bool.not_not, ne_eq, Decidable.not_not, Int.not_lt, Int.not_le, gt_iff_lt, ge_iff_le, bool_true_eq_, bool_false_eq_] at h2
      refine GC.region ?_
      refine GL.pure rfl (p_move rfl) ?_
      refine GL.pure rfl (p_move rfl) ?_
      refine GL.pure rfl (p_move rfl) ?_
      refine GL.pure rfl (p_move rfl) ?_
      refine GL.pure rfl (p_move rfl) ?_
      refine GL.step rfl (t_call rfl fn_29 rfl (is := [0, 0, 0]) (js := []) rfl rfl (by exact at_ct _ _ _ v _ _ hv (by omega) (by omega) (by omega))) (GL.ret ?_)
      rintro _ _ _ ⟨rfl, rfl, rfl⟩
      refine GL.step rfl (t_lend rfl fn_28 rfl (is := []) (ls := [1]) (js := []) rfl rfl rfl (lendB) (by exact clone_ct _ (pc v k 1) _ (by have := pc_length hv (a := k) (n := 1) (by omega) (by omega) (by omega); omega)) (by rintro _ _ _ ⟨A31, cp31, l31, k31, rfl, rfl, rfl⟩; rfl)) (GL.retL ?_)
      rintro _ _ ⟨A31, cp31, l31, k31, rfl, rfl, _⟩
      refine GL.pure rfl (p_build ze_71 of_71 rfl rfl) ?_
      refine GL.step rfl (t_buildSlice rfl Try.underlying33 sz_71 ze_71 rfl rfl rfl rfl rfl rfl) (GL.ex fun b_t33 => ?_)
      refine GL.freezeB (i := 1) rfl ?_
      refine GL.step rfl (t_append (i := 4) (k := 0) rfl el_33 rfl rfl rfl rfl rfl (allOne_mem rfl) (by omega) (fun _ => rfl)) (GL.ex fun v34 => ?_)
      refine GL.snoc (j := 1) (js := [0]) (⟨k, gt v.vs k, pc v k 1⟩ : Page) ((), ((), (A31, cp31))) rfl rfl ⟨trivial, trivial, l31, k31⟩ ?_
      refine GL.pure rfl (p_assign rfl) ?_
      refine GL.nil (?_ : GC _ _ _ _)
      refine GC.region ?_
      refine GL.pure rfl (p_add rfl rfl (w64 (by omega) (by omega))) ?_
      refine GL.pure rfl (p_move rfl) ?_
      refine GL.nil ?_
      exact fun a w h => ⟨(k + 1, n + 1, v34, cs ++ kPage.cells (⟨k, gt v.vs k, pc v k 1⟩ : Page) ((), ((), (A31, cp31)))), (by simp only; omega), ⟨by simp only; omega, by simp only; rw [pages_yes (by simpa using h2)]; simp [hn]⟩, by rw [pages_yes (by simpa using h2)]; exact h.cut (is := [2, 1, 1, 1]) (js := [0]) ⟨rfl, rfl, rfl, rfl, rfl, rfl, trivial⟩ rfl rfl⟩
    · try simp only [decide_eq_true_eq, decide_eq_false_iff_not, Bool.not_eq_true', Bool.not_eq_false', Bool.not_true, Bool.not_false, Bool.not_not, ne_eq, Decidable.not_not, Int.not_lt, Int.not_le, gt_iff_lt, ge_iff_le, bool_true_eq_, bool_false_eq_] at h2
      refine GC.skip (?_ : GC _ _ _ _)
      refine GC.region ?_
      refine GL.pure rfl (p_add rfl rfl (w64 (by omega) (by omega))) ?_
      refine GL.pure rfl (p_move rfl) ?_
      refine GL.nil ?_
      exact fun a w h => ⟨(k + 1, n, V, cs), (by simp only; omega), ⟨by simp only; omega, by simp only; rw [pages_no (by simpa using h2)]; exact hn⟩, by rw [pages_no (by simpa using h2)]; exact h.cut (is := [0, 0, 0, 0]) (js := [0]) ⟨rfl, rfl, rfl, rfl, rfl, rfl, trivial⟩ rfl rfl⟩
  · try simp only [decide_eq_true_eq, decide_eq_false_iff_not, Bool.not_eq_true', Bool.not_eq_false', Bool.not_true, Bool.not_false, Bool.not_not, ne_eq, Decidable.not_not, Int.not_lt, Int.not_le, gt_iff_lt, ge_iff_le, bool_true_eq_, bool_false_eq_] at h1
    refine GC.exit (?_ : GC _ _ _ _)
    refine GC.seq' ?_
    refine GC.region ?_
    refine GL.pure rfl (p_move rfl) ?_
    refine GL.pure rfl (p_assign rfl) ?_
    refine GL.nil (?_ : GC _ _ _ _)
    obtain rfl : k = v.bl.toNat := by omega
    subst hn
    refine GC.shape (i := 3) rfl (fun A1 c1 e1 l1 l2 => ?_)
    subst e1
    refine GC.ret ?_
    refine fun a w h => Fin.back (rs := [.tmp 4]) (vs := [_]) (is := [3, 0, 0, 0]) (js := [0]) rfl ⟨rfl, trivial⟩ rfl rfl ?_ h
    clear h
    exact ⟨_, _, _, l1, l2, rfl, rfl, rfl⟩
theorem do_eq (p pb pv : Nat) (v : Vol) (o : OpD) (A : Option Addr) (cp : Nat) (B : Option Addr) (cq : Nat) (num : Int) (hv : VolOk v) (r : Res) (e : Int) (v' : Vol) (h : doF v o num = ((r, e), v')) :
    Ct Try.prog 19 [.pointer (some ⟨p, 0, none⟩), opV o.kind o.at_ o.n A o.data.length cp B o.old.length cq, .int .i64 num] (volG p pb pv v) [Pers.row Kd.u8 A o.data, Pers.row Kd.u8 B o.old]
      (fun u G Q => ∃ A' cp', r.data.length ≤ cp' ∧ cp' ≤ 9223372036854775807 ∧ u = resV r A' cp' e ∧ G = volG p pb pv v' ∧ Q = [Pers.row Kd.u8 A' r.data]) := by
  have := do_ct p pb pv v o A cp B cq num hv
  rw [h] at this
  exact this
theorem pages_eq (p pb pv : Nat) (v : Vol) (since : Int) (hv : VolOk v) (l : List Page) (h : pagesF v since = l) : Ct Try.prog 14 [.pointer (some ⟨p, 0, none⟩), .int .i64 since] (volG p pb pv v) []
    (fun u G Q => ∃ A cp cs, l.length ≤ cp ∧ cp ≤ 9223372036854775807 ∧ u = .slice A l.length cp ∧ G = .row (.slice A l.length cp) 71 3 l.length cs :: volG p pb pv v ∧ Q = [Pers.reps kPage l cs]) := by
  subst h; exact pages_ct p pb pv v since hv

def aw0 : Vol := newV 4 2
def aw1 : Vol := ⟨4, 2, [0, 0, 97, 98, 99, 100, 0, 0], [0, 1, 1, 0], 1⟩
def aw2 : Vol := ⟨4, 2, [0, 0, 97, 98, 120, 121, 0, 0], [0, 1, 2, 0], 2⟩
def aw3 : Vol := ⟨4, 2, [0, 0, 97, 98, 120, 121, 0, 0], [0, 1, 2, 0], 3⟩
theorem aw_do1 : doF aw0 ⟨2, 1, 2, [97, 98, 99, 100], []⟩ 1 = ((⟨1, []⟩, 0), aw1) := by decide +kernel
theorem aw_do2 : doF aw1 ⟨5, 2, 0, [120, 121], [99, 100]⟩ 2 = ((⟨1, []⟩, 0), aw2) := by decide +kernel
theorem aw_do3 : doF aw2 ⟨1, 1, 3, [], []⟩ 3 = ((⟨1, [97, 98, 120, 121, 0, 0]⟩, 0), aw3) := by decide +kernel
theorem aw_pg : pagesF aw3 1 = [⟨2, 2, [120, 121]⟩] := by decide +kernel
theorem aw_ok0 : VolOk aw0 := newV_ok (by decide)
theorem aw_ok1 : VolOk aw1 := by have := doF_ok aw_ok0 ⟨2, 1, 2, [97, 98, 99, 100], []⟩ 1; rwa [aw_do1] at this
theorem aw_ok2 : VolOk aw2 := by have := doF_ok aw_ok1 ⟨5, 2, 0, [120, 121], [99, 100]⟩ 2; rwa [aw_do2] at this
theorem aw_ok3 : VolOk aw3 := by have := doF_ok aw_ok2 ⟨1, 1, 3, [], []⟩ 3; rwa [aw_do3] at this

theorem awake_ct : Ct Try.prog 12 [] [] [] (fun v G Q => v = .bool true ∧ G = [] ∧ Q = []) := by
  refine Ct.intro Try.func12 rfl rfl rfl (fun c hc => ?_)
  refine GC.know (q := Pers.row Kd.u8 none []) (fun _ _ _ => .inl rfl) ?_
  refine GC.seq' ?_
  refine GC.region ?_
  refine GL.pure rfl (p_assign rfl) ?_
  refine GL.nil (?_ : GC _ _ _ _)
  refine GC.seq' ?_
  refine GC.region ?_
  refine GL.pure rfl (p_build ze_23 of_23 rfl rfl) ?_
  refine GL.step rfl (t_call rfl fn_9 rfl (is := []) (js := []) rfl rfl (by exact new_ok 4 2 (by decide))) (GL.ret ?_)
  rintro _ _ _ ⟨p11, pb11, pv11, rfl, rfl, rfl⟩
  refine GL.pure rfl (p_move rfl) ?_
  refine GL.pure rfl (p_extract rfl rfl) ?_
  refine GL.pure rfl (p_extract rfl rfl) ?_
  refine GL.pure rfl (p_assign rfl) ?_
  refine GL.pure rfl (p_assign rfl) ?_
  refine GL.nil (?_ : GC _ _ _ _)
  refine GC.seq' ?_
  refine GC.seq' ?_
  refine GC.region ?_
  refine GL.pure rfl (p_move rfl) ?_
  refine GL.pure rfl (p_neq rfl rfl) ?_
  refine GL.pure rfl (p_move rfl) ?_
  refine GL.pureG (s := 16) rfl rfl rfl (p_move rfl) ?_
  refine GL.pureG (s := 16) rfl rfl rfl (p_pnil_eql Try.underlying24 rfl rfl) ?_
  refine GL.pure rfl (p_pick_false rfl rfl) ?_
  refine GL.nil (?_ : GC _ _ _ _)
  refine GC.cond_false rfl ?_
  refine GC.skip (?_ : GC _ _ _ _)
  refine GC.seq' ?_
  refine GC.region ?_
  refine GL.pure rfl (p_move rfl) ?_
  refine GL.step rfl (t_buildSlice rfl Try.underlying31 sz_5 ze_5 rfl rfl rfl rfl rfl rfl) (GL.ex fun b_t22 => ?_)
  refine GL.step rfl (t_bytesLit (i := 0) (xs := [97, 98, 99, 100]) rfl rfl rfl rfl Try.underlying31 Try.underlying5) ?_
  refine GL.pure rfl (p_build ze_42 of_42 rfl rfl) ?_
  refine GL.step rfl (t_call rfl fn_19 rfl (is := [0, 0, 0]) (js := [0, 1]) rfl rfl (by exact do_eq _ _ _ aw0 ⟨2, 1, 2, [97, 98, 99, 100], []⟩ _ _ _ _ _ aw_ok0 _ _ _ aw_do1)) (GL.ret ?_)
  rintro _ _ _ ⟨A25, cp25, l25, k25, rfl, rfl, rfl⟩
  refine GL.pure rfl (p_move rfl) ?_
  refine GL.pure rfl (p_extract rfl rfl) ?_
  refine GL.pure rfl (p_extract rfl rfl) ?_
  refine GL.step rfl (t_alloc rfl ze_49) (GL.ex fun b_t3 => ?_)
  refine GL.step rfl (t_storeN (i := 0) rfl rfl rfl sz_49 rfl rfl rfl) ?_
  refine GL.pure rfl (p_assign rfl) ?_
  refine GL.nil (?_ : GC _ _ _ _)
  refine GC.seq' ?_
  refine GC.region ?_
  refine GL.pure rfl (p_move rfl) ?_
  refine GL.step rfl (t_buildSlice rfl Try.underlying31 sz_5 ze_5 rfl rfl rfl rfl rfl rfl) (GL.ex fun b_t30 => ?_)
  refine GL.step rfl (t_bytesLit (i := 0) (xs := [99, 100]) rfl rfl rfl rfl Try.underlying31 Try.underlying5) ?_
  refine GL.step rfl (t_buildSlice rfl Try.underlying31 sz_5 ze_5 rfl rfl rfl rfl rfl rfl) (GL.ex fun b_t32 => ?_)
  refine GL.step rfl (t_bytesLit (i := 0) (xs := [120, 121]) rfl rfl rfl rfl Try.underlying31 Try.underlying5) ?_
  refine GL.pure rfl (p_build ze_42 of_42 rfl rfl) ?_
  refine GL.step rfl (t_call rfl fn_19 rfl (is := [1, 1, 1]) (js := [0, 1]) rfl rfl (by exact do_eq _ _ _ aw1 ⟨5, 2, 0, [120, 121], [99, 100]⟩ _ _ _ _ _ aw_ok1 _ _ _ aw_do2)) (GL.ret ?_)
  rintro _ _ _ ⟨A35, cp35, l35, k35, rfl, rfl, rfl⟩
  refine GL.pure rfl (p_move rfl) ?_
  refine GL.pure rfl (p_extract rfl rfl) ?_
  refine GL.pure rfl (p_extract rfl rfl) ?_
  refine GL.step rfl (t_alloc rfl ze_49) (GL.ex fun b_t5 => ?_)
  refine GL.step rfl (t_storeN (i := 0) rfl rfl rfl sz_49 rfl rfl rfl) ?_
  refine GL.pure rfl (p_assign rfl) ?_
  refine GL.nil (?_ : GC _ _ _ _)
  refine GC.seq' ?_
  refine GC.region ?_
  refine GL.pure rfl (p_move rfl) ?_
  refine GL.pure rfl (p_build ze_42 of_42 rfl rfl) ?_
  refine GL.step rfl (t_call rfl fn_19 rfl (is := [1, 1, 1]) (js := [5, 5]) rfl rfl (by exact do_eq _ _ _ aw2 ⟨1, 1, 3, [], []⟩ _ _ _ _ _ aw_ok2 _ _ _ aw_do3)) (GL.ret ?_)
  rintro _ _ _ ⟨A41, cp41, l41, k41, rfl, rfl, rfl⟩
  refine GL.pure rfl (p_move rfl) ?_
  refine GL.pure rfl (p_extract rfl rfl) ?_
  refine GL.pure rfl (p_extract rfl rfl) ?_
  refine GL.step rfl (t_alloc rfl ze_49) (GL.ex fun b_t7 => ?_)
  refine GL.step rfl (t_storeN (i := 0) rfl rfl rfl sz_49 rfl rfl rfl) ?_
  refine GL.pure rfl (p_assign rfl) ?_
  refine GL.nil (?_ : GC _ _ _ _)
  refine GC.seq' ?_
  refine GC.region ?_
  refine GL.pure rfl (p_fieldAddr fo_49_0 rfl) ?_
  refine GL.step rfl (t_mem rfl (m_load (i := 5) rfl rfl ag_47 rfl)) ?_
  refine GL.pure rfl (p_eql rfl rfl) ?_
  refine GL.pure rfl (p_move rfl) ?_
  refine GL.pureG (s := 47) rfl rfl rfl (p_fieldAddr fo_49_0 rfl) ?_
  refine GL.stepG rfl (s := 47) rfl rfl (t_mem rfl (m_load (i := 4) rfl rfl ag_47 rfl)) ?_
  refine GL.pureG (s := 47) rfl rfl rfl (p_eql rfl rfl) ?_
  refine GL.pure rfl (p_pick_true rfl rfl) ?_
  refine GL.pure rfl (p_move rfl) ?_
  refine GL.pureG (s := 52) rfl rfl rfl (p_fieldAddr fo_49_1 rfl) ?_
  refine GL.stepG rfl (s := 52) rfl rfl (t_mem rfl (m_load (i := 0) rfl rfl ag_31 rfl)) ?_
  refine GL.stepG rfl (s := 52) rfl rfl (t_mem rfl (m_str (i := 0) rfl rfl Try.underlying31 Try.underlying5 Try.underlying9)) ?_
  refine GL.pureG (s := 52) rfl rfl rfl (p_seql rfl rfl) ?_
  refine GL.pure rfl (p_pick_true rfl rfl) ?_
  refine GL.pure rfl (p_move rfl) ?_
  refine GL.split (i := 58) rfl (fun h1 => ?_) (fun h1 => ?_)
  · try simp only [decide_eq_true_eq, decide_eq_false_iff_not, Bool.not_eq_true', Bool.not_eq_false', Bool.not_true, Bool.not_false, Bool.not_not, ne_eq, Decidable.not_not, Int.not_lt, Int.not_le, gt_iff_lt, ge_iff_le, bool_true_eq_, bool_false_eq_] at h1
    first
    | (exfalso; exact absurd h1 (by decide))
    | (skip
       refine GL.pureG (s := 58) rfl rfl rfl (p_move rfl) ?_
       refine GL.stepG rfl (s := 58) rfl rfl (t_call rfl fn_14 rfl (is := [1, 1, 1]) (js := []) rfl rfl (by exact pages_eq _ _ _ aw3 _ aw_ok3 _ aw_pg)) (GL.ret ?_)
       rintro _ _ _ ⟨A60, cp60, cs60, l60, k60, rfl, rfl, rfl⟩
       refine GL.pureG (s := 58) rfl rfl rfl (p_len Try.underlying33 rfl) ?_
       refine GL.pureG (s := 58) rfl rfl rfl (p_eql rfl rfl) ?_
       refine GL.pure rfl (p_pick_true rfl rfl) ?_
       refine GL.pure rfl (p_assign rfl) ?_
       refine GL.nil (?_ : GC _ _ _ _)
       refine GC.ret ?_
       refine fun a w h => Fin.back (rs := [.tmp 0]) (vs := [_]) (is := []) (js := []) rfl ⟨rfl, trivial⟩ rfl rfl ?_ h
       clear h
       exact ⟨rfl, rfl, rfl⟩)
  · try simp only [decide_eq_true_eq, decide_eq_false_iff_not, Bool.not_eq_true', Bool.not_eq_false', Bool.not_true, Bool.not_false, Bool.not_not, ne_eq, Decidable.not_not, Int.not_lt, Int.not_le, gt_iff_lt, ge_iff_le, bool_true_eq_, bool_false_eq_] at h1
    first
    | (exfalso; exact absurd h1 (by decide))
    | (skip
       refine GL.pass (s := 58) rfl rfl rfl ?_
       refine GL.pass (s := 58) rfl rfl rfl ?_
       refine GL.pass (s := 58) rfl rfl rfl ?_
       refine GL.pass (s := 58) rfl rfl rfl ?_
       refine GL.pure rfl (p_pick_false rfl rfl) ?_
       refine GL.pure rfl (p_assign rfl) ?_
       refine GL.nil (?_ : GC _ _ _ _)
       refine GC.ret ?_
       refine fun a w h => Fin.back (rs := [.tmp 0]) (vs := [_]) (is := []) (js := []) rfl ⟨rfl, trivial⟩ rfl rfl ?_ h
       clear h
       exact ⟨rfl, rfl, rfl⟩)
end Go.Proofs.Ytihhpkbbhfcdcaa
