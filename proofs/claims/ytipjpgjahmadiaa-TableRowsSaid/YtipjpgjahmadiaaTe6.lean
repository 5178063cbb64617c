/- THE TABLE: both hold the same, step by step: plain words, and the walks of the law's parts. -/
import Derived.Test.YtipjpgjahmadiaaTe5
set_option linter.unusedVariables false
set_option linter.unusedSimpArgs false
set_option maxRecDepth 100000
namespace Go.Proofs.Ytipjpgjahmadiaa
open Go Go.Sx Go.Proofs
theorem inc_ext : ∀ {a b : List Row}, IncL a → IncL b → (∀ r, r ∈ a ↔ r ∈ b) → a = b
  | [], [], _, _, _ => rfl
  | [], y :: ys, _, _, h => by have := (h y).2 (List.mem_cons_self ..); cases this
  | x :: xs, [], _, _, h => by have := (h x).1 (List.mem_cons_self ..); cases this
  | x :: xs, y :: ys, h1, h2, h => by
    obtain ⟨a1, a2⟩ := List.pairwise_cons.1 h1
    obtain ⟨b1, b2⟩ := List.pairwise_cons.1 h2
    have e : x = y := by
      rcases List.mem_cons.1 ((h x).1 (List.mem_cons_self ..)) with e | hx
      · exact e
      · rcases List.mem_cons.1 ((h y).2 (List.mem_cons_self ..)) with e | hy
        · exact e.symm
        · have := a1 y hy; have := b1 x hx; omega
    subst e
    congr 1
    refine inc_ext a2 b2 fun r => ⟨fun hr => ?_, fun hr => ?_⟩
    · rcases List.mem_cons.1 ((h r).1 (List.mem_cons_of_mem _ hr)) with e | hr'
      · subst e; have := a1 r hr; omega
      · exact hr'
    · rcases List.mem_cons.1 ((h r).2 (List.mem_cons_of_mem _ hr)) with e | hr'
      · subst e; have := b1 r hr; omega
      · exact hr'
theorem mget_mem {α : Type} {c : Int} {x : α} : ∀ {T : List (Int × α)}, (T.map (·.1)).Nodup → ((c, x) ∈ T ↔ mget T c = some x)
  | [], _ => by simp [mget]
  | (j, y) :: T, h => by
    simp only [List.map_cons, List.nodup_cons] at h
    rw [mget]
    split
    · rename_i e
      subst e
      constructor
      · intro hm
        rcases List.mem_cons.1 hm with e | hm
        · cases e; rfl
        · exact absurd (List.mem_map.2 ⟨_, hm, rfl⟩) h.1
      · intro hm
        simp only [Option.some.injEq] at hm
        subst hm; exact List.mem_cons_self ..
    · rename_i e
      rw [← mget_mem h.2]
      constructor
      · intro hm
        rcases List.mem_cons.1 hm with e' | hm
        · cases e'; exact absurd rfl e
        · exact hm
      · exact List.mem_cons_of_mem _
theorem findR_mem {r : Row} : ∀ {L : List Row}, IncL L → (r ∈ L ↔ findR L r.client = some r)
  | [], _ => by simp [findR]
  | x :: xs, h => by
    obtain ⟨h1, h2⟩ := List.pairwise_cons.1 h
    rw [findR_cons]
    split
    · rename_i e
      constructor
      · intro hm
        rcases List.mem_cons.1 hm with rfl | hm
        · rfl
        · have := h1 r hm; omega
      · intro hm
        simp only [Option.some.injEq] at hm
        subst hm; exact List.mem_cons_self ..
    · rename_i e
      rw [← findR_mem h2]
      constructor
      · intro hm
        rcases List.mem_cons.1 hm with rfl | hm
        · exact absurd rfl e
        · exact hm
      · exact List.mem_cons_of_mem _
theorem findR_client {L : List Row} {c : Int} {r : Row} (h : findR L c = some r) : r.client = c := by
  have := List.find?_some h
  simpa using this
theorem Both.mem {T : List (Int × Last)} {L : List Row} (h : Both T L) (r : Row) : r ∈ rowsOf T ↔ r ∈ L := by
  rw [findR_mem (right_iff.1 h.right).2.2]
  constructor
  · intro hr
    obtain ⟨p, hp, rfl⟩ := List.mem_map.1 hr
    have := (mget_mem h.keys).1 hp
    rw [h.get] at this
    obtain ⟨s, h1, h2⟩ := Option.map_eq_some_iff.1 this
    show findR L p.1 = some (rowOf p)
    rw [h1]
    have hc := findR_client h1
    obtain ⟨c, l⟩ := p
    simp only [rowOf]
    subst h2
    simp only at hc
    subst hc
    rfl
  · intro hr
    have : mget T r.client = some (toLast r) := by rw [h.get, hr]; rfl
    exact List.mem_map.2 ⟨_, (mget_mem h.keys).2 this, rfl⟩
theorem Both.rows {T : List (Int × Last)} {L ys : List Row} (h : Both T L) (h1 : ys.Perm (rowsOf T)) (h2 : ys.Pairwise fun x y => x.client ≤ y.client) : ys = L := by
  refine inc_ext ?_ (right_iff.1 h.right).2.2 fun r => (h1.mem_iff).trans (h.mem r)
  have hn : (ys.map (·.client)).Nodup := by
    have := (h1.map (·.client)).nodup_iff.2 (by
      have e : (rowsOf T).map (·.client) = T.map (·.1) := by simp [rowsOf, rowOf]
      rw [e]; exact h.keys)
    exact this
  have hne : ys.Pairwise fun x y => x.client ≠ y.client := List.pairwise_map.1 hn
  exact (h2.and hne).imp fun ⟨a, b⟩ => by omega
theorem Both.of {l : List Row} (h : rightF l = true) : Both (tabOf l) l := by
  have hi := (right_iff.1 h).2.2
  have hk : ((tabOf l).map (·.1)).Nodup := by
    have e : (tabOf l).map (·.1) = l.map (·.client) := by simp [tabOf]
    rw [e]
    exact List.pairwise_map.2 (hi.imp fun h => by omega)
  refine ⟨h, hk, fun c => ?_, by simp [tabOf]⟩
  cases hf : findR l c with
  | none =>
    exact mget_out fun r hr he => by
      have := (findR_mem hi).1 hr
      rw [he, hf] at this; cases this
  | some r =>
    have hc := findR_client hf
    refine (mget_mem hk).1 ?_
    exact List.mem_map.2 ⟨r, (findR_mem hi).2 (by rw [hc]; exact hf), by rw [hc]⟩
theorem Both.lens {T : List (Int × Last)} {L : List Row} (h : Both T L) : ∀ q ∈ T, q.2.result.data.length ≤ 262144 := fun q hq => by
  have h1 : rowOf q ∈ L := (h.mem _).1 (List.mem_map.2 ⟨q, hq, rfl⟩)
  have := (right_iff.1 h.right).2.1 _ h1
  simp only [rowOk, Bool.and_eq_true] at this
  exact resOk_len this.2
theorem Both.tabOk {T : List (Int × Last)} {L : List Row} (h : Both T L) : TabOk T := fun k l hl => h.lens _ ((mget_mem h.keys).2 hl)
theorem Both.le {T : List (Int × Last)} {L : List Row} (h : Both T L) : L.length ≤ 64 := (right_iff.1 h.right).1
def tStep (T : List (Int × Last)) (x : TCall) : List (Int × Last) := if x.done = true then (putF T x.client x.serial x.r).2 else T
def lStep (L : List Row) (x : TCall) : List Row := if x.done = true then (rputF L x.client x.serial x.r).2 else L
theorem Both.step {T : List (Int × Last)} {L : List Row} (h : Both T L) (x : TCall) : Both (tStep T x) (lStep L x) := by
  unfold tStep lStep
  split
  · exact (h.put _ _ _).2
  · exact h
theorem step_ct (p m : Nat) (es : Array MapEntry) (ck : Nat) (rp : Nat) (A : Option Addr) (cp : Nat) (T : List (Int × Last)) (L : List Row) (x : TCall) (B : Option Addr) (cq : Nat) (hb : Both T L) (hc1 : L.length ≤ cp) (hc2 : cp ≤ 9223372036854775807) (hd1 : x.r.data.length ≤ cq) (hd2 : cq ≤ 9223372036854775807) :
    Ct Try.prog 17 [.pointer (some ⟨p, 0, none⟩), .pointer (some ⟨rp, 0, none⟩), .agg #[.bool x.done, .int .i64 x.client, .int .i64 x.serial, .int .u8 x.r.code, .slice B x.r.data.length cq]] (tabG p m es ck ++ rtG rp A L.length cp) [Pers.map kLast true T es ck, Pers.row kRow A L, Pers.row Kd.u8 B x.r.data]
      (fun u G Q => ∃ es' ck' A' cp', (lStep L x).length ≤ cp' ∧ cp' ≤ 9223372036854775807 ∧ u = .bool true ∧ G = tabG p m es' ck' ++ rtG rp A' (lStep L x).length cp' ∧ Q = [Pers.map kLast true (tStep T x) es' ck', Pers.row kRow A' (lStep L x)]) := by
  have h64 := hb.le
  have hq := hb.ask x.client x.serial
  have hp := hb.put x.client x.serial x.r
  by_cases hd : x.done = true
  · have e1 : tStep T x = (putF T x.client x.serial x.r).2 := if_pos hd
    have e2 : lStep L x = (rputF L x.client x.serial x.r).2 := if_pos hd
    rw [e1, e2]
    refine Ct.intro Try.func17 rfl rfl rfl (fun c hc => ?_)
    refine GC.seq' ?_
    refine GC.region ?_
    refine GL.step rfl (t_box rfl rfl rfl) (GL.ex fun b_t5 => ?_)
    refine GL.pure rfl (p_assign rfl) ?_
    refine GL.nil (?_ : GC _ _ _ _)
    refine GC.seq' ?_
    refine GC.seq' ?_
    refine GC.region ?_
    refine GL.pure rfl (p_fieldAddr fo_31_0 rfl) ?_
    refine GL.step rfl (t_mem rfl (m_load (i := 0) rfl rfl ag_4 rfl)) ?_
    refine GL.nil (?_ : GC _ _ _ _)
    refine GC.cond rfl (fun h1 => ?_) (fun h1 => ?_)
    · try simp only [decide_eq_true_eq, decide_eq_false_iff_not, Bool.not_eq_true', Bool.not_eq_false', Bool.not_true, Bool.not_false, Bool.not_not, ne_eq, Decidable.not_not, Int.not_lt, Int.not_le, gt_iff_lt, ge_iff_le, bool_true_eq_, bool_false_eq_] at h1
      first
      | (exfalso; rw [hd] at h1; cases h1; done)
      | (skip
         refine GC.seq' ?_
         refine GC.regionC (m := 18) (is := [0]) (js := [0, 1, 2]) wide_ rfl rfl rfl ?_
         refine GA.take 0 rfl (by kernel_rfl) (by kernel_rfl) (by kernel_rfl) rfl (fun a w h => h.mem (is := [0]) (js := [0, 1, 2]) rfl rfl) (i_pure (p_move rfl)) ?_
         refine GA.take 1 rfl (by kernel_rfl) (by kernel_rfl) (by kernel_rfl) rfl (fun a w h => h.mem (is := [0]) (js := [0, 1, 2]) rfl rfl) (i_pure (p_fieldAddr fo_31_1 rfl)) ?_
         refine GA.take 2 rfl (by kernel_rfl) (by kernel_rfl) (by kernel_rfl) rfl (fun a w h => h.mem (is := [0]) (js := [0, 1, 2]) rfl rfl) (i_mem (m_load (i := 0) rfl rfl ag_3 rfl)) ?_
         refine GA.take 3 rfl (by kernel_rfl) (by kernel_rfl) (by kernel_rfl) rfl (fun a w h => h.mem (is := [0]) (js := [0, 1, 2]) rfl rfl) (i_pure (p_fieldAddr fo_31_2 rfl)) ?_
         refine GA.take 4 rfl (by kernel_rfl) (by kernel_rfl) (by kernel_rfl) rfl (fun a w h => h.mem (is := [0]) (js := [0, 1, 2]) rfl rfl) (i_mem (m_load (i := 0) rfl rfl ag_3 rfl)) ?_
         refine GA.take 5 rfl (by kernel_rfl) (by kernel_rfl) (by kernel_rfl) rfl (fun a w h => h.mem (is := [0]) (js := [0, 1, 2]) rfl rfl) (i_pure (p_fieldAddr fo_31_3 rfl)) ?_
         refine GA.take 6 rfl (by kernel_rfl) (by kernel_rfl) (by kernel_rfl) rfl (fun a w h => h.mem (is := [0]) (js := [0, 1, 2]) rfl rfl) (i_mem (m_loadN (i := 0) rfl rfl ag_29 (vs := [_, _]) sz_29 ⟨rfl, rfl, trivial⟩)) ?_
         refine GA.take 8 rfl (by kernel_rfl) (by kernel_rfl) (by kernel_rfl) rfl (fun a w h => h.mem (is := [0]) (js := [0, 1, 2]) rfl rfl) (i_pure (p_move rfl)) ?_
         refine GA.take 9 rfl (by kernel_rfl) (by kernel_rfl) (by kernel_rfl) rfl (fun a w h => h.mem (is := [0]) (js := [0, 1, 2]) rfl rfl) (i_pure (p_fieldAddr fo_31_1 rfl)) ?_
         refine GA.take 10 rfl (by kernel_rfl) (by kernel_rfl) (by kernel_rfl) rfl (fun a w h => h.mem (is := [0]) (js := [0, 1, 2]) rfl rfl) (i_mem (m_load (i := 0) rfl rfl ag_3 rfl)) ?_
         refine GA.take 11 rfl (by kernel_rfl) (by kernel_rfl) (by kernel_rfl) rfl (fun a w h => h.mem (is := [0]) (js := [0, 1, 2]) rfl rfl) (i_pure (p_fieldAddr fo_31_2 rfl)) ?_
         refine GA.take 12 rfl (by kernel_rfl) (by kernel_rfl) (by kernel_rfl) rfl (fun a w h => h.mem (is := [0]) (js := [0, 1, 2]) rfl rfl) (i_mem (m_load (i := 0) rfl rfl ag_3 rfl)) ?_
         refine GA.take 13 rfl (by kernel_rfl) (by kernel_rfl) (by kernel_rfl) rfl (fun a w h => h.mem (is := [0]) (js := [0, 1, 2]) rfl rfl) (i_pure (p_fieldAddr fo_31_3 rfl)) ?_
         refine GA.take 14 rfl (by kernel_rfl) (by kernel_rfl) (by kernel_rfl) rfl (fun a w h => h.mem (is := [0]) (js := [0, 1, 2]) rfl rfl) (i_mem (m_loadN (i := 0) rfl rfl ag_29 (vs := [_, _]) sz_29 ⟨rfl, rfl, trivial⟩)) ?_
         refine GA.all (rs := [7]) (by kernel_rfl) (by simp) ?_
         refine GAs.cons (i := 7) rfl rfl (t_call rfl fn_10 rfl (is := [1, 1]) (js := [0, 2]) rfl rfl (by exact put_ct _ _ _ _ T _ _ x.r _ _ hb.tabOk)) (by rintro a w ⟨_, _, _, ⟨es22, ck22, rfl, rfl, rfl⟩, h⟩; exact h.mem (is := [2]) (js := [1, 2, 3]) rfl rfl) (GA.ret ?_) ?_
         · rintro _ _ _ ⟨es22, ck22, rfl, rfl, rfl⟩
           refine GA.all (rs := [15]) (by kernel_rfl) (by simp) ?_
           refine GAs.cons (i := 15) rfl rfl (t_call rfl fn_31 rfl (is := [3]) (js := [2, 3]) rfl rfl (by exact rput_ct _ _ L _ _ _ x.r _ _ (by omega) hc1 hc2 hd1 hd2)) (by rintro a w ⟨_, _, _, ⟨A30, cp30, lc30, kc30, rfl, rfl, rfl⟩, h⟩; exact h.mem (is := [3]) (js := [2, 3, 4]) rfl rfl) (GA.ret ?_) ?_
           · rintro _ _ _ ⟨A30, cp30, lc30, kc30, rfl, rfl, rfl⟩
             refine GA.take 16 rfl (by kernel_rfl) (by kernel_rfl) (by kernel_rfl) rfl (fun a w h => h.mem (is := [3]) (js := [2, 3, 4]) rfl rfl) (i_pure (p_eql rfl rfl)) ?_
             refine GA.take 17 rfl (by kernel_rfl) (by kernel_rfl) (by kernel_rfl) rfl (fun a w h => h.mem (is := [3]) (js := [2, 3, 4]) rfl rfl) (i_pure (p_assign rfl)) ?_
             refine GA.done (by kernel_rfl) (?_ : GC _ _ _ _)
             refine GC.ret ?_
             refine fun a w h => Fin.back (rs := [.tmp 6]) (vs := [_]) (is := [1, 1, 0]) (js := [1, 0]) rfl ⟨rfl, trivial⟩ rfl rfl ?_ h
             clear h
             exact ⟨_, _, _, _, lc30, kc30, by rw [hp.1, decide_eq_true rfl]; rfl, rfl, rfl⟩
           exact GAs.nil
         exact GAs.nil)
    · try simp only [decide_eq_true_eq, decide_eq_false_iff_not, Bool.not_eq_true', Bool.not_eq_false', Bool.not_true, Bool.not_false, Bool.not_not, ne_eq, Decidable.not_not, Int.not_lt, Int.not_le, gt_iff_lt, ge_iff_le, bool_true_eq_, bool_false_eq_] at h1
      first
      | (exfalso; rw [hd] at h1; cases h1; done)
      | (skip
         refine GC.skip (?_ : GC _ _ _ _)
         refine GC.seq' ?_
         refine GC.region ?_
         refine GL.pure rfl (p_move rfl) ?_
         refine GL.pure rfl (p_fieldAddr fo_31_1 rfl) ?_
         refine GL.step rfl (t_mem rfl (m_load (i := 0) rfl rfl ag_3 rfl)) ?_
         refine GL.pure rfl (p_fieldAddr fo_31_2 rfl) ?_
         refine GL.step rfl (t_mem rfl (m_load (i := 0) rfl rfl ag_3 rfl)) ?_
         refine GL.step rfl (t_call rfl fn_11 rfl (is := [1, 1]) (js := [0]) rfl rfl (by exact ask_ct _ _ _ _ T _ _ hb.tabOk)) (GL.ret ?_)
         rintro _ _ _ ⟨A38, cp38, l38, m38, rfl, rfl, rfl⟩
         refine GL.pure rfl (p_move rfl) ?_
         refine GL.pure rfl (p_extract rfl rfl) ?_
         refine GL.pure rfl (p_extract rfl rfl) ?_
         refine GL.pure rfl (p_extract rfl rfl) ?_
         refine GL.step rfl (t_alloc rfl ze_29) (GL.ex fun b_t8 => ?_)
         refine GL.pure rfl (p_assign rfl) ?_
         refine GL.step rfl (t_storeN (i := 0) rfl rfl rfl sz_29 rfl rfl rfl) ?_
         refine GL.pure rfl (p_assign rfl) ?_
         refine GL.nil (?_ : GC _ _ _ _)
         refine GC.seq' ?_
         refine GC.region ?_
         refine GL.pure rfl (p_move rfl) ?_
         refine GL.pure rfl (p_fieldAddr fo_31_1 rfl) ?_
         refine GL.step rfl (t_mem rfl (m_load (i := 3) rfl rfl ag_3 rfl)) ?_
         refine GL.pure rfl (p_fieldAddr fo_31_2 rfl) ?_
         refine GL.step rfl (t_mem rfl (m_load (i := 3) rfl rfl ag_3 rfl)) ?_
         refine GL.step rfl (t_call rfl fn_32 rfl (is := [4]) (js := [2]) rfl rfl (by exact rask_ct _ _ L _ _ _ (by omega))) (GL.ret ?_)
         rintro _ _ _ ⟨A48, cp48, l48, m48, rfl, rfl, rfl⟩
         refine GL.pure rfl (p_move rfl) ?_
         refine GL.pure rfl (p_extract rfl rfl) ?_
         refine GL.pure rfl (p_extract rfl rfl) ?_
         refine GL.pure rfl (p_extract rfl rfl) ?_
         refine GL.step rfl (t_alloc rfl ze_29) (GL.ex fun b_t11 => ?_)
         refine GL.pure rfl (p_assign rfl) ?_
         refine GL.step rfl (t_storeN (i := 0) rfl rfl rfl sz_29 rfl rfl rfl) ?_
         refine GL.pure rfl (p_assign rfl) ?_
         refine GL.nil (?_ : GC _ _ _ _)
         refine GC.seq' ?_
         refine GC.region ?_
         refine GL.pure rfl (p_move rfl) ?_
         refine GL.pure rfl (p_move rfl) ?_
         refine GL.pure rfl (p_eql rfl rfl) ?_
         refine GL.pure rfl (p_move rfl) ?_
         refine GL.split (i := 55) rfl (fun h2 => ?_) (fun h2 => ?_)
         · try simp only [decide_eq_true_eq, decide_eq_false_iff_not, Bool.not_eq_true', Bool.not_eq_false', Bool.not_true, Bool.not_false, Bool.not_not, ne_eq, Decidable.not_not, Int.not_lt, Int.not_le, gt_iff_lt, ge_iff_le, bool_true_eq_, bool_false_eq_] at h2
           first
           | (exfalso; rw [hd] at h2; cases h2; done)
           | (skip
              refine GL.stepG rfl (s := 55) rfl rfl (t_mem rfl (m_loadN (i := 2) rfl rfl ag_29 (vs := [_, _]) sz_29 ⟨rfl, rfl, trivial⟩)) ?_
              refine GL.stepG rfl (s := 55) rfl rfl (t_mem rfl (m_loadN (i := 0) rfl rfl ag_29 (vs := [_, _]) sz_29 ⟨rfl, rfl, trivial⟩)) ?_
              refine GL.stepG rfl (s := 55) rfl rfl (t_call rfl fn_12 rfl (is := []) (js := [1, 0]) rfl rfl (by exact same_ct _ _ _ _ _ _)) (GL.ret ?_)
              rintro _ _ _ ⟨rfl, rfl, rfl⟩
              refine GL.pure rfl (p_pick_true rfl rfl) ?_
              refine GL.pure rfl (p_move rfl) ?_
              refine GL.split (i := 60) rfl (fun h3 => ?_) (fun h3 => ?_)
              · try simp only [decide_eq_true_eq, decide_eq_false_iff_not, Bool.not_eq_true', Bool.not_eq_false', Bool.not_true, Bool.not_false, Bool.not_not, ne_eq, Decidable.not_not, Int.not_lt, Int.not_le, gt_iff_lt, ge_iff_le, bool_true_eq_, bool_false_eq_] at h3
                first
                | (exfalso; rw [hd] at h3; cases h3; done)
                | (skip
                   refine GL.pureG (s := 60) rfl rfl rfl (p_move rfl) ?_
                   refine GL.pureG (s := 60) rfl rfl rfl (p_move rfl) ?_
                   refine GL.pureG (s := 60) rfl rfl rfl (p_eql rfl rfl) ?_
                   refine GL.pure rfl (p_pick_true rfl rfl) ?_
                   refine GL.pure rfl (p_assign rfl) ?_
                   refine GL.nil (?_ : GC _ _ _ _)
                   refine GC.ret ?_
                   refine fun a w h => Fin.back (rs := [.tmp 6]) (vs := [_]) (is := [3, 3, 1]) (js := [2, 3]) rfl ⟨rfl, trivial⟩ rfl rfl ?_ h
                   clear h
                   skip)
              · try simp only [decide_eq_true_eq, decide_eq_false_iff_not, Bool.not_eq_true', Bool.not_eq_false', Bool.not_true, Bool.not_false, Bool.not_not, ne_eq, Decidable.not_not, Int.not_lt, Int.not_le, gt_iff_lt, ge_iff_le, bool_true_eq_, bool_false_eq_] at h3
                first
                | (exfalso; rw [hd] at h3; cases h3; done)
                | (skip
                   refine GL.pass (s := 60) rfl rfl rfl ?_
                   refine GL.pass (s := 60) rfl rfl rfl ?_
                   refine GL.pass (s := 60) rfl rfl rfl ?_
                   refine GL.pure rfl (p_pick_false rfl rfl) ?_
                   refine GL.pure rfl (p_assign rfl) ?_
                   refine GL.nil (?_ : GC _ _ _ _)
                   refine GC.ret ?_
                   refine fun a w h => Fin.back (rs := [.tmp 6]) (vs := [_]) (is := [3, 3, 1]) (js := [2, 3]) rfl ⟨rfl, trivial⟩ rfl rfl ?_ h
                   clear h
                   skip))
         · try simp only [decide_eq_true_eq, decide_eq_false_iff_not, Bool.not_eq_true', Bool.not_eq_false', Bool.not_true, Bool.not_false, Bool.not_not, ne_eq, Decidable.not_not, Int.not_lt, Int.not_le, gt_iff_lt, ge_iff_le, bool_true_eq_, bool_false_eq_] at h2
           first
           | (exfalso; rw [hd] at h2; cases h2; done)
           | (skip
              refine GL.pass (s := 55) rfl rfl rfl ?_
              refine GL.pass (s := 55) rfl rfl rfl ?_
              refine GL.pass (s := 55) rfl rfl rfl ?_
              refine GL.pure rfl (p_pick_false rfl rfl) ?_
              refine GL.pure rfl (p_move rfl) ?_
              refine GL.pass (s := 60) rfl rfl rfl ?_
              refine GL.pass (s := 60) rfl rfl rfl ?_
              refine GL.pass (s := 60) rfl rfl rfl ?_
              refine GL.pure rfl (p_pick_false rfl rfl) ?_
              refine GL.pure rfl (p_assign rfl) ?_
              refine GL.nil (?_ : GC _ _ _ _)
              refine GC.ret ?_
              refine fun a w h => Fin.back (rs := [.tmp 6]) (vs := [_]) (is := [3, 3, 1]) (js := [2, 3]) rfl ⟨rfl, trivial⟩ rfl rfl ?_ h
              clear h
              skip))
  · have e1 : tStep T x = T := if_neg hd
    have e2 : lStep L x = L := if_neg hd
    rw [e1, e2]
    refine Ct.intro Try.func17 rfl rfl rfl (fun c hc => ?_)
    refine GC.seq' ?_
    refine GC.region ?_
    refine GL.step rfl (t_box rfl rfl rfl) (GL.ex fun b_t5 => ?_)
    refine GL.pure rfl (p_assign rfl) ?_
    refine GL.nil (?_ : GC _ _ _ _)
    refine GC.seq' ?_
    refine GC.seq' ?_
    refine GC.region ?_
    refine GL.pure rfl (p_fieldAddr fo_31_0 rfl) ?_
    refine GL.step rfl (t_mem rfl (m_load (i := 0) rfl rfl ag_4 rfl)) ?_
    refine GL.nil (?_ : GC _ _ _ _)
    refine GC.cond rfl (fun h1 => ?_) (fun h1 => ?_)
    · try simp only [decide_eq_true_eq, decide_eq_false_iff_not, Bool.not_eq_true', Bool.not_eq_false', Bool.not_true, Bool.not_false, Bool.not_not, ne_eq, Decidable.not_not, Int.not_lt, Int.not_le, gt_iff_lt, ge_iff_le, bool_true_eq_, bool_false_eq_] at h1
      first
      | (exfalso; first | exact hd h1 | (rw [hq] at h1; simp [sameRes] at h1; done))
      | (skip
         refine GC.seq' ?_
         refine GC.regionC (m := 18) (is := [0]) (js := [0, 1, 2]) wide_ rfl rfl rfl ?_
         refine GA.take 0 rfl (by kernel_rfl) (by kernel_rfl) (by kernel_rfl) rfl (fun a w h => h.mem (is := [0]) (js := [0, 1, 2]) rfl rfl) (i_pure (p_move rfl)) ?_
         refine GA.take 1 rfl (by kernel_rfl) (by kernel_rfl) (by kernel_rfl) rfl (fun a w h => h.mem (is := [0]) (js := [0, 1, 2]) rfl rfl) (i_pure (p_fieldAddr fo_31_1 rfl)) ?_
         refine GA.take 2 rfl (by kernel_rfl) (by kernel_rfl) (by kernel_rfl) rfl (fun a w h => h.mem (is := [0]) (js := [0, 1, 2]) rfl rfl) (i_mem (m_load (i := 0) rfl rfl ag_3 rfl)) ?_
         refine GA.take 3 rfl (by kernel_rfl) (by kernel_rfl) (by kernel_rfl) rfl (fun a w h => h.mem (is := [0]) (js := [0, 1, 2]) rfl rfl) (i_pure (p_fieldAddr fo_31_2 rfl)) ?_
         refine GA.take 4 rfl (by kernel_rfl) (by kernel_rfl) (by kernel_rfl) rfl (fun a w h => h.mem (is := [0]) (js := [0, 1, 2]) rfl rfl) (i_mem (m_load (i := 0) rfl rfl ag_3 rfl)) ?_
         refine GA.take 5 rfl (by kernel_rfl) (by kernel_rfl) (by kernel_rfl) rfl (fun a w h => h.mem (is := [0]) (js := [0, 1, 2]) rfl rfl) (i_pure (p_fieldAddr fo_31_3 rfl)) ?_
         refine GA.take 6 rfl (by kernel_rfl) (by kernel_rfl) (by kernel_rfl) rfl (fun a w h => h.mem (is := [0]) (js := [0, 1, 2]) rfl rfl) (i_mem (m_loadN (i := 0) rfl rfl ag_29 (vs := [_, _]) sz_29 ⟨rfl, rfl, trivial⟩)) ?_
         refine GA.take 8 rfl (by kernel_rfl) (by kernel_rfl) (by kernel_rfl) rfl (fun a w h => h.mem (is := [0]) (js := [0, 1, 2]) rfl rfl) (i_pure (p_move rfl)) ?_
         refine GA.take 9 rfl (by kernel_rfl) (by kernel_rfl) (by kernel_rfl) rfl (fun a w h => h.mem (is := [0]) (js := [0, 1, 2]) rfl rfl) (i_pure (p_fieldAddr fo_31_1 rfl)) ?_
         refine GA.take 10 rfl (by kernel_rfl) (by kernel_rfl) (by kernel_rfl) rfl (fun a w h => h.mem (is := [0]) (js := [0, 1, 2]) rfl rfl) (i_mem (m_load (i := 0) rfl rfl ag_3 rfl)) ?_
         refine GA.take 11 rfl (by kernel_rfl) (by kernel_rfl) (by kernel_rfl) rfl (fun a w h => h.mem (is := [0]) (js := [0, 1, 2]) rfl rfl) (i_pure (p_fieldAddr fo_31_2 rfl)) ?_
         refine GA.take 12 rfl (by kernel_rfl) (by kernel_rfl) (by kernel_rfl) rfl (fun a w h => h.mem (is := [0]) (js := [0, 1, 2]) rfl rfl) (i_mem (m_load (i := 0) rfl rfl ag_3 rfl)) ?_
         refine GA.take 13 rfl (by kernel_rfl) (by kernel_rfl) (by kernel_rfl) rfl (fun a w h => h.mem (is := [0]) (js := [0, 1, 2]) rfl rfl) (i_pure (p_fieldAddr fo_31_3 rfl)) ?_
         refine GA.take 14 rfl (by kernel_rfl) (by kernel_rfl) (by kernel_rfl) rfl (fun a w h => h.mem (is := [0]) (js := [0, 1, 2]) rfl rfl) (i_mem (m_loadN (i := 0) rfl rfl ag_29 (vs := [_, _]) sz_29 ⟨rfl, rfl, trivial⟩)) ?_
         refine GA.all (rs := [7]) (by kernel_rfl) (by simp) ?_
         refine GAs.cons (i := 7) rfl rfl (t_call rfl fn_10 rfl (is := [1, 1]) (js := [0, 2]) rfl rfl (by exact put_ct _ _ _ _ T _ _ x.r _ _ hb.tabOk)) (by rintro a w ⟨_, _, _, ⟨es22, ck22, rfl, rfl, rfl⟩, h⟩; exact h.mem (is := [2]) (js := [1, 2, 3]) rfl rfl) (GA.ret ?_) ?_
         · rintro _ _ _ ⟨es22, ck22, rfl, rfl, rfl⟩
           refine GA.all (rs := [15]) (by kernel_rfl) (by simp) ?_
           refine GAs.cons (i := 15) rfl rfl (t_call rfl fn_31 rfl (is := [3]) (js := [2, 3]) rfl rfl (by exact rput_ct _ _ L _ _ _ x.r _ _ (by omega) hc1 hc2 hd1 hd2)) (by rintro a w ⟨_, _, _, ⟨A30, cp30, lc30, kc30, rfl, rfl, rfl⟩, h⟩; exact h.mem (is := [3]) (js := [2, 3, 4]) rfl rfl) (GA.ret ?_) ?_
           · rintro _ _ _ ⟨A30, cp30, lc30, kc30, rfl, rfl, rfl⟩
             refine GA.take 16 rfl (by kernel_rfl) (by kernel_rfl) (by kernel_rfl) rfl (fun a w h => h.mem (is := [3]) (js := [2, 3, 4]) rfl rfl) (i_pure (p_eql rfl rfl)) ?_
             refine GA.take 17 rfl (by kernel_rfl) (by kernel_rfl) (by kernel_rfl) rfl (fun a w h => h.mem (is := [3]) (js := [2, 3, 4]) rfl rfl) (i_pure (p_assign rfl)) ?_
             refine GA.done (by kernel_rfl) (?_ : GC _ _ _ _)
             refine GC.ret ?_
             refine fun a w h => Fin.back (rs := [.tmp 6]) (vs := [_]) (is := [1, 1, 0]) (js := [1, 0]) rfl ⟨rfl, trivial⟩ rfl rfl ?_ h
             clear h
             skip
           exact GAs.nil
         exact GAs.nil)
    · try simp only [decide_eq_true_eq, decide_eq_false_iff_not, Bool.not_eq_true', Bool.not_eq_false', Bool.not_true, Bool.not_false, Bool.not_not, ne_eq, Decidable.not_not, Int.not_lt, Int.not_le, gt_iff_lt, ge_iff_le, bool_true_eq_, bool_false_eq_] at h1
      first
      | (exfalso; first | exact hd h1 | (rw [hq] at h1; simp [sameRes] at h1; done))
      | (skip
         refine GC.skip (?_ : GC _ _ _ _)
         refine GC.seq' ?_
         refine GC.region ?_
         refine GL.pure rfl (p_move rfl) ?_
         refine GL.pure rfl (p_fieldAddr fo_31_1 rfl) ?_
         refine GL.step rfl (t_mem rfl (m_load (i := 0) rfl rfl ag_3 rfl)) ?_
         refine GL.pure rfl (p_fieldAddr fo_31_2 rfl) ?_
         refine GL.step rfl (t_mem rfl (m_load (i := 0) rfl rfl ag_3 rfl)) ?_
         refine GL.step rfl (t_call rfl fn_11 rfl (is := [1, 1]) (js := [0]) rfl rfl (by exact ask_ct _ _ _ _ T _ _ hb.tabOk)) (GL.ret ?_)
         rintro _ _ _ ⟨A38, cp38, l38, m38, rfl, rfl, rfl⟩
         refine GL.pure rfl (p_move rfl) ?_
         refine GL.pure rfl (p_extract rfl rfl) ?_
         refine GL.pure rfl (p_extract rfl rfl) ?_
         refine GL.pure rfl (p_extract rfl rfl) ?_
         refine GL.step rfl (t_alloc rfl ze_29) (GL.ex fun b_t8 => ?_)
         refine GL.pure rfl (p_assign rfl) ?_
         refine GL.step rfl (t_storeN (i := 0) rfl rfl rfl sz_29 rfl rfl rfl) ?_
         refine GL.pure rfl (p_assign rfl) ?_
         refine GL.nil (?_ : GC _ _ _ _)
         refine GC.seq' ?_
         refine GC.region ?_
         refine GL.pure rfl (p_move rfl) ?_
         refine GL.pure rfl (p_fieldAddr fo_31_1 rfl) ?_
         refine GL.step rfl (t_mem rfl (m_load (i := 3) rfl rfl ag_3 rfl)) ?_
         refine GL.pure rfl (p_fieldAddr fo_31_2 rfl) ?_
         refine GL.step rfl (t_mem rfl (m_load (i := 3) rfl rfl ag_3 rfl)) ?_
         refine GL.step rfl (t_call rfl fn_32 rfl (is := [4]) (js := [2]) rfl rfl (by exact rask_ct _ _ L _ _ _ (by omega))) (GL.ret ?_)
         rintro _ _ _ ⟨A48, cp48, l48, m48, rfl, rfl, rfl⟩
         refine GL.pure rfl (p_move rfl) ?_
         refine GL.pure rfl (p_extract rfl rfl) ?_
         refine GL.pure rfl (p_extract rfl rfl) ?_
         refine GL.pure rfl (p_extract rfl rfl) ?_
         refine GL.step rfl (t_alloc rfl ze_29) (GL.ex fun b_t11 => ?_)
         refine GL.pure rfl (p_assign rfl) ?_
         refine GL.step rfl (t_storeN (i := 0) rfl rfl rfl sz_29 rfl rfl rfl) ?_
         refine GL.pure rfl (p_assign rfl) ?_
         refine GL.nil (?_ : GC _ _ _ _)
         refine GC.seq' ?_
         refine GC.region ?_
         refine GL.pure rfl (p_move rfl) ?_
         refine GL.pure rfl (p_move rfl) ?_
         refine GL.pure rfl (p_eql rfl rfl) ?_
         refine GL.pure rfl (p_move rfl) ?_
         refine GL.split (i := 55) rfl (fun h2 => ?_) (fun h2 => ?_)
         · try simp only [decide_eq_true_eq, decide_eq_false_iff_not, Bool.not_eq_true', Bool.not_eq_false', Bool.not_true, Bool.not_false, Bool.not_not, ne_eq, Decidable.not_not, Int.not_lt, Int.not_le, gt_iff_lt, ge_iff_le, bool_true_eq_, bool_false_eq_] at h2
           first
           | (exfalso; first | exact hd h2 | (rw [hq] at h2; simp [sameRes] at h2; done))
           | (skip
              refine GL.stepG rfl (s := 55) rfl rfl (t_mem rfl (m_loadN (i := 2) rfl rfl ag_29 (vs := [_, _]) sz_29 ⟨rfl, rfl, trivial⟩)) ?_
              refine GL.stepG rfl (s := 55) rfl rfl (t_mem rfl (m_loadN (i := 0) rfl rfl ag_29 (vs := [_, _]) sz_29 ⟨rfl, rfl, trivial⟩)) ?_
              refine GL.stepG rfl (s := 55) rfl rfl (t_call rfl fn_12 rfl (is := []) (js := [1, 0]) rfl rfl (by exact same_ct _ _ _ _ _ _)) (GL.ret ?_)
              rintro _ _ _ ⟨rfl, rfl, rfl⟩
              refine GL.pure rfl (p_pick_true rfl rfl) ?_
              refine GL.pure rfl (p_move rfl) ?_
              refine GL.split (i := 60) rfl (fun h3 => ?_) (fun h3 => ?_)
              · try simp only [decide_eq_true_eq, decide_eq_false_iff_not, Bool.not_eq_true', Bool.not_eq_false', Bool.not_true, Bool.not_false, Bool.not_not, ne_eq, Decidable.not_not, Int.not_lt, Int.not_le, gt_iff_lt, ge_iff_le, bool_true_eq_, bool_false_eq_] at h3
                first
                | (exfalso; first | exact hd h3 | (rw [hq] at h3; simp [sameRes] at h3; done))
                | (skip
                   refine GL.pureG (s := 60) rfl rfl rfl (p_move rfl) ?_
                   refine GL.pureG (s := 60) rfl rfl rfl (p_move rfl) ?_
                   refine GL.pureG (s := 60) rfl rfl rfl (p_eql rfl rfl) ?_
                   refine GL.pure rfl (p_pick_true rfl rfl) ?_
                   refine GL.pure rfl (p_assign rfl) ?_
                   refine GL.nil (?_ : GC _ _ _ _)
                   refine GC.ret ?_
                   refine fun a w h => Fin.back (rs := [.tmp 6]) (vs := [_]) (is := [3, 3, 1]) (js := [2, 3]) rfl ⟨rfl, trivial⟩ rfl rfl ?_ h
                   clear h
                   exact ⟨_, _, _, _, hc1, hc2, by rw [hq, decide_eq_true rfl]; rfl, rfl, rfl⟩)
              · try simp only [decide_eq_true_eq, decide_eq_false_iff_not, Bool.not_eq_true', Bool.not_eq_false', Bool.not_true, Bool.not_false, Bool.not_not, ne_eq, Decidable.not_not, Int.not_lt, Int.not_le, gt_iff_lt, ge_iff_le, bool_true_eq_, bool_false_eq_] at h3
                first
                | (exfalso; first | exact hd h3 | (rw [hq] at h3; simp [sameRes] at h3; done))
                | (skip
                   refine GL.pass (s := 60) rfl rfl rfl ?_
                   refine GL.pass (s := 60) rfl rfl rfl ?_
                   refine GL.pass (s := 60) rfl rfl rfl ?_
                   refine GL.pure rfl (p_pick_false rfl rfl) ?_
                   refine GL.pure rfl (p_assign rfl) ?_
                   refine GL.nil (?_ : GC _ _ _ _)
                   refine GC.ret ?_
                   refine fun a w h => Fin.back (rs := [.tmp 6]) (vs := [_]) (is := [3, 3, 1]) (js := [2, 3]) rfl ⟨rfl, trivial⟩ rfl rfl ?_ h
                   clear h
                   exact ⟨_, _, _, _, hc1, hc2, by rw [hq, decide_eq_true rfl]; rfl, rfl, rfl⟩))
         · try simp only [decide_eq_true_eq, decide_eq_false_iff_not, Bool.not_eq_true', Bool.not_eq_false', Bool.not_true, Bool.not_false, Bool.not_not, ne_eq, Decidable.not_not, Int.not_lt, Int.not_le, gt_iff_lt, ge_iff_le, bool_true_eq_, bool_false_eq_] at h2
           first
           | (exfalso; first | exact hd h2 | (rw [hq] at h2; simp [sameRes] at h2; done))
           | (skip
              refine GL.pass (s := 55) rfl rfl rfl ?_
              refine GL.pass (s := 55) rfl rfl rfl ?_
              refine GL.pass (s := 55) rfl rfl rfl ?_
              refine GL.pure rfl (p_pick_false rfl rfl) ?_
              refine GL.pure rfl (p_move rfl) ?_
              refine GL.pass (s := 60) rfl rfl rfl ?_
              refine GL.pass (s := 60) rfl rfl rfl ?_
              refine GL.pass (s := 60) rfl rfl rfl ?_
              refine GL.pure rfl (p_pick_false rfl rfl) ?_
              refine GL.pure rfl (p_assign rfl) ?_
              refine GL.nil (?_ : GC _ _ _ _)
              refine GC.ret ?_
              refine fun a w h => Fin.back (rs := [.tmp 6]) (vs := [_]) (is := [3, 3, 1]) (js := [2, 3]) rfl ⟨rfl, trivial⟩ rfl rfl ?_ h
              clear h
              exact ⟨_, _, _, _, hc1, hc2, by rw [hq, decide_eq_true rfl]; rfl, rfl, rfl⟩))
end Go.Proofs.Ytipjpgjahmadiaa
