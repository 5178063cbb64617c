/- THE TABLE: a table out of rows, the rows of a table. -/
import Derived.Test.YtipjpgjahmadiaaTp1
import Derived.Test.YtipjpgjahmadiaaSx17
import Derived.Test.YtipjpgjahmadiaaLy
set_option linter.unusedVariables false
set_option linter.unusedSimpArgs false
set_option maxRecDepth 100000
namespace Go.Proofs.Ytipjpgjahmadiaa
open Go Go.Sx Go.Proofs
/-! ### a table out of rows -/
def tabOf (l : List Row) : List (Int × Last) := l.map fun r => (r.client, toLast r)
def okAt (l : List Row) (k : Nat) : Prop := rowOk (gt l (k : Int)) = true ∧ lastC l k < (gt l (k : Int)).client
theorem take_gt {α : Type} [Inhabited α] {l : List α} {k : Nat} (h : k < l.length) : l.take (k + 1) = l.take k ++ [gt l (k : Int)] := by
  have := gt_ok (xs := l) (i := (k : Int)) (by omega) (by omega)
  simp only [Int.toNat_natCast] at this
  rw [List.take_add_one, this]; rfl
theorem incB_at {l : List Row} : ∀ (k : Nat), k ≤ l.length → (∀ j, j < k → okAt l j) → incB 0 l = incB (lastC l k) (l.drop k)
  | 0, _, _ => rfl
  | k + 1, hk, h => by
    rw [incB_at k (by omega) fun j hj => h j (by omega), incB_step (by omega), (h k (by omega)).1, decide_eq_true (h k (by omega)).2]; rfl
theorem right_at {l : List Row} (h : rightF l = true) : ∀ k, k < l.length → okAt l k := by
  intro k
  induction k using Nat.strongRecOn with
  | _ k ih =>
    intro hk
    have h1 := incB_at k (by omega) fun j hj => ih j hj (by omega)
    simp only [rightF, Bool.and_eq_true] at h
    rw [h.2, incB_step hk] at h1
    have := h1.symm
    simp only [Bool.and_eq_true, decide_eq_true_eq] at this
    exact this.1
theorem right_of {l : List Row} (h : ∀ k, k < l.length → okAt l k) (h64 : l.length ≤ 64) : rightF l = true := by
  rw [rightF, incB_at l.length (Nat.le_refl _) h, List.drop_of_length_le (Nat.le_refl _), decide_eq_true h64]; rfl
theorem cl_le {l : List Row} : ∀ (k : Nat), k ≤ l.length → (∀ j, j < k → okAt l j) → ∀ r ∈ l.take k, r.client ≤ lastC l k
  | 0, _, _, r, hr => by simp at hr
  | k + 1, hk, h, r, hr => by
    rw [take_gt (by omega)] at hr
    rcases List.mem_append.1 hr with hr | hr
    · have := cl_le k (by omega) (fun j hj => h j (by omega)) r hr
      have := (h k (by omega)).2
      simp only [lastC]; omega
    · rw [List.mem_singleton.1 hr]; exact Int.le_refl _
theorem mget_out {l : List Row} {c : Int} (h : ∀ r ∈ l, r.client ≠ c) : mget (tabOf l) c = none := by
  induction l with
  | nil => rfl
  | cons x xs ih =>
    simp only [tabOf, List.map_cons, mget]
    rw [if_neg (h x (List.mem_cons_self ..))]
    exact ih fun r hr => h r (List.mem_cons_of_mem _ hr)
theorem mput_out {α : Type} {c : Int} {x : α} : ∀ {T : List (Int × α)}, mget T c = none → mput T c x = T ++ [(c, x)]
  | [], _ => rfl
  | (j, y) :: T, h => by
    rw [mget] at h
    split at h
    · cases h
    · rename_i hj
      rw [mput, if_neg hj, mput_out h]; rfl
theorem mget_in {l : List Row} {c : Int} {x : Last} (h : mget (tabOf l) c = some x) : ∃ r ∈ l, r.client = c ∧ toLast r = x := by
  induction l with
  | nil => cases h
  | cons y ys ih =>
    simp only [tabOf, List.map_cons, mget] at h
    split at h
    · rename_i e
      simp only [Option.some.injEq] at h
      exact ⟨y, List.mem_cons_self .., e, h⟩
    · obtain ⟨r, hr, h1⟩ := ih h
      exact ⟨r, List.mem_cons_of_mem _ hr, h1⟩
theorem tabOk_of {l : List Row} (h : ∀ r ∈ l, rowOk r = true) : TabOk (tabOf l) := fun c x hx => by
  obtain ⟨r, hr, _, rfl⟩ := mget_in hx
  have := h r hr
  simp only [rowOk, Bool.and_eq_true] at this
  exact resOk_len this.2
theorem gt_in {α : Type} [Inhabited α] {l : List α} {k : Nat} (h : k < l.length) : gt l (k : Int) ∈ l := by
  have := gt_ok (xs := l) (i := (k : Int)) (by omega) (by omega)
  exact List.mem_of_getElem? this
theorem take_ok {l : List Row} {k : Nat} (hk : k ≤ l.length) (h : ∀ j, j < k → okAt l j) : ∀ r ∈ l.take k, rowOk r = true := fun r hr => by
  obtain ⟨j, hj, rfl⟩ := List.getElem_of_mem hr
  simp only [List.length_take] at hj
  have g := gt_ok (xs := l) (i := (j : Int)) (by omega) (by omega)
  simp only [Int.toNat_natCast, List.getElem?_eq_getElem (show j < l.length by omega), Option.some.injEq] at g
  rw [List.getElem_take, g]
  exact (h j (by omega)).1
theorem put_next {l : List Row} {k : Nat} (hk : k < l.length) (h : ∀ j, j < k → okAt l j) (hok : okAt l k) (h64 : k < 64) :
    putF (tabOf (l.take k)) (gt l (k : Int)).client (gt l (k : Int)).serial (gt l (k : Int)).result = (0, tabOf (l.take (k + 1))) := by
  have h1 := hok.1
  simp only [rowOk, Bool.and_eq_true] at h1
  have hn : mget (tabOf (l.take k)) (gt l (k : Int)).client = none := mget_out fun r hr => by
    have := cl_le k (by omega) h r hr
    have := hok.2
    omega
  have hlen : (tabOf (l.take k)).length = k := by simp [tabOf]; omega
  have e : askF (tabOf (l.take k)) (gt l (k : Int)).client (gt l (k : Int)).serial = (1, rz, 0) := by
    unfold askF
    rw [if_neg (by rw [h1.1.1, h1.1.2]; simp), hn]
    simp only
    rw [if_neg (by rw [hlen]; omega)]
  unfold putF
  rw [e]
  rw [if_neg (by simp), if_neg (by rw [h1.2]; simp), if_neg (by simp), if_neg (by simp), mput_out hn, take_gt hk]
  simp only [tabOf, List.map_append]; rfl
theorem put_bad {l : List Row} {k : Nat} (hk : k < l.length) (h : ∀ j, j < k → okAt l j) (hk64 : k ≤ 64) (hbad : ¬ (okAt l k ∧ k < 64)) (hlt : lastC l k < (gt l (k : Int)).client) :
    (putF (tabOf (l.take k)) (gt l (k : Int)).client (gt l (k : Int)).serial (gt l (k : Int)).result).1 ≠ 0 := by
  have hlen : (tabOf (l.take k)).length = k := by simp [tabOf]; omega
  have hn : mget (tabOf (l.take k)) (gt l (k : Int)).client = none := mget_out fun r hr => by
    have := cl_le k (by omega) h r hr
    omega
  unfold putF
  by_cases hc : isNum (gt l (k : Int)).client = false ∨ isNum (gt l (k : Int)).serial = false
  · have e : askF (tabOf (l.take k)) (gt l (k : Int)).client (gt l (k : Int)).serial = (0, rz, 5) := by unfold askF; rw [if_pos hc]
    rw [e]; simp
  · have e : askF (tabOf (l.take k)) (gt l (k : Int)).client (gt l (k : Int)).serial = if (((tabOf (l.take k)).length : Nat) : Int) = 64 then (4, rz, 0) else (1, rz, 0) := by
      unfold askF; rw [if_neg hc, hn]
    rw [e, hlen]
    by_cases hr : resOk (gt l (k : Int)).result.code (gt l (k : Int)).result.data.length = true
    · have hok : okAt l k := ⟨by
        simp only [rowOk, hr, Bool.and_true, Bool.and_eq_true]
        simpa using hc, hlt⟩
      have h64 : ¬ k < 64 := fun h => hbad ⟨hok, h⟩
      rw [if_pos (show ((k : Nat) : Int) = 64 by omega)]; simp [hr]
    · split <;> simp [hr]
theorem load_ok (A : Option Addr) (l : List Row) (cp : Nat) (hl : l.length ≤ 140737488355328) (hr : rightF l = true) : Ct Try.prog 21 [.slice A l.length cp] [] [Pers.row kRow A l]
    (fun u G Q => ∃ p m es ck, u = .tuple #[.pointer (some ⟨p, 0, none⟩), .int .i64 0] ∧ G = tabG p m es ck ∧ Q = [Pers.map kLast true (tabOf l) es ck]) := by
  have hall := right_at hr
  have h64 : l.length ≤ 64 := (right_iff.1 hr).1
  refine Ct.intro Try.func21 rfl rfl rfl (fun c hc => ?_)
  refine GC.seq' ?_
  refine GC.region ?_
  refine GL.pure rfl (p_assign rfl) ?_
  refine GL.pure rfl (p_assign rfl) ?_
  refine GL.nil (?_ : GC _ _ _ _)
  refine GC.seq' ?_
  refine GC.region ?_
  refine GL.step rfl (t_call rfl fn_9 rfl (is := []) (js := []) rfl rfl (by exact tnew_ct)) (GL.ret ?_)
  rintro _ _ _ ⟨p8, m8, rfl, rfl, rfl⟩
  refine GL.pure rfl (p_assign rfl) ?_
  refine GL.nil (?_ : GC _ _ _ _)
  refine GC.seq' ?_
  refine GC.region ?_
  refine GL.pure rfl (p_assign rfl) ?_
  refine GL.nil (?_ : GC _ _ _ _)
  refine GC.seq' ?_
  refine GC.seq' ?_
  refine GC.region ?_
  refine GL.pure rfl (p_move rfl) ?_
  refine GL.pure rfl (p_len Try.underlying47 rfl) ?_
  refine GL.pure rfl (p_move rfl) ?_
  refine GL.nil (?_ : GC _ _ _ _)
  refine GC.block ?_
  refine GC.loopK3 (ks := [4, 9, 10]) (is := [0]) (js := [0, 1]) (fun (k : Nat) (es : Array MapEntry) (ck : Nat) => k ≤ l.length) (fun (k : Nat) (es : Array MapEntry) (ck : Nat) => [(5, .int .i64 (lastC l k)), (11, .int .i64 (k : Int))]) (fun (k : Nat) (es : Array MapEntry) (ck : Nat) => [.blk m8 (.map es ck)]) (fun (k : Nat) (es : Array MapEntry) (ck : Nat) => [Pers.map kLast true (tabOf (l.take k)) es ck]) (fun (k : Nat) (es : Array MapEntry) (ck : Nat) => l.length - k) (0) (_) (_) rfl rfl rfl (fun a w h => ⟨by omega, h.cutK (is := [1, 0]) (js := [0, 0, 1]) (ks := [4, 9, 10]) (by exact ⟨rfl, rfl, trivial⟩) rfl rfl rfl⟩) ?_
  intro k es ck hk
  try dsimp only [List.cons_append, List.nil_append] at hk ⊢
  refine GC.seq' ?_
  refine GC.region ?_
  refine GL.pure rfl (p_lss rfl rfl) ?_
  refine GL.nil (?_ : GC _ _ _ _)
  refine GC.seq' ?_
  refine GC.cond rfl (fun h1 => ?_) (fun h1 => ?_)
  · try simp only [decide_eq_true_eq, decide_eq_false_iff_not, Bool.not_eq_true', Bool.not_eq_false', Bool.not_true, Bool.not_false, Bool.not_not, ne_eq, Decidable.not_not, Int.not_lt, Int.not_le, gt_iff_lt, ge_iff_le, bool_true_eq_, bool_false_eq_] at h1
    first
    | (exfalso; first | omega | (have := (hall k (by omega)).2; omega))
    | (skip
       refine GC.skip (?_ : GC _ _ _ _)
       refine GC.seq' ?_
       refine GC.block ?_
       refine GC.seq' ?_
       refine GC.region ?_
       refine GL.step rfl (t_index (i := 2) rfl rfl rfl rfl Try.underlying47 sz_68 (by omega) (gt_ok (by omega) (by omega))) (GL.ex fun p_x13 => GL.ex fun r_x13 => GL.and fun ok_x13 => ?_)
       rcases r_x13 with ⟨_, ⟨_, ⟨_, ⟨Ax13_0, cpx13_0⟩⟩⟩⟩
       refine GL.step rfl (t_mem rfl (m_loadPN (i := 0) rfl rfl ag_68 (vs := [_, _, _, _]) sz_68 ⟨rfl, rfl, rfl, rfl, trivial⟩)) ?_
       refine GL.step rfl (t_alloc rfl ze_68) (GL.ex fun b_t7 => ?_)
       refine GL.step rfl (t_storeN (i := 0) rfl rfl rfl sz_68 rfl rfl rfl) ?_
       refine GL.nil (?_ : GC _ _ _ _)
       refine GC.seq' ?_
       refine GC.seq' ?_
       refine GC.region ?_
       refine GL.pure rfl (p_fieldAddr fo_68_0 rfl) ?_
       refine GL.step rfl (t_mem rfl (m_load (i := 0) rfl rfl ag_3 rfl)) ?_
       refine GL.pure rfl (p_move rfl) ?_
       refine GL.pure rfl (p_leq rfl rfl) ?_
       refine GL.pure rfl (p_move rfl) ?_
       refine GL.split (i := 19) rfl (fun h2 => ?_) (fun h2 => ?_)
       · try simp only [decide_eq_true_eq, decide_eq_false_iff_not, Bool.not_eq_true', Bool.not_eq_false', Bool.not_true, Bool.not_false, Bool.not_not, ne_eq, Decidable.not_not, Int.not_lt, Int.not_le, gt_iff_lt, ge_iff_le, bool_true_eq_, bool_false_eq_] at h2
         first
         | (exfalso; first | omega | (have := (hall k (by omega)).2; omega))
         | (skip
            refine GL.pass (s := 19) rfl rfl rfl ?_
            refine GL.pass (s := 19) rfl rfl rfl ?_
            refine GL.pass (s := 19) rfl rfl rfl ?_
            refine GL.pass (s := 19) rfl rfl rfl ?_
            refine GL.pass (s := 19) rfl rfl rfl ?_
            refine GL.pass (s := 19) rfl rfl rfl ?_
            refine GL.pass (s := 19) rfl rfl rfl ?_
            refine GL.pass (s := 19) rfl rfl rfl ?_
            refine GL.pass (s := 19) rfl rfl rfl ?_
            refine GL.pure rfl (p_pick_true rfl rfl) ?_
            refine GL.nil (?_ : GC _ _ _ _)
            refine GC.cond_true rfl ?_
            refine GC.seq' ?_
            refine GC.region ?_
            refine GL.pure rfl (p_assign rfl) ?_
            refine GL.pure rfl (p_assign rfl) ?_
            refine GL.nil (?_ : GC _ _ _ _)
            refine GC.ret ?_
            refine fun a w h => Fin.back (rs := [.tmp 2, .tmp 3]) (vs := [_, _]) (is := [2, 1]) (js := [2]) rfl ⟨rfl, rfl, trivial⟩ rfl rfl ?_ h
            clear h
            exact ⟨rfl, rfl, rfl⟩)
       · try simp only [decide_eq_true_eq, decide_eq_false_iff_not, Bool.not_eq_true', Bool.not_eq_false', Bool.not_true, Bool.not_false, Bool.not_not, ne_eq, Decidable.not_not, Int.not_lt, Int.not_le, gt_iff_lt, ge_iff_le, bool_true_eq_, bool_false_eq_] at h2
         first
         | (exfalso; first | omega | (have := (hall k (by omega)).2; omega))
         | (skip
            refine GL.pureG (s := 19) rfl rfl rfl (p_move rfl) ?_
            refine GL.pureG (s := 19) rfl rfl rfl (p_fieldAddr fo_68_0 rfl) ?_
            refine GL.stepG rfl (s := 19) rfl rfl (t_mem rfl (m_load (i := 0) rfl rfl ag_3 rfl)) ?_
            refine GL.pureG (s := 19) rfl rfl rfl (p_fieldAddr fo_68_1 rfl) ?_
            refine GL.stepG rfl (s := 19) rfl rfl (t_mem rfl (m_load (i := 0) rfl rfl ag_3 rfl)) ?_
            refine GL.pureG (s := 19) rfl rfl rfl (p_fieldAddr fo_68_2 rfl) ?_
            refine GL.stepG rfl (s := 19) rfl rfl (t_mem rfl (m_loadN (i := 0) rfl rfl ag_29 (vs := [_, _]) sz_29 ⟨rfl, rfl, trivial⟩)) ?_
            refine GL.stepG rfl (s := 19) rfl rfl (t_call rfl fn_10 rfl (is := [2, 1]) (js := [2, 1]) rfl rfl (by exact put_eq _ _ _ _ (tabOf (l.take k)) _ _ (gt l (k : Int)).result _ _ (tabOk_of (take_ok hk fun j hj => hall j (by omega))) 0 (tabOf (l.take (k + 1))) (put_next (by omega) (fun j hj => hall j (by omega)) (hall k (by omega)) (by omega)))) (GL.ret ?_)
            rintro _ _ _ ⟨es27, ck27, rfl, rfl, rfl⟩
            refine GL.pureG (s := 19) rfl rfl rfl (p_neq rfl rfl) ?_
            refine GL.pure rfl (p_pick_false rfl rfl) ?_
            refine GL.nil (?_ : GC _ _ _ _)
            refine GC.cond_false rfl ?_
            refine GC.skip (?_ : GC _ _ _ _)
            refine GC.region ?_
            refine GL.pure rfl (p_fieldAddr fo_68_0 rfl) ?_
            refine GL.step rfl (t_mem rfl (m_load (i := 2) rfl rfl ag_3 rfl)) ?_
            refine GL.pure rfl (p_assign rfl) ?_
            refine GL.nil (?_ : GC _ _ _ _)
            refine GC.region ?_
            refine GL.pure rfl (p_add rfl rfl (w64 (by omega) (by omega))) ?_
            refine GL.pure rfl (p_move rfl) ?_
            refine GL.nil ?_
            exact fun a w h => ⟨(k + 1), (_), (_), (by omega), by omega, h.cut (is := [1, 0]) (js := [0, 4, 5]) ⟨rfl, rfl, rfl, rfl, rfl, trivial⟩ rfl rfl⟩))
  · try simp only [decide_eq_true_eq, decide_eq_false_iff_not, Bool.not_eq_true', Bool.not_eq_false', Bool.not_true, Bool.not_false, Bool.not_not, ne_eq, Decidable.not_not, Int.not_lt, Int.not_le, gt_iff_lt, ge_iff_le, bool_true_eq_, bool_false_eq_] at h1
    first
    | (exfalso; first | omega | (have := (hall k (by omega)).2; omega))
    | (skip
       refine GC.exit (?_ : GC _ _ _ _)
       refine GC.seq' ?_
       refine GC.region ?_
       refine GL.pure rfl (p_move rfl) ?_
       refine GL.pure rfl (p_assign rfl) ?_
       refine GL.pure rfl (p_assign rfl) ?_
       refine GL.nil (?_ : GC _ _ _ _)
       refine GC.ret ?_
       refine fun a w h => Fin.back (rs := [.tmp 2, .tmp 3]) (vs := [_, _]) (is := [1, 0]) (js := [0]) rfl ⟨rfl, rfl, trivial⟩ rfl rfl ?_ h
       clear h
       obtain rfl : k = l.length := by omega
       rw [List.take_length]
       exact ⟨_, _, _, _, rfl, rfl, rfl⟩)
theorem load_bad (A : Option Addr) (l : List Row) (cp : Nat) (hl : l.length ≤ 140737488355328) (hr : rightF l = false) : Ct Try.prog 21 [.slice A l.length cp] [] [Pers.row kRow A l] (fun u G Q => u = .tuple #[.pointer none, .int .i64 60] ∧ G = [] ∧ Q = []) := by
  refine Ct.intro Try.func21 rfl rfl rfl (fun c hc => ?_)
  refine GC.seq' ?_
  refine GC.region ?_
  refine GL.pure rfl (p_assign rfl) ?_
  refine GL.pure rfl (p_assign rfl) ?_
  refine GL.nil (?_ : GC _ _ _ _)
  refine GC.seq' ?_
  refine GC.region ?_
  refine GL.step rfl (t_call rfl fn_9 rfl (is := []) (js := []) rfl rfl (by exact tnew_ct)) (GL.ret ?_)
  rintro _ _ _ ⟨p8, m8, rfl, rfl, rfl⟩
  refine GL.pure rfl (p_assign rfl) ?_
  refine GL.nil (?_ : GC _ _ _ _)
  refine GC.seq' ?_
  refine GC.region ?_
  refine GL.pure rfl (p_assign rfl) ?_
  refine GL.nil (?_ : GC _ _ _ _)
  refine GC.seq' ?_
  refine GC.seq' ?_
  refine GC.region ?_
  refine GL.pure rfl (p_move rfl) ?_
  refine GL.pure rfl (p_len Try.underlying47 rfl) ?_
  refine GL.pure rfl (p_move rfl) ?_
  refine GL.nil (?_ : GC _ _ _ _)
  refine GC.block ?_
  refine GC.loopK3 (ks := [4, 9, 10]) (is := [0]) (js := [0, 1]) (fun (k : Nat) (es : Array MapEntry) (ck : Nat) => k ≤ l.length ∧ (∀ j, j < k → okAt l j) ∧ k ≤ 64) (fun (k : Nat) (es : Array MapEntry) (ck : Nat) => [(5, .int .i64 (lastC l k)), (11, .int .i64 (k : Int))]) (fun (k : Nat) (es : Array MapEntry) (ck : Nat) => [.blk m8 (.map es ck)]) (fun (k : Nat) (es : Array MapEntry) (ck : Nat) => [Pers.map kLast true (tabOf (l.take k)) es ck]) (fun (k : Nat) (es : Array MapEntry) (ck : Nat) => l.length - k) (0) (_) (_) rfl rfl rfl (fun a w h => ⟨⟨by omega, fun j hj => by omega, by omega⟩, h.cutK (is := [1, 0]) (js := [0, 0, 1]) (ks := [4, 9, 10]) (by exact ⟨rfl, rfl, trivial⟩) rfl rfl rfl⟩) ?_
  intro k es ck hk
  try dsimp only [List.cons_append, List.nil_append] at hk ⊢
  refine GC.seq' ?_
  refine GC.region ?_
  refine GL.pure rfl (p_lss rfl rfl) ?_
  refine GL.nil (?_ : GC _ _ _ _)
  refine GC.seq' ?_
  refine GC.cond rfl (fun h1 => ?_) (fun h1 => ?_)
  · try simp only [decide_eq_true_eq, decide_eq_false_iff_not, Bool.not_eq_true', Bool.not_eq_false', Bool.not_true, Bool.not_false, Bool.not_not, ne_eq, Decidable.not_not, Int.not_lt, Int.not_le, gt_iff_lt, ge_iff_le, bool_true_eq_, bool_false_eq_] at h1
    first
    | (exfalso; first | omega | (simp at h1; done))
    | (skip
       refine GC.skip (?_ : GC _ _ _ _)
       refine GC.seq' ?_
       refine GC.block ?_
       refine GC.seq' ?_
       refine GC.region ?_
       by_cases hok : okAt l k ∧ k < 64
       · skip
         refine GL.step rfl (t_index (i := 2) rfl rfl rfl rfl Try.underlying47 sz_68 (by omega) (gt_ok (by omega) (by omega))) (GL.ex fun p_x13 => GL.ex fun r_x13 => GL.and fun ok_x13 => ?_)
         rcases r_x13 with ⟨_, ⟨_, ⟨_, ⟨Ax13_0, cpx13_0⟩⟩⟩⟩
         refine GL.step rfl (t_mem rfl (m_loadPN (i := 0) rfl rfl ag_68 (vs := [_, _, _, _]) sz_68 ⟨rfl, rfl, rfl, rfl, trivial⟩)) ?_
         refine GL.step rfl (t_alloc rfl ze_68) (GL.ex fun b_t7 => ?_)
         refine GL.step rfl (t_storeN (i := 0) rfl rfl rfl sz_68 rfl rfl rfl) ?_
         refine GL.nil (?_ : GC _ _ _ _)
         refine GC.seq' ?_
         refine GC.seq' ?_
         refine GC.region ?_
         refine GL.pure rfl (p_fieldAddr fo_68_0 rfl) ?_
         refine GL.step rfl (t_mem rfl (m_load (i := 0) rfl rfl ag_3 rfl)) ?_
         refine GL.pure rfl (p_move rfl) ?_
         refine GL.pure rfl (p_leq rfl rfl) ?_
         refine GL.pure rfl (p_move rfl) ?_
         refine GL.split (i := 19) rfl (fun h2 => ?_) (fun h2 => ?_)
         · try simp only [decide_eq_true_eq, decide_eq_false_iff_not, Bool.not_eq_true', Bool.not_eq_false', Bool.not_true, Bool.not_false, Bool.not_not, ne_eq, Decidable.not_not, Int.not_lt, Int.not_le, gt_iff_lt, ge_iff_le, bool_true_eq_, bool_false_eq_] at h2
           first
           | (exfalso; first | omega | (have := hok.1.2; omega))
           | (skip
              refine GL.pass (s := 19) rfl rfl rfl ?_
              refine GL.pass (s := 19) rfl rfl rfl ?_
              refine GL.pass (s := 19) rfl rfl rfl ?_
              refine GL.pass (s := 19) rfl rfl rfl ?_
              refine GL.pass (s := 19) rfl rfl rfl ?_
              refine GL.pass (s := 19) rfl rfl rfl ?_
              refine GL.pass (s := 19) rfl rfl rfl ?_
              refine GL.pass (s := 19) rfl rfl rfl ?_
              refine GL.pass (s := 19) rfl rfl rfl ?_
              refine GL.pure rfl (p_pick_true rfl rfl) ?_
              refine GL.nil (?_ : GC _ _ _ _)
              refine GC.cond_true rfl ?_
              refine GC.seq' ?_
              refine GC.region ?_
              refine GL.pure rfl (p_assign rfl) ?_
              refine GL.pure rfl (p_assign rfl) ?_
              refine GL.nil (?_ : GC _ _ _ _)
              refine GC.ret ?_
              refine fun a w h => Fin.back (rs := [.tmp 2, .tmp 3]) (vs := [_, _]) (is := []) (js := []) rfl ⟨rfl, rfl, trivial⟩ rfl rfl ?_ h
              clear h
              exact ⟨rfl, rfl, rfl⟩)
         · try simp only [decide_eq_true_eq, decide_eq_false_iff_not, Bool.not_eq_true', Bool.not_eq_false', Bool.not_true, Bool.not_false, Bool.not_not, ne_eq, Decidable.not_not, Int.not_lt, Int.not_le, gt_iff_lt, ge_iff_le, bool_true_eq_, bool_false_eq_] at h2
           first
           | (exfalso; first | omega | (have := hok.1.2; omega))
           | (skip
              refine GL.pureG (s := 19) rfl rfl rfl (p_move rfl) ?_
              refine GL.pureG (s := 19) rfl rfl rfl (p_fieldAddr fo_68_0 rfl) ?_
              refine GL.stepG rfl (s := 19) rfl rfl (t_mem rfl (m_load (i := 0) rfl rfl ag_3 rfl)) ?_
              refine GL.pureG (s := 19) rfl rfl rfl (p_fieldAddr fo_68_1 rfl) ?_
              refine GL.stepG rfl (s := 19) rfl rfl (t_mem rfl (m_load (i := 0) rfl rfl ag_3 rfl)) ?_
              refine GL.pureG (s := 19) rfl rfl rfl (p_fieldAddr fo_68_2 rfl) ?_
              refine GL.stepG rfl (s := 19) rfl rfl (t_mem rfl (m_loadN (i := 0) rfl rfl ag_29 (vs := [_, _]) sz_29 ⟨rfl, rfl, trivial⟩)) ?_
              refine GL.stepG rfl (s := 19) rfl rfl (t_call rfl fn_10 rfl (is := [2, 1]) (js := [2, 1]) rfl rfl (by exact put_eq _ _ _ _ (tabOf (l.take k)) _ _ (gt l (k : Int)).result _ _ (tabOk_of (take_ok hk.1 hk.2.1)) 0 (tabOf (l.take (k + 1))) (put_next (by omega) hk.2.1 hok.1 hok.2))) (GL.ret ?_)
              rintro _ _ _ ⟨es27, ck27, rfl, rfl, rfl⟩
              refine GL.pureG (s := 19) rfl rfl rfl (p_neq rfl rfl) ?_
              refine GL.pure rfl (p_pick_false rfl rfl) ?_
              refine GL.nil (?_ : GC _ _ _ _)
              refine GC.cond_false rfl ?_
              refine GC.skip (?_ : GC _ _ _ _)
              refine GC.region ?_
              refine GL.pure rfl (p_fieldAddr fo_68_0 rfl) ?_
              refine GL.step rfl (t_mem rfl (m_load (i := 2) rfl rfl ag_3 rfl)) ?_
              refine GL.pure rfl (p_assign rfl) ?_
              refine GL.nil (?_ : GC _ _ _ _)
              refine GC.region ?_
              refine GL.pure rfl (p_add rfl rfl (w64 (by omega) (by omega))) ?_
              refine GL.pure rfl (p_move rfl) ?_
              refine GL.nil ?_
              exact fun a w h => ⟨(k + 1), (_), (_), (by omega), ⟨by omega, fun j hj => (Nat.lt_succ_iff_lt_or_eq.1 hj).elim (hk.2.1 j) (fun e => by subst e; exact hok.1), by omega⟩, h.cut (is := [1, 0]) (js := [0, 4, 5]) ⟨rfl, rfl, rfl, rfl, rfl, trivial⟩ rfl rfl⟩)
       · skip
         refine GL.step rfl (t_index (i := 2) rfl rfl rfl rfl Try.underlying47 sz_68 (by omega) (gt_ok (by omega) (by omega))) (GL.ex fun p_x13 => GL.ex fun r_x13 => GL.and fun ok_x13 => ?_)
         rcases r_x13 with ⟨_, ⟨_, ⟨_, ⟨Ax13_0, cpx13_0⟩⟩⟩⟩
         refine GL.step rfl (t_mem rfl (m_loadPN (i := 0) rfl rfl ag_68 (vs := [_, _, _, _]) sz_68 ⟨rfl, rfl, rfl, rfl, trivial⟩)) ?_
         refine GL.step rfl (t_alloc rfl ze_68) (GL.ex fun b_t7 => ?_)
         refine GL.step rfl (t_storeN (i := 0) rfl rfl rfl sz_68 rfl rfl rfl) ?_
         refine GL.nil (?_ : GC _ _ _ _)
         refine GC.seq' ?_
         refine GC.seq' ?_
         refine GC.region ?_
         refine GL.pure rfl (p_fieldAddr fo_68_0 rfl) ?_
         refine GL.step rfl (t_mem rfl (m_load (i := 0) rfl rfl ag_3 rfl)) ?_
         refine GL.pure rfl (p_move rfl) ?_
         refine GL.pure rfl (p_leq rfl rfl) ?_
         refine GL.pure rfl (p_move rfl) ?_
         refine GL.split (i := 19) rfl (fun h3 => ?_) (fun h3 => ?_)
         · try simp only [decide_eq_true_eq, decide_eq_false_iff_not, Bool.not_eq_true', Bool.not_eq_false', Bool.not_true, Bool.not_false, Bool.not_not, ne_eq, Decidable.not_not, Int.not_lt, Int.not_le, gt_iff_lt, ge_iff_le, bool_true_eq_, bool_false_eq_] at h3
           first
           | (exfalso; first | omega | exact put_bad (by omega) hk.2.1 hk.2.2 hok (by omega) h3)
           | (skip
              refine GL.pass (s := 19) rfl rfl rfl ?_
              refine GL.pass (s := 19) rfl rfl rfl ?_
              refine GL.pass (s := 19) rfl rfl rfl ?_
              refine GL.pass (s := 19) rfl rfl rfl ?_
              refine GL.pass (s := 19) rfl rfl rfl ?_
              refine GL.pass (s := 19) rfl rfl rfl ?_
              refine GL.pass (s := 19) rfl rfl rfl ?_
              refine GL.pass (s := 19) rfl rfl rfl ?_
              refine GL.pass (s := 19) rfl rfl rfl ?_
              refine GL.pure rfl (p_pick_true rfl rfl) ?_
              refine GL.nil (?_ : GC _ _ _ _)
              refine GC.cond_true rfl ?_
              refine GC.seq' ?_
              refine GC.region ?_
              refine GL.pure rfl (p_assign rfl) ?_
              refine GL.pure rfl (p_assign rfl) ?_
              refine GL.nil (?_ : GC _ _ _ _)
              refine GC.ret ?_
              refine fun a w h => Fin.back (rs := [.tmp 2, .tmp 3]) (vs := [_, _]) (is := []) (js := []) rfl ⟨rfl, rfl, trivial⟩ rfl rfl ?_ h
              clear h
              exact ⟨rfl, rfl, rfl⟩)
         · try simp only [decide_eq_true_eq, decide_eq_false_iff_not, Bool.not_eq_true', Bool.not_eq_false', Bool.not_true, Bool.not_false, Bool.not_not, ne_eq, Decidable.not_not, Int.not_lt, Int.not_le, gt_iff_lt, ge_iff_le, bool_true_eq_, bool_false_eq_] at h3
           first
           | (exfalso; first | omega | exact put_bad (by omega) hk.2.1 hk.2.2 hok (by omega) h3)
           | (skip
              refine GL.pureG (s := 19) rfl rfl rfl (p_move rfl) ?_
              refine GL.pureG (s := 19) rfl rfl rfl (p_fieldAddr fo_68_0 rfl) ?_
              refine GL.stepG rfl (s := 19) rfl rfl (t_mem rfl (m_load (i := 0) rfl rfl ag_3 rfl)) ?_
              refine GL.pureG (s := 19) rfl rfl rfl (p_fieldAddr fo_68_1 rfl) ?_
              refine GL.stepG rfl (s := 19) rfl rfl (t_mem rfl (m_load (i := 0) rfl rfl ag_3 rfl)) ?_
              refine GL.pureG (s := 19) rfl rfl rfl (p_fieldAddr fo_68_2 rfl) ?_
              refine GL.stepG rfl (s := 19) rfl rfl (t_mem rfl (m_loadN (i := 0) rfl rfl ag_29 (vs := [_, _]) sz_29 ⟨rfl, rfl, trivial⟩)) ?_
              refine GL.stepG rfl (s := 19) rfl rfl (t_call rfl fn_10 rfl (is := [2, 1]) (js := [2, 1]) rfl rfl (by exact put_ct _ _ _ _ (tabOf (l.take k)) _ _ (gt l (k : Int)).result _ _ (tabOk_of (take_ok hk.1 hk.2.1)))) (GL.ret ?_)
              rintro _ _ _ ⟨es27, ck27, rfl, rfl, rfl⟩
              refine GL.pureG (s := 19) rfl rfl rfl (p_neq rfl rfl) ?_
              refine GL.pure rfl (p_pick_false rfl rfl) ?_
              refine GL.nil (?_ : GC _ _ _ _)
              refine GC.cond rfl (fun h4 => ?_) (fun h4 => ?_)
              · try simp only [decide_eq_true_eq, decide_eq_false_iff_not, Bool.not_eq_true', Bool.not_eq_false', Bool.not_true, Bool.not_false, Bool.not_not, ne_eq, Decidable.not_not, Int.not_lt, Int.not_le, gt_iff_lt, ge_iff_le, bool_true_eq_, bool_false_eq_] at h4
                first
                | (exfalso; first | omega | exact put_bad (by omega) hk.2.1 hk.2.2 hok (by omega) h4)
                | (skip
                   refine GC.seq' ?_
                   refine GC.region ?_
                   refine GL.pure rfl (p_assign rfl) ?_
                   refine GL.pure rfl (p_assign rfl) ?_
                   refine GL.nil (?_ : GC _ _ _ _)
                   refine GC.ret ?_
                   refine fun a w h => Fin.back (rs := [.tmp 2, .tmp 3]) (vs := [_, _]) (is := []) (js := []) rfl ⟨rfl, rfl, trivial⟩ rfl rfl ?_ h
                   clear h
                   exact ⟨rfl, rfl, rfl⟩)
              · try simp only [decide_eq_true_eq, decide_eq_false_iff_not, Bool.not_eq_true', Bool.not_eq_false', Bool.not_true, Bool.not_false, Bool.not_not, ne_eq, Decidable.not_not, Int.not_lt, Int.not_le, gt_iff_lt, ge_iff_le, bool_true_eq_, bool_false_eq_] at h4
                first
                | (exfalso; first | omega | exact put_bad (by omega) hk.2.1 hk.2.2 hok (by omega) h4)
                | (skip
                   refine GC.skip (?_ : GC _ _ _ _)
                   refine GC.region ?_
                   refine GL.pure rfl (p_fieldAddr fo_68_0 rfl) ?_
                   refine GL.step rfl (t_mem rfl (m_load (i := 2) rfl rfl ag_3 rfl)) ?_
                   refine GL.pure rfl (p_assign rfl) ?_
                   refine GL.nil (?_ : GC _ _ _ _)
                   refine GC.region ?_
                   refine GL.pure rfl (p_add rfl rfl (w64 (by omega) (by omega))) ?_
                   refine GL.pure rfl (p_move rfl) ?_
                   refine GL.nil ?_
                   exact fun a w h => ⟨(k + 1), (_), (_), (by omega), ⟨by omega, fun j hj => (Nat.lt_succ_iff_lt_or_eq.1 hj).elim (hk.2.1 j) (fun e => by subst e; exact hok.1), by omega⟩, h.cut (is := [1, 0]) (js := [0, 4, 5]) ⟨rfl, rfl, rfl, rfl, rfl, trivial⟩ rfl rfl⟩)))
  · try simp only [decide_eq_true_eq, decide_eq_false_iff_not, Bool.not_eq_true', Bool.not_eq_false', Bool.not_true, Bool.not_false, Bool.not_not, ne_eq, Decidable.not_not, Int.not_lt, Int.not_le, gt_iff_lt, ge_iff_le, bool_true_eq_, bool_false_eq_] at h1
    first
    | (exfalso; first | omega | (simp at h1; done))
    | (skip
       refine GC.exit (?_ : GC _ _ _ _)
       refine GC.seq' ?_
       refine GC.region ?_
       refine GL.pure rfl (p_move rfl) ?_
       refine GL.pure rfl (p_assign rfl) ?_
       refine GL.pure rfl (p_assign rfl) ?_
       refine GL.nil (?_ : GC _ _ _ _)
       refine GC.ret ?_
       refine fun a w h => Fin.back (rs := [.tmp 2, .tmp 3]) (vs := [_, _]) (is := []) (js := []) rfl ⟨rfl, rfl, trivial⟩ rfl rfl ?_ h
       clear h
       exfalso
       obtain rfl : k = l.length := by omega
       rw [right_of hk.2.1 hk.2.2] at hr
       cases hr)
end Go.Proofs.Ytipjpgjahmadiaa
