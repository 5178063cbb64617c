/- VOTES: of acknowledgements of one node the first alone: the library's CompactFunc, walked. -/
import Derived.Test.YtmjfkjajedhciaaVa4
import Derived.Test.YtmjfkjajedhciaaSx21
set_option linter.unusedVariables false
set_option linter.unusedSimpArgs false
set_option maxRecDepth 100000
namespace Go.Proofs.Ytmjfkjajedhciaa
open Go Go.Sx Go.Proofs
abbrev nv (a : Ack) : Value := .int .i64 a.node
abbrev mv (a : Ack) : Value := .int .i64 a.num
abbrev ackV (a : Ack) : Value := .agg #[.int .i64 a.node, .int .i64 a.num]
theorem eqN_ct (n m k l : Int) : Ct Try.prog 30 [.agg #[.int .i64 n, .int .i64 m], .agg #[.int .i64 k, .int .i64 l]] [] [] (fun u G Q => u = .bool (decide (n = k)) ∧ G = [] ∧ Q = []) := by
  refine Ct.intro Try.func30 rfl rfl rfl (fun c hc => ?_)
  refine GC.seq' ?_
  refine GC.region ?_
  refine GL.step rfl (t_box rfl rfl rfl) (GL.ex fun b_t2 => ?_)
  refine GL.step rfl (t_box rfl rfl rfl) (GL.ex fun b_t3 => ?_)
  refine GL.pure rfl (p_assign rfl) ?_
  refine GL.nil (?_ : GC _ _ _ _)
  refine GC.seq' ?_
  refine GC.region ?_
  refine GL.pure rfl (p_fieldAddr fo_44_0 rfl) ?_
  refine GL.step rfl (t_mem rfl (m_load (i := 1) rfl rfl ag_3 rfl)) ?_
  refine GL.pure rfl (p_fieldAddr fo_44_0 rfl) ?_
  refine GL.step rfl (t_mem rfl (m_load (i := 0) rfl rfl ag_3 rfl)) ?_
  refine GL.pure rfl (p_eql rfl rfl) ?_
  refine GL.pure rfl (p_assign rfl) ?_
  refine GL.nil (?_ : GC _ _ _ _)
  refine GC.ret ?_
  refine fun a w h => Fin.back (rs := [.tmp 4]) (vs := [_]) (is := []) (js := []) rfl ⟨rfl, trivial⟩ rfl rfl ?_ h
  clear h
  exact ⟨rfl, rfl, rfl⟩
def keepD (xs : List Ack) (k : Nat) : Bool := decide (k = 0) || !decide ((gt xs (k : Int)).node = (gt xs ((k - 1 : Nat) : Int)).node)
def ddK (xs : List Ack) : Nat → List Ack
  | 0 => []
  | k + 1 => ddK xs k ++ (if keepD xs k = true then [gt xs (k : Int)] else [])
theorem ddK_le (xs : List Ack) : ∀ k, (ddK xs k).length ≤ k
  | 0 => by simp [ddK]
  | k + 1 => by have := ddK_le xs k; rw [ddK, List.length_append]; split <;> simp <;> omega
theorem dd_keep {xs : List Ack} {k : Nat} (h0 : 1 ≤ k) (h : (gt xs (k : Int)).node ≠ (gt xs ((k - 1 : Nat) : Int)).node) : ddK xs (k + 1) = ddK xs k ++ [gt xs (k : Int)] := by
  rw [ddK, if_pos]; simp [keepD, h]
theorem dd_drop {xs : List Ack} {k : Nat} (h0 : 1 ≤ k) (h : (gt xs (k : Int)).node = (gt xs ((k - 1 : Nat) : Int)).node) : ddK xs (k + 1) = ddK xs k := by
  rw [ddK, if_neg, List.append_nil]; simp [keepD, h]; omega
theorem dd_take {xs : List Ack} {k : Nat} (hk : k < xs.length) (h0 : 1 ≤ k) (hI : ddK xs k = xs.take k) (h : (gt xs (k : Int)).node ≠ (gt xs ((k - 1 : Nat) : Int)).node) : ddK xs (k + 1) = xs.take (k + 1) := by
  rw [dd_keep h0 h, hI, take_gtI hk]
theorem drop_gtE {xs ys : List Ack} {j k : Nat} (hl : ys.length = xs.length) (hd : ys.drop j = xs.drop j) (hj : j ≤ k) (hk : k < xs.length) : gt ys (k : Int) = gt xs (k : Int) := by
  have e : ys.drop k = xs.drop k := by
    have := congrArg (List.drop (k - j)) hd
    rwa [List.drop_drop, List.drop_drop, show j + (k - j) = k by omega] at this
  rw [drop_gtI (show k < ys.length by omega), drop_gtI hk] at e
  exact (List.cons.inj e).1
theorem set_take {ys : List Ack} {i : Nat} {x : Ack} (hi : i < ys.length) : (ys.set i x).take (i + 1) = ys.take i ++ [x] := by
  rw [List.take_set, List.set_eq_take_append_cons_drop, if_pos (by simp; omega)]
  rw [List.take_take, Nat.min_eq_left (by omega), List.drop_of_length_le (by simp; omega)]
theorem dd_one {xs : List Ack} (h : 0 < xs.length) : ddK xs 1 = xs.take 1 := by
  have := take_gtI (l := xs) (k := 0) h
  rw [this]; simp [ddK, keepD]
theorem cd_keep {xs ys : List Ack} {i k k2 : Nat} (h1j : 1 ≤ k2) (hj : k + k2 < xs.length) (hij : i < k + k2) (hyl : ys.length = xs.length) (hyt : ys.take i = ddK xs (k + k2)) (hyd : ys.drop (k + k2 - 1) = xs.drop (k + k2 - 1)) (h : ¬ (gt ys ((k + k2 : Nat) : Int)).node = (gt ys ((k + k2 - 1 : Nat) : Int)).node) :
    1 ≤ k2 + 1 ∧ k + (k2 + 1) ≤ xs.length ∧ i + 1 < k + (k2 + 1) ∧ (ys.set i (gt ys ((k + k2 : Nat) : Int))).length = xs.length ∧ (ys.set i (gt ys ((k + k2 : Nat) : Int))).take (i + 1) = ddK xs (k + (k2 + 1)) ∧ (ys.set i (gt ys ((k + k2 : Nat) : Int))).drop (k + (k2 + 1) - 1) = xs.drop (k + (k2 + 1) - 1) := by
  have e1 := drop_gtE hyl hyd (show k + k2 - 1 ≤ k + k2 by omega) hj
  have e2 := drop_gtE hyl hyd (Nat.le_refl (k + k2 - 1)) (by omega)
  rw [e1, e2] at h
  refine ⟨by omega, by omega, by omega, by simpa using hyl, ?_, ?_⟩
  · rw [set_take (by omega), hyt, e1]; exact (dd_keep (k := k + k2) (by omega) h).symm
  · have := congrArg (List.drop 1) hyd
    rw [List.drop_drop, List.drop_drop] at this
    rw [List.drop_set_of_lt (by omega), show k + (k2 + 1) - 1 = k + k2 - 1 + 1 by omega]; exact this
theorem cd_drop {xs ys : List Ack} {i k k2 : Nat} (h1j : 1 ≤ k2) (hj : k + k2 < xs.length) (hij : i < k + k2) (hyl : ys.length = xs.length) (hyt : ys.take i = ddK xs (k + k2)) (hyd : ys.drop (k + k2 - 1) = xs.drop (k + k2 - 1)) (h : (gt ys ((k + k2 : Nat) : Int)).node = (gt ys ((k + k2 - 1 : Nat) : Int)).node) :
    1 ≤ k2 + 1 ∧ k + (k2 + 1) ≤ xs.length ∧ i < k + (k2 + 1) ∧ ys.length = xs.length ∧ ys.take i = ddK xs (k + (k2 + 1)) ∧ ys.drop (k + (k2 + 1) - 1) = xs.drop (k + (k2 + 1) - 1) := by
  have e1 := drop_gtE hyl hyd (show k + k2 - 1 ≤ k + k2 by omega) hj
  have e2 := drop_gtE hyl hyd (Nat.le_refl (k + k2 - 1)) (by omega)
  rw [e1, e2] at h
  refine ⟨by omega, by omega, by omega, hyl, ?_, ?_⟩
  · rw [hyt]; exact (dd_drop (k := k + k2) (by omega) h).symm
  · have := congrArg (List.drop 1) hyd
    rw [List.drop_drop, List.drop_drop] at this
    rw [show k + (k2 + 1) - 1 = k + k2 - 1 + 1 by omega]; exact this
theorem pr_take (ys : List Ack) (i : Nat) : (pr nv mv ys).take (i * 2) = pr nv mv (ys.take i) := by
  have := pr_app nv mv (ys.take i) (ys.drop i)
  rw [List.take_append_drop] at this
  rw [this]
  by_cases h : i ≤ ys.length
  · rw [List.take_append_of_le_length (by rw [pr_len]; simp; omega), List.take_of_length_le (by rw [pr_len]; simp; omega)]
  · rw [List.drop_of_length_le (by omega), show pr nv mv [] = [] from rfl, List.append_nil, List.take_of_length_le (by rw [pr_len]; simp; omega)]
theorem clear_tailP {ys : List Ack} {sp : List Value} {i n : Nat} (hl : ys.length = n) (hi : i ≤ n) : laid (pr nv mv ys ++ sp) (0 + ((i : Int)).toNat * 2) (reps [iv 0, iv 0] (n - ((i : Int)).toNat)) = pr nv mv (ys.take i) ++ (reps [iv 0, iv 0] (n - i) ++ sp) := by
  have hp := pr_len nv mv ys
  rw [Int.toNat_natCast, Nat.zero_add, laid, List.take_append_of_le_length (by omega), pr_take, reps_length, List.drop_append, List.drop_of_length_le (by simp only [List.length_cons, List.length_nil]; omega)]
  rw [show i * 2 + (n - i) * [iv 0, iv 0].length - (pr nv mv ys).length = 0 by simp only [List.length_cons, List.length_nil]; omega, List.drop_zero]
  simp
abbrev cfV : Value := .func (.func 30) #[] #[]
theorem compactB_ct (b cp : Nat) (xs : List Ack) (sp : List Value) (h2 : 2 ≤ xs.length) (hl : xs.length ≤ 140737488355328) (hsp : (pr nv mv xs ++ sp).length = cp * 2) (hcp : xs.length ≤ cp) (hmax : cp ≤ 9223372036854775807) :
    Ct Try.prog 29 [.slice (some ⟨b, 0, none⟩) xs.length cp, cfV] [.cells b (pr nv mv xs ++ sp) 44] []
      (fun u G Q => u = .slice (some ⟨b, 0, none⟩) (ddK xs xs.length).length cp ∧ G = [.row (.slice (some ⟨b, 0, none⟩) (ddK xs xs.length).length cp) 44 2 (ddK xs xs.length).length (pr nv mv (ddK xs xs.length))] ∧ Q = []) := by
  have hpl := pr_len nv mv xs
  have hsl : sp.length = cp * 2 - xs.length * 2 := by simp [hpl] at hsp; omega
  refine Ct.intro Try.func29 rfl rfl rfl (fun c hc => ?_)
  refine GC.seq' ?_
  refine GC.region ?_
  refine GL.pure rfl (p_assign rfl) ?_
  refine GL.nil (?_ : GC _ _ _ _)
  refine GC.seq' ?_
  refine GC.seq' ?_
  refine GC.region ?_
  refine GL.pure rfl (p_move rfl) ?_
  refine GL.pure rfl (p_len Try.underlying23 rfl) ?_
  refine GL.pure rfl (p_lss rfl rfl) ?_
  refine GL.nil (?_ : GC _ _ _ _)
  refine GC.cond rfl (fun h1 => ?_) (fun h1 => ?_)
  · try simp only [decide_eq_true_eq, decide_eq_false_iff_not, Bool.not_eq_true', Bool.not_eq_false', Bool.not_true, Bool.not_false, Bool.not_not, ne_eq, Decidable.not_not, Int.not_lt, Int.not_le, gt_iff_lt, ge_iff_le, bool_true_eq_, bool_false_eq_] at h1
    first
    | (exfalso; omega)
    | (skip
       refine GC.seq' ?_
       refine GC.region ?_
       refine GL.pure rfl (p_move rfl) ?_
       refine GL.pure rfl (p_assign rfl) ?_
       refine GL.nil (?_ : GC _ _ _ _)
       refine GC.ret ?_
       refine fun a w h => Fin.back (rs := [.tmp 4]) (vs := [_]) (is := [0]) (js := []) rfl ⟨rfl, trivial⟩ rfl rfl ?_ h
       clear h
       exact ⟨rfl, rfl, rfl⟩)
  · try simp only [decide_eq_true_eq, decide_eq_false_iff_not, Bool.not_eq_true', Bool.not_eq_false', Bool.not_true, Bool.not_false, Bool.not_not, ne_eq, Decidable.not_not, Int.not_lt, Int.not_le, gt_iff_lt, ge_iff_le, bool_true_eq_, bool_false_eq_] at h1
    first
    | (exfalso; omega)
    | (skip
       refine GC.skip (?_ : GC _ _ _ _)
       refine GC.seq' ?_
       refine GC.seq' ?_
       refine GC.region ?_
       refine GL.pure rfl (p_assign rfl) ?_
       refine GL.nil (?_ : GC _ _ _ _)
       refine GC.block ?_
       refine GC.loopK1 (ks := [0, 1]) (is := [0]) (js := []) (fun (k : Nat) => 1 ≤ k ∧ k ≤ xs.length ∧ ddK xs k = xs.take k) (fun (k : Nat) => [(5, .int .i64 (k : Int))]) (fun (k : Nat) => []) (fun (k : Nat) => []) (fun (k : Nat) => xs.length - k) (1) rfl rfl rfl (fun a w h => ⟨⟨by omega, by omega, dd_one (by omega)⟩, h.cutK (is := [0]) (js := []) (ks := [0, 1]) ⟨rfl, trivial⟩ rfl rfl rfl⟩) ?_
       intro k hk
       try dsimp only [List.cons_append, List.nil_append] at hk ⊢
       obtain ⟨h1k, hk, hI⟩ := hk
       refine GC.seq' ?_
       refine GC.seq' ?_
       refine GC.region ?_
       refine GL.pure rfl (p_move rfl) ?_
       refine GL.pure rfl (p_move rfl) ?_
       refine GL.pure rfl (p_len Try.underlying23 rfl) ?_
       refine GL.pure rfl (p_lss rfl rfl) ?_
       refine GL.nil (?_ : GC _ _ _ _)
       refine GC.cond rfl (fun h2 => ?_) (fun h2 => ?_)
       · try simp only [decide_eq_true_eq, decide_eq_false_iff_not, Bool.not_eq_true', Bool.not_eq_false', Bool.not_true, Bool.not_false, Bool.not_not, ne_eq, Decidable.not_not, Int.not_lt, Int.not_le, gt_iff_lt, ge_iff_le, bool_true_eq_, bool_false_eq_] at h2
         first
         | (exfalso; omega)
         | (skip
            refine GC.skip (?_ : GC _ _ _ _)
            refine GC.seq' ?_
            refine GC.block ?_
            refine GC.seq' ?_
            refine GC.regionQ wide_ (by kernel_rfl) ?_
            refine GQ.step rfl (q_pure (p_move rfl)) ?_
            refine GQ.step rfl (q_pure (p_move rfl)) ?_
            refine GQ.step rfl (q_pure (p_move rfl)) ?_
            refine GQ.step rfl (q_pure (p_indexB rfl rfl Try.underlying23 sz_44 (by omega) (by omega))) ?_
            refine GQ.step rfl (q_mem (m_loadN (i := 0) rfl rfl ag_44 (vs := [_, _]) sz_44 (at_pr nv mv (xs := xs) (i := k) (by simp) (by omega)))) ?_
            refine GQ.step rfl (q_pure (p_move rfl)) ?_
            refine GQ.step rfl (q_pure (p_move rfl)) ?_
            refine GQ.step rfl (q_pure (p_sub rfl rfl (w64 (by omega) (by omega)))) ?_
            refine GQ.step rfl (q_pure (p_indexB rfl rfl Try.underlying23 sz_44 (by omega) (by omega))) ?_
            refine GQ.step rfl (q_mem (m_loadN (i := 0) rfl rfl ag_44 (vs := [_, _]) sz_44 (at_pr nv mv (xs := xs) (i := k - 1) (by omega) (by omega)))) ?_
            refine GQ.step rfl (q_callv fn_30 rfl rfl (us := []) (js := []) rfl (by exact eqN_ct (gt xs ((k : Nat) : Int)).node (gt xs ((k : Nat) : Int)).num (gt xs ((k - 1 : Nat) : Int)).node (gt xs ((k - 1 : Nat) : Int)).num)) ?_
            refine GQ.nil (?_ : GC _ _ _ _)
            refine GC.cond rfl (fun h3 => ?_) (fun h3 => ?_)
            · try simp only [decide_eq_true_eq, decide_eq_false_iff_not, Bool.not_eq_true', Bool.not_eq_false', Bool.not_true, Bool.not_false, Bool.not_not, ne_eq, Decidable.not_not, Int.not_lt, Int.not_le, gt_iff_lt, ge_iff_le, bool_true_eq_, bool_false_eq_] at h3
              first
              | (exfalso; omega)
              | (skip
                 refine GC.seq' ?_
                 refine GC.region ?_
                 refine GL.pure rfl (p_move rfl) ?_
                 refine GL.pure rfl (p_move rfl) ?_
                 refine GL.pure rfl (p_cut_l rfl rfl Try.underlying23 sz_44 (by omega) (by omega) rfl rfl (slA_blk (by omega))) ?_
                 refine GL.pure rfl (p_assign rfl) ?_
                 refine GL.nil (?_ : GC _ _ _ _)
                 refine GC.seq' ?_
                 refine GC.seq' ?_
                 refine GC.region ?_
                 refine GL.pure rfl (p_assign rfl) ?_
                 refine GL.nil (?_ : GC _ _ _ _)
                 refine GC.block ?_
                 refine GC.loopK3 (ks := [0, 1, 6]) (is := []) (js := []) (fun (i : Nat) (k2 : Nat) (ys : List Ack) => 1 ≤ k2 ∧ k + k2 ≤ xs.length ∧ i < k + k2 ∧ ys.length = xs.length ∧ ys.take i = ddK xs (k + k2) ∧ ys.drop (k + k2 - 1) = xs.drop (k + k2 - 1)) (fun (i : Nat) (k2 : Nat) (ys : List Ack) => [(5, .int .i64 (i : Int)), (7, .int .i64 (k2 : Int))]) (fun (i : Nat) (k2 : Nat) (ys : List Ack) => [.cells b (pr nv mv ys ++ sp) 44]) (fun (i : Nat) (k2 : Nat) (ys : List Ack) => []) (fun (i : Nat) (k2 : Nat) (ys : List Ack) => xs.length - k - k2) (k) (1) (xs) rfl rfl rfl (fun a w h => ⟨⟨by omega, by omega, by omega, rfl, by rw [dd_drop h1k (by assumption), hI], rfl⟩, h.cutK (is := [0]) (js := []) (ks := [0, 1, 6]) ⟨rfl, rfl, trivial⟩ rfl rfl rfl⟩) ?_
                 intro i k2 ys hj
                 try dsimp only [List.cons_append, List.nil_append] at hj ⊢
                 obtain ⟨h1j, hj, hij, hyl, hyt, hyd⟩ := hj
                 refine GC.seq' ?_
                 refine GC.seq' ?_
                 refine GC.region ?_
                 refine GL.pure rfl (p_move rfl) ?_
                 refine GL.pure rfl (p_move rfl) ?_
                 refine GL.pure rfl (p_len Try.underlying23 rfl) ?_
                 refine GL.pure rfl (p_lss rfl rfl) ?_
                 refine GL.nil (?_ : GC _ _ _ _)
                 refine GC.cond rfl (fun h4 => ?_) (fun h4 => ?_)
                 · try simp only [decide_eq_true_eq, decide_eq_false_iff_not, Bool.not_eq_true', Bool.not_eq_false', Bool.not_true, Bool.not_false, Bool.not_not, ne_eq, Decidable.not_not, Int.not_lt, Int.not_le, gt_iff_lt, ge_iff_le, bool_true_eq_, bool_false_eq_] at h4
                   first
                   | (exfalso; omega)
                   | (skip
                      refine GC.skip (?_ : GC _ _ _ _)
                      refine GC.seq' ?_
                      refine GC.block ?_
                      refine GC.seq' ?_
                      refine GC.regionQ wide_ (by kernel_rfl) ?_
                      refine GQ.step rfl (q_pure (p_move rfl)) ?_
                      refine GQ.step rfl (q_pure (p_move rfl)) ?_
                      refine GQ.step rfl (q_pure (p_move rfl)) ?_
                      refine GQ.step rfl (q_pure (p_indexB rfl rfl Try.underlying23 sz_44 (by omega) (by omega))) ?_
                      refine GQ.step rfl (q_mem (m_loadN (i := 0) rfl rfl ag_44 (vs := [_, _]) sz_44 (at_pr nv mv (xs := ys) (i := k + k2) (by omega) (by omega)))) ?_
                      refine GQ.step rfl (q_pure (p_move rfl)) ?_
                      refine GQ.step rfl (q_pure (p_move rfl)) ?_
                      refine GQ.step rfl (q_pure (p_sub rfl rfl (w64 (by omega) (by omega)))) ?_
                      refine GQ.step rfl (q_pure (p_indexB rfl rfl Try.underlying23 sz_44 (by omega) (by omega))) ?_
                      refine GQ.step rfl (q_mem (m_loadN (i := 0) rfl rfl ag_44 (vs := [_, _]) sz_44 (at_pr nv mv (xs := ys) (i := k + k2 - 1) (by omega) (by omega)))) ?_
                      refine GQ.step rfl (q_callv fn_30 rfl rfl (us := []) (js := []) rfl (by exact eqN_ct (gt ys ((k + k2 : Nat) : Int)).node (gt ys ((k + k2 : Nat) : Int)).num (gt ys ((k + k2 - 1 : Nat) : Int)).node (gt ys ((k + k2 - 1 : Nat) : Int)).num)) ?_
                      refine GQ.step rfl (q_pure (p_not rfl)) ?_
                      refine GQ.nil (?_ : GC _ _ _ _)
                      refine GC.cond rfl (fun h5 => ?_) (fun h5 => ?_)
                      · try simp only [decide_eq_true_eq, decide_eq_false_iff_not, Bool.not_eq_true', Bool.not_eq_false', Bool.not_true, Bool.not_false, Bool.not_not, ne_eq, Decidable.not_not, Int.not_lt, Int.not_le, gt_iff_lt, ge_iff_le, bool_true_eq_, bool_false_eq_] at h5
                        first
                        | (exfalso; omega)
                        | (skip
                           refine GC.seq' ?_
                           refine GC.region ?_
                           refine GL.pure rfl (p_move rfl) ?_
                           refine GL.pure rfl (p_move rfl) ?_
                           refine GL.pure rfl (p_move rfl) ?_
                           refine GL.pure rfl (p_move rfl) ?_
                           refine GL.pure rfl (p_indexB rfl rfl Try.underlying23 sz_44 (by omega) (by omega)) ?_
                           refine GL.step rfl (t_mem rfl (m_loadN (i := 0) rfl rfl ag_44 (vs := [_, _]) sz_44 (at_pr nv mv (xs := ys) (i := k + k2) (by omega) (by omega)))) ?_
                           refine GL.pure rfl (p_indexB rfl rfl Try.underlying23 sz_44 (by omega) (by omega)) ?_
                           refine GL.step rfl (t_storeN (i := 0) rfl rfl rfl sz_44 rfl (upd_pr nv mv (i := i) (by omega) (by omega)) rfl) ?_
                           refine GL.nil (?_ : GC _ _ _ _)
                           refine GC.region ?_
                           refine GL.pure rfl (p_move rfl) ?_
                           refine GL.pure rfl (p_add rfl rfl (w64 (by omega) (by omega))) ?_
                           refine GL.pure rfl (p_assign rfl) ?_
                           refine GL.nil (?_ : GC _ _ _ _)
                           refine GC.region ?_
                           refine GL.pure rfl (p_move rfl) ?_
                           refine GL.pure rfl (p_add rfl rfl (w64 (by omega) (by omega))) ?_
                           refine GL.pure rfl (p_assign rfl) ?_
                           refine GL.nil ?_
                           exact fun a w h => ⟨(i + 1), (k2 + 1), (_), (by omega), cd_keep h1j (by omega) hij hyl hyt hyd (by assumption), h.cut (is := [0]) (js := []) ⟨rfl, rfl, rfl, rfl, rfl, trivial⟩ rfl rfl⟩)
                      · try simp only [decide_eq_true_eq, decide_eq_false_iff_not, Bool.not_eq_true', Bool.not_eq_false', Bool.not_true, Bool.not_false, Bool.not_not, ne_eq, Decidable.not_not, Int.not_lt, Int.not_le, gt_iff_lt, ge_iff_le, bool_true_eq_, bool_false_eq_] at h5
                        first
                        | (exfalso; omega)
                        | (skip
                           refine GC.skip (?_ : GC _ _ _ _)
                           refine GC.region ?_
                           refine GL.pure rfl (p_move rfl) ?_
                           refine GL.pure rfl (p_add rfl rfl (w64 (by omega) (by omega))) ?_
                           refine GL.pure rfl (p_assign rfl) ?_
                           refine GL.nil ?_
                           exact fun a w h => ⟨(i), (k2 + 1), (_), (by omega), cd_drop h1j (by omega) hij hyl hyt hyd (by assumption), h.cut (is := [0]) (js := []) ⟨rfl, rfl, rfl, rfl, rfl, trivial⟩ rfl rfl⟩))
                 · try simp only [decide_eq_true_eq, decide_eq_false_iff_not, Bool.not_eq_true', Bool.not_eq_false', Bool.not_true, Bool.not_false, Bool.not_not, ne_eq, Decidable.not_not, Int.not_lt, Int.not_le, gt_iff_lt, ge_iff_le, bool_true_eq_, bool_false_eq_] at h4
                   first
                   | (exfalso; omega)
                   | (skip
                      refine GC.exit (?_ : GC _ _ _ _)
                      refine GC.seq' ?_
                      refine GC.region ?_
                      refine GL.pure rfl (p_move rfl) ?_
                      refine GL.pure rfl (p_move rfl) ?_
                      refine GL.pure rfl (p_cut_l rfl rfl Try.underlying23 sz_44 (by omega) (by omega) rfl rfl (slA_blk (by omega))) ?_
                      refine GL.step rfl (t_clearN (i := 0) rfl rfl Try.underlying23 ze_44 (by decide) rfl (by have := pr_len nv mv ys; simp only [List.length_append, List.length_cons, List.length_nil, this]; omega) rfl rfl) ?_
                      refine GL.nil (?_ : GC _ _ _ _)
                      refine GC.seq' ?_
                      refine GC.region ?_
                      refine GL.pure rfl (p_move rfl) ?_
                      refine GL.pure rfl (p_move rfl) ?_
                      refine GL.pure rfl (p_cut_h rfl rfl Try.underlying23 sz_44 (by omega) (by omega) rfl rfl (slA_blk (by omega))) ?_
                      refine GL.pure rfl (p_assign rfl) ?_
                      refine GL.nil (?_ : GC _ _ _ _)
                      have hkj : k + k2 = xs.length := by omega
                      rw [hkj] at hyt
                      have hti : (ys.take i).length = i := by simp; omega
                      have hpi := pr_len nv mv (ys.take i)
                      refine GC.rerow (i := 0) (sz := 2) (m := i) (pr nv mv (ys.take i)) (reps [iv 0, iv 0] (xs.length - i) ++ sp) rfl (clear_tailP (i := i) hyl (by omega)) (by omega) (by rw [clear_tailP (i := i) hyl (by omega)]; simp only [List.length_append, reps_length, List.length_cons, List.length_nil]; omega) (by omega) hmax rfl ?_
                      refine GC.ret ?_
                      refine fun a w h => Fin.back (rs := [.tmp 4]) (vs := [_]) (is := [0]) (js := []) rfl ⟨rfl, trivial⟩ rfl rfl ?_ h
                      clear h
                      rw [← hyt, hti]; exact ⟨rfl, rfl, rfl⟩))
            · try simp only [decide_eq_true_eq, decide_eq_false_iff_not, Bool.not_eq_true', Bool.not_eq_false', Bool.not_true, Bool.not_false, Bool.not_not, ne_eq, Decidable.not_not, Int.not_lt, Int.not_le, gt_iff_lt, ge_iff_le, bool_true_eq_, bool_false_eq_] at h3
              first
              | (exfalso; omega)
              | (skip
                 refine GC.skip (?_ : GC _ _ _ _)
                 refine GC.region ?_
                 refine GL.pure rfl (p_move rfl) ?_
                 refine GL.pure rfl (p_add rfl rfl (w64 (by omega) (by omega))) ?_
                 refine GL.pure rfl (p_assign rfl) ?_
                 refine GL.nil ?_
                 exact fun a w h => ⟨(k + 1), (by omega), ⟨by omega, by omega, dd_take (by omega) h1k hI (by assumption)⟩, h.cut (is := [0]) (js := []) ⟨rfl, rfl, rfl, trivial⟩ rfl rfl⟩))
       · try simp only [decide_eq_true_eq, decide_eq_false_iff_not, Bool.not_eq_true', Bool.not_eq_false', Bool.not_true, Bool.not_false, Bool.not_not, ne_eq, Decidable.not_not, Int.not_lt, Int.not_le, gt_iff_lt, ge_iff_le, bool_true_eq_, bool_false_eq_] at h2
         first
         | (exfalso; omega)
         | (skip
            refine GC.exit (?_ : GC _ _ _ _)
            refine GC.seq' ?_
            refine GC.region ?_
            refine GL.pure rfl (p_move rfl) ?_
            refine GL.pure rfl (p_assign rfl) ?_
            refine GL.nil (?_ : GC _ _ _ _)
            obtain rfl : k = xs.length := by omega
            rw [List.take_length] at hI
            refine GC.rerow (i := 0) (sz := 2) (m := xs.length) (pr nv mv xs) sp rfl rfl hpl hsp hcp hmax rfl ?_
            refine GC.ret ?_
            refine fun a w h => Fin.back (rs := [.tmp 4]) (vs := [_]) (is := [0]) (js := []) rfl ⟨rfl, trivial⟩ rfl rfl ?_ h
            clear h
            rw [hI]; exact ⟨rfl, rfl, rfl⟩))
end Go.Proofs.Ytmjfkjajedhciaa
