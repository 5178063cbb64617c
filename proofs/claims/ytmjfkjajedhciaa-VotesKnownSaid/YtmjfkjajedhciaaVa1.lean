/- VOTES: sets with one more node, both sides. -/
import Derived.Test.YtmjfkjajedhciaaGb9
import Derived.Test.YtmjfkjajedhciaaOp13
import Derived.Test.YtmjfkjajedhciaaSx20
set_option linter.unusedVariables false
set_option linter.unusedSimpArgs false
set_option maxRecDepth 100000
namespace Go.Proofs.Ytmjfkjajedhciaa
open Go Go.Sx Go.Proofs
def addF (l : List Int) (x : Int) : List Int := Lib.compact ((l ++ [x]).mergeSort fun x y => decide (x ≤ y))
theorem addF_inc (l : List Int) (x : Int) : (addF l x).Pairwise (· < ·) := (compact_sorted (l ++ [x])).1
theorem addF_mem (l : List Int) (x y : Int) : y ∈ addF l x ↔ y ∈ l ∨ y = x := by
  rw [addF, (compact_sorted (l ++ [x])).2]; simp
theorem addF_len (l : List Int) (x : Int) : (addF l x).length ≤ l.length + 1 := by
  have h := compact_le ((l ++ [x]).mergeSort fun x y => decide (x ≤ y)) ((l ++ [x]).mergeSort fun x y => decide (x ≤ y)).length
  simp only [List.length_mergeSort, List.length_append, List.length_singleton] at h
  simpa [addF, Lib.compact] using h
theorem add_ct (A : Option Addr) (l : List Int) (cp : Nat) (x : Int) (hl : l.length ≤ 1000000) : Ct Try.prog 10 [.slice A l.length cp, .int .i64 x] [] [Pers.row kI A l]
    (fun u G Q => ∃ R cs, u = .slice R (addF l x).length cs ∧ G = [] ∧ Q = [Pers.row kI R (addF l x)]) := by
  refine Ct.intro Try.func10 rfl rfl rfl (fun c hc => ?_)
  refine GC.seq' ?_
  refine GC.region ?_
  refine GL.pure rfl (p_assign rfl) ?_
  refine GL.nil (?_ : GC _ _ _ _)
  refine GC.seq' ?_
  refine GC.region ?_
  refine GL.pure rfl (p_move rfl) ?_
  refine GL.step rfl (t_call rfl fn_21 rfl (is := []) (js := [0]) rfl rfl (by exact clone_i _ _ _ (by first | assumption | omega))) (GL.ret ?_)
  rintro _ _ _ ⟨A7, cp7, l7, k7, rfl, rfl, rfl⟩
  refine GL.pure rfl (p_move rfl) ?_
  refine GL.step rfl (t_buildSlice rfl Try.underlying22 sz_3 ze_3 rfl rfl rfl rfl rfl rfl) (GL.ex fun b_t9 => ?_)
  refine GL.step rfl (t_append (i := 1) (k := 0) rfl el_22 rfl rfl rfl rfl rfl (allOne_mem rfl) (by omega) (fun _ => rfl)) (GL.ex fun v10 => ?_)
  refine GL.pure rfl (p_assign rfl) ?_
  refine GL.nil (?_ : GC _ _ _ _)
  refine GC.seq' ?_
  refine GC.region ?_
  refine GL.pure rfl (p_move rfl) ?_
  rw [show l.map iv ++ [Value.int .i64 x] = (l ++ [x]).map iv by simp, show l.length + 1 = (l ++ [x]).length by simp]
  refine GL.shape (i := 1) rfl (fun A_u c_u e_u l_u k_u => ?_)
  subst e_u
  refine GL.step rfl (t_call rfl fn_22 rfl (is := [1]) (js := []) rfl rfl (by exact sortI_ct _ _ _ (l ++ [x]) rfl (by simp; omega))) (GL.ret ?_)
  rintro _ _ _ ⟨rfl, rfl, rfl⟩
  refine GL.nil (?_ : GC _ _ _ _)
  refine GC.seq' ?_
  refine GC.region ?_
  refine GL.pure rfl (p_move rfl) ?_
  refine GL.step rfl (t_call rfl fn_23 rfl (is := [0]) (js := []) rfl rfl (by exact compactI_ct _ _ _ ((l ++ [x]).mergeSort fun x y => decide (x ≤ y)) (by simp))) (GL.ret ?_)
  rintro _ _ _ ⟨rfl, rfl, rfl⟩
  refine GL.pure rfl (p_assign rfl) ?_
  refine GL.nil (?_ : GC _ _ _ _)
  refine GC.freezeI (i := 0) rfl ?_
  refine GC.ret ?_
  refine fun a w h => Fin.back (rs := [.tmp 4]) (vs := [_]) (is := []) (js := [0]) rfl ⟨rfl, trivial⟩ rfl rfl ?_ h
  clear h
  exact ⟨_, _, rfl, rfl, rfl⟩
structure AddInv (l : List Int) (x : Int) (al o : List Int) : Prop where
  inc : o.Pairwise (· < ·)
  le : ∀ y ∈ o, ∀ z ∈ al, y ≤ z
  mem : ∀ y, (y ∈ o ∨ y ∈ al) ↔ (y ∈ l ∨ y = x)
  len : al.length + o.length ≤ l.length + 1
def rmAt (al : List Int) (m : Nat) : List Int := al.take m ++ al.drop (m + 1)
theorem rmAt_len {al : List Int} {m : Nat} (hm : m < al.length) : (rmAt al m).length + 1 = al.length := by unfold rmAt; simp; omega
theorem rmAt_mem {al : List Int} {m : Nat} (hm : m < al.length) (y : Int) : y ∈ al ↔ y = gt al (m : Int) ∨ y ∈ rmAt al m := by
  have e : al = al.take m ++ gt al (m : Int) :: al.drop (m + 1) := by rw [← drop_gtI hm, List.take_append_drop]
  rw [rmAt, List.mem_append]
  conv => lhs; rw [e, List.mem_append, List.mem_cons]
  grind
theorem AddInv.zero (l : List Int) (x : Int) : AddInv l x (l ++ [x]) [] := ⟨by simp, by simp, by simp, by simp⟩
theorem AddInv.last {l : List Int} {x : Int} {al o : List Int} (h : AddInv l x al o) {y : Int} (hy : y ∈ o) : y ≤ gt o ((o.length : Int) - 1) := by
  obtain ⟨k, hk, rfl⟩ := mem_gt hy
  have := List.pairwise_iff_getElem.1 h.inc
  obtain ⟨n, hn⟩ : ∃ n : Nat, o.length = n + 1 := ⟨o.length - 1, by omega⟩
  have e : (o.length : Int) - 1 = (n : Int) := by omega
  rw [e, gt_get hk, gt_get (show n < o.length by omega)]
  by_cases hh : k = n
  · subst hh; exact Int.le_refl _
  · exact Int.le_of_lt (this k n hk (by omega) (by omega))
theorem AddInv.lastMem {o : List Int} (h : o.length ≠ 0) : gt o ((o.length : Int) - 1) ∈ o := by
  obtain ⟨n, hn⟩ : ∃ n : Nat, o.length = n + 1 := ⟨o.length - 1, by omega⟩
  rw [show (o.length : Int) - 1 = (n : Int) by omega]
  exact gt_memI (by omega)
theorem AddInv.new {l : List Int} {x : Int} {al o : List Int} {m : Nat} (h : AddInv l x al o) (hm : m < al.length) (hmin : ∀ j : Nat, j < al.length → gt al (m : Int) ≤ gt al (j : Int)) (hn : o.length = 0 ∨ gt o ((o.length : Int) - 1) ≠ gt al (m : Int)) : AddInv l x (rmAt al m) (o ++ [gt al (m : Int)]) := by
  have hlt : ∀ y ∈ o, y < gt al (m : Int) := fun y hy => by
    rcases hn with h0 | h0
    · rw [List.eq_nil_of_length_eq_zero h0] at hy; cases hy
    · have h1 := h.last hy
      have h2 := h.le _ (AddInv.lastMem (by intro e; rw [List.eq_nil_of_length_eq_zero e] at hy; cases hy)) _ (gt_memI hm)
      omega
  refine ⟨List.pairwise_append.2 ⟨h.inc, by simp, fun y hy z hz => by rw [List.mem_singleton.1 hz]; exact hlt y hy⟩, fun y hy z hz => ?_, fun y => ?_, ?_⟩
  · have hz' : z ∈ al := (rmAt_mem hm z).2 (.inr hz)
    rcases List.mem_append.1 hy with hy | hy
    · exact h.le y hy z hz'
    · rw [List.mem_singleton.1 hy]
      obtain ⟨j, hj, rfl⟩ := mem_gt hz'
      exact hmin j hj
  · rw [← h.mem y, rmAt_mem hm y]; simp; grind
  · have := rmAt_len hm; have := h.len; simp; omega
theorem AddInv.old {l : List Int} {x : Int} {al o : List Int} {m : Nat} (h : AddInv l x al o) (hm : m < al.length) (h0 : o.length ≠ 0) (hn : gt o ((o.length : Int) - 1) = gt al (m : Int)) : AddInv l x (rmAt al m) o := by
  refine ⟨h.inc, fun y hy z hz => h.le y hy z ((rmAt_mem hm z).2 (.inr hz)), fun y => ?_, ?_⟩
  · rw [← h.mem y, rmAt_mem hm y]
    have := AddInv.lastMem h0
    rw [hn] at this
    grind
  · have := rmAt_len hm; have := h.len; omega
theorem AddInv.done {l : List Int} {x : Int} {al o : List Int} (h : AddInv l x al o) (h0 : al.length = 0) : o = addF l x := by
  refine inc_extI h.inc (addF_inc l x) fun y => ?_
  rw [addF_mem, ← h.mem y, List.eq_nil_of_length_eq_zero h0]; simp
end Go.Proofs.Ytmjfkjajedhciaa
