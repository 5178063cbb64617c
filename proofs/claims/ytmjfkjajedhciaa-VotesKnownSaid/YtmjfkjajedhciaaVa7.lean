/- VOTES: acknowledgements with one more. -/
import Derived.Test.YtmjfkjajedhciaaVaD
import Derived.Test.YtmjfkjajedhciaaVa6
set_option linter.unusedVariables false
set_option linter.unusedSimpArgs false
set_option maxRecDepth 100000
namespace Go.Proofs.Ytmjfkjajedhciaa
open Go Go.Sx Go.Proofs Go.Sort Go.Lib
theorem reps_pr {w : World} {S : Blocks} : ∀ {xs : List Ack} {cs : List Value}, Reps kAck w S xs cs → cs = pr nv mv xs
  | [], cs, h => by simp only [Reps] at h; subst h; rfl
  | x :: r, cs, ⟨c, t, e, ⟨y, _, h2, _⟩, h4⟩ => by
    rw [e, h2, reps_pr h4]; rfl
theorem pr_reps {w : World} {S : Blocks} : ∀ (xs : List Ack), Reps kAck w S xs (pr nv mv xs)
  | [] => rfl
  | x :: r => ⟨[nv x, mv x], _, rfl, ⟨((), ()), ⟨trivial, trivial⟩, rfl, fun q hq => by cases hq⟩, pr_reps r⟩
section
variable {P : Program} {c : Cx} {n : Nat} {env : List (Nat × Value)} {G G' : List Own} {Q : List Pers} {R : Exit → Asr} {cd : Code} {ops : Array Oper} {rest : List Oper}
theorem GL.repsPr {j : Nat} {xs : List Ack} {cs : List Value} (hj : nthO Q j = some (Pers.reps kAck xs cs)) (k : cs = pr nv mv xs → GL P ops R rest (St c n env G Q)) : GL P ops R rest (St c n env G Q) := fun a w h => by
  obtain ⟨S, hp⟩ := h.per hj
  exact k (reps_pr hp) a w h
theorem GC.repsPr {j : Nat} {xs : List Ack} {cs : List Value} (hj : nthO Q j = some (Pers.reps kAck xs cs)) (k : cs = pr nv mv xs → GC P R cd (St c n env G Q)) : GC P R cd (St c n env G Q) := fun a w h => by
  obtain ⟨S, hp⟩ := h.per hj
  exact k (reps_pr hp) a w h
end
def ddF (xs : List Ack) : List Ack := ddK xs xs.length
theorem dd_small {xs : List Ack} (h : xs.length < 2) : ddF xs = xs := by
  rcases xs with _ | ⟨x, _ | ⟨y, r⟩⟩
  · rfl
  · rfl
  · simp at h; omega
theorem compactA_ct (A : Option Addr) (n cp : Nat) (xs : List Ack) (hn : xs.length = n) (hl : n ≤ 140737488355328) :
    Ct Try.prog 29 [.slice A n cp, cfV] [.row (.slice A n cp) 44 2 n (pr nv mv xs)] []
      (fun u G Q => u = .slice A (ddF xs).length cp ∧ G = [.row (.slice A (ddF xs).length cp) 44 2 (ddF xs).length (pr nv mv (ddF xs))] ∧ Q = []) := by
  subst hn
  by_cases h2 : xs.length < 2
  · rw [dd_small h2]
    refine Ct.intro Try.func29 rfl rfl rfl (fun c hc => ?_)
    refine GC.seq' ?_
    refine GC.region ?_
    refine GL.pure rfl (p_assign rfl) ?_
    refine GL.nil (?_ : GC _ _ _ _)
    refine GC.seq' ?_
    refine GC.seq' ?_
    refine GC.region ?_
    refine GL.pure rfl (p_move rfl) ?_
    refine GL.pure rfl (p_len Try.underlying23 rfl) ?_
    refine GL.pure rfl (p_lss rfl rfl) ?_
    refine GL.nil (?_ : GC _ _ _ _)
    refine GC.cond rfl (fun h1 => ?_) (fun h1 => ?_)
    · try simp only [decide_eq_true_eq, decide_eq_false_iff_not, Bool.not_eq_true', Bool.not_eq_false', Bool.not_true, Bool.not_false, Bool.not_not, ne_eq, Decidable.not_not, Int.not_lt, Int.not_le, gt_iff_lt, ge_iff_le, bool_true_eq_, bool_false_eq_] at h1
      refine GC.seq' ?_
      refine GC.region ?_
      refine GL.pure rfl (p_move rfl) ?_
      refine GL.pure rfl (p_assign rfl) ?_
      refine GL.nil (?_ : GC _ _ _ _)
      refine GC.ret ?_
      refine fun a w h => Fin.back (rs := [.tmp 4]) (vs := [_]) (is := [0]) (js := []) rfl ⟨rfl, trivial⟩ rfl rfl ?_ h
      clear h
      exact ⟨rfl, rfl, rfl⟩
    · try simp only [decide_eq_true_eq, decide_eq_false_iff_not, Bool.not_eq_true', Bool.not_eq_false', Bool.not_true, Bool.not_false, Bool.not_not, ne_eq, Decidable.not_not, Int.not_lt, Int.not_le, gt_iff_lt, ge_iff_le, bool_true_eq_, bool_false_eq_] at h1
      exact absurd h1 (by omega)
  · refine Ct.unrow (fun h0 => by omega) (fun b sp hne hA hlen hcp hmax => ?_)
    subst hA
    exact compactB_ct b cp xs sp (by omega) hl hlen hcp hmax
theorem cmpA_lt (x y : Ack) : cmpA x y < 0 ↔ x.node < y.node ∨ (x.node = y.node ∧ y.num < x.num) := by
  unfold cmpA Lib.compareInt
  by_cases h1 : x.node < y.node
  · simp [h1]
  · by_cases h2 : y.node < x.node
    · simp [h1, h2]; omega
    · have : x.node = y.node := by omega
      by_cases h3 : y.num < x.num
      · simp [this, h3]
      · by_cases h4 : x.num < y.num <;> simp [this, h3, h4]
theorem cmpA_swo {β : Type} (f : β → Ack) : SWO (ltOf fun x y : β => cmpA (f x) (f y)) where
  irrefl x := by simp only [ltOf, cmpA_lt]; simp
  trans x y z h1 h2 := by simp only [ltOf, cmpA_lt, decide_eq_true_eq] at *; omega
  ntrans x y z h1 h2 := by simp only [ltOf, cmpA_lt, decide_eq_false_iff_not] at *; omega
theorem sortA_ct (A : Option Addr) (n cp : Nat) (cs : List Value) (xs : List Ack) (hn : xs.length = n) (hbig : n < 4611686018427387904) :
    Ct Try.prog 25 [.slice A n cp, .func (.func 26) #[] #[]] [.row (.slice A n cp) 44 2 n cs] [Pers.reps kAck xs cs]
      (fun u G Q => ∃ ys cs', (ys.Perm xs ∧ ys.Pairwise fun x y => ¬ cmpA y x < 0) ∧ u = .tuple #[] ∧ G = [.row (.slice A n cp) 44 2 n cs'] ∧ Q = [Pers.reps kAck ys cs']) :=
  ct_sortFunc kAck (by decide) Try.sortAck (fun w => run_aggB ag_44 w) (fun w => run_sizeB sz_44 w) (fun x y => cmpA x y) (cmpA_swo fun p : Ack × kAck.Y => p.1) 26 #[] fn_26 cmpA_calls A n cp _ cs xs hn hbig
end Go.Proofs.Ytmjfkjajedhciaa
