/- VOTES: acknowledgements with one more: the walk of the function. -/
import Derived.Test.YtmjfkjajedhciaaVa8
set_option linter.unusedVariables false
set_option linter.unusedSimpArgs false
set_option maxRecDepth 100000
namespace Go.Proofs.Ytmjfkjajedhciaa
open Go Go.Sx Go.Proofs
theorem cloneA_ct (A : Option Addr) (xs : List Ack) (cp : Nat) (hx : xs.length ≤ 1000000) : Ct Try.prog 24 [.slice A xs.length cp] [] [Pers.row kAck A xs]
    (fun v G Q => ∃ A' cp', xs.length ≤ cp' ∧ cp' ≤ 9223372036854775807 ∧ v = .slice A' xs.length cp' ∧ G = [.row (.slice A' xs.length cp') 44 2 xs.length (pr nv mv xs)] ∧ Q = []) := by
  cases A with
  | none =>
    refine Ct.pure (fun w S h => row_none (h.per _ (List.mem_singleton.2 rfl))) fun hx0 => ?_
    subst hx0
    refine Ct.intro Try.func24 rfl rfl rfl (fun c hc => ?_)
    refine GC.seq' ?_
    refine GC.region ?_
    refine GL.pure rfl (p_assign rfl) ?_
    refine GL.nil (?_ : GC _ _ _ _)
    refine GC.seq' ?_
    refine GC.seq' ?_
    refine GC.region ?_
    refine GL.pure rfl (p_move rfl) ?_
    refine GL.pure rfl (p_slnil_eql Try.underlying23 rfl rfl) ?_
    refine GL.nil (?_ : GC _ _ _ _)
    refine GC.cond_true rfl ?_
    refine GC.seq' ?_
    refine GC.region ?_
    refine GL.pure rfl (p_assign rfl) ?_
    refine GL.nil (?_ : GC _ _ _ _)
    refine GC.nilrow 44 2 ?_
    refine GC.ret ?_
    refine fun a w h => Fin.back (rs := [.tmp 2]) (vs := [_]) (is := [0]) (js := []) rfl ⟨rfl, trivial⟩ rfl rfl ?_ h
    clear h
    exact ⟨_, _, by simp, by simp, rfl, rfl, rfl⟩
  | some a =>
    refine Ct.intro Try.func24 rfl rfl rfl (fun c hc => ?_)
    refine GC.seq' ?_
    refine GC.region ?_
    refine GL.pure rfl (p_assign rfl) ?_
    refine GL.nil (?_ : GC _ _ _ _)
    refine GC.seq' ?_
    refine GC.seq' ?_
    refine GC.region ?_
    refine GL.pure rfl (p_move rfl) ?_
    refine GL.pure rfl (p_slnil_eql Try.underlying23 rfl rfl) ?_
    refine GL.nil (?_ : GC _ _ _ _)
    refine GC.cond_false rfl ?_
    refine GC.skip (?_ : GC _ _ _ _)
    refine GC.seq' ?_
    refine GC.region ?_
    refine GL.step rfl (t_buildSlice rfl Try.underlying23 sz_44 ze_44 rfl rfl rfl rfl rfl rfl) (GL.ex fun b_t5 => ?_)
    refine GL.pure rfl (p_move rfl) ?_
    refine GL.torow (i := 0) (m := 0) (sz := 2) rfl rfl (by decide) rfl ?_
    refine GL.step rfl (t_appendR (i := 0) (k := 0) rfl el_23 rfl rfl rfl rfl (by omega) (fun _ _ => rfl)) (GL.ex fun v7 => GL.ex fun nw_7 => ?_)
    refine GL.pure rfl (p_assign rfl) ?_
    refine GL.nil (?_ : GC _ _ _ _)
    refine GC.repsPr (j := 0) rfl (fun e_cs => ?_)
    subst e_cs
    refine GC.rowIs (i := 0) (m' := xs.length) (cs' := pr nv mv xs) rfl (by simp) (by simp) rfl ?_
    refine GC.shape (i := 0) rfl (fun A1 c1 e1 l1 l2 => ?_)
    subst e1
    refine GC.ret ?_
    refine fun a w h => Fin.back (rs := [.tmp 2]) (vs := [_]) (is := [0]) (js := []) rfl ⟨rfl, trivial⟩ rfl rfl ?_ h
    clear h
    exact ⟨_, _, l1, l2, rfl, rfl, rfl⟩
theorem GLprReps {P : Program} {c : Cx} {n : Nat} {env : List (Nat × Value)} {G : List Own} {Q : List Pers} {R : Exit → Asr} {ops : Array Oper} {rest : List Oper} (xs : List Ack) (k : GL P ops R rest (St c n env G (Pers.reps kAck xs (pr nv mv xs) :: Q))) : GL P ops R rest (St c n env G Q) :=
  GL.know (q := Pers.reps kAck xs (pr nv mv xs)) (fun w S _ => pr_reps xs) k
theorem GCprReps {P : Program} {c : Cx} {n : Nat} {env : List (Nat × Value)} {G : List Own} {Q : List Pers} {R : Exit → Asr} {cd : Code} (xs : List Ack) (k : GC P R cd (St c n env G (Pers.reps kAck xs (pr nv mv xs) :: Q))) : GC P R cd (St c n env G Q) :=
  GC.know (q := Pers.reps kAck xs (pr nv mv xs)) (fun w S _ => pr_reps xs) k
theorem ack_ct (A : Option Addr) (l : List Ack) (cp : Nat) (node num : Int) (hl : l.length ≤ 100000) : Ct Try.prog 13 [.slice A l.length cp, .int .i64 node, .int .i64 num] [] [Pers.row kAck A l]
    (fun u G Q => ∃ R cs, u = .slice R (ackF l node num).length cs ∧ G = [] ∧ Q = [Pers.row kAck R (ackF l node num)]) := by
  have hal : (alA l node num).length = l.length + 1 := by simp
  refine Ct.intro Try.func13 rfl rfl rfl (fun c hc => ?_)
  refine GC.seq' ?_
  refine GC.region ?_
  refine GL.pure rfl (p_assign rfl) ?_
  refine GL.nil (?_ : GC _ _ _ _)
  refine GC.seq' ?_
  refine GC.region ?_
  refine GL.pure rfl (p_move rfl) ?_
  refine GL.step rfl (t_call rfl fn_24 rfl (is := []) (js := [0]) rfl rfl (by exact cloneA_ct _ _ _ (by first | assumption | omega))) (GL.ret ?_)
  rintro _ _ _ ⟨A9, cp9, l9, k9, rfl, rfl, rfl⟩
  refine GL.pure rfl (p_move rfl) ?_
  refine GL.pure rfl (p_move rfl) ?_
  refine GL.pure rfl (p_build ze_44 of_44 rfl rfl) ?_
  refine GL.step rfl (t_buildSlice rfl Try.underlying23 sz_44 ze_44 rfl rfl rfl rfl rfl rfl) (GL.ex fun b_t13 => ?_)
  refine GL.step rfl (t_append (i := 1) (k := 0) rfl el_23 rfl rfl rfl rfl rfl (allOne_mem rfl) (by omega) (fun _ => rfl)) (GL.ex fun v14 => ?_)
  refine GL.rowIs (i := 1) (m' := (alA l node num).length) (cs' := pr nv mv (alA l node num)) rfl (by simp) (by rw [pr_app]; rfl) rfl ?_
  refine GL.shape (i := 1) rfl (fun A_u c_u e_u l_u k_u => ?_)
  subst e_u
  refine GL.pure rfl (p_assign rfl) ?_
  refine GL.nil (?_ : GC _ _ _ _)
  refine GC.seq' ?_
  refine GC.region ?_
  refine GL.pure rfl (p_move rfl) ?_
  refine GLprReps (alA l node num) ?_
  refine GL.step rfl (t_call rfl fn_25 rfl (is := [1]) (js := [0]) rfl rfl (by exact sortA_ct _ _ _ _ (alA l node num) rfl (by omega))) (GL.ret ?_)
  rintro _ _ _ ⟨ys16, cs16, hs16, rfl, rfl, rfl⟩
  refine GL.nil (?_ : GC _ _ _ _)
  refine GC.seq' ?_
  refine GC.region ?_
  refine GL.pure rfl (p_move rfl) ?_
  refine GL.repsPr (j := 0) rfl (fun e_cs => ?_)
  subst e_cs
  have hyl := hs16.1.length_eq
  refine GL.step rfl (t_call rfl fn_29 rfl (is := [0]) (js := []) rfl rfl (by exact compactA_ct _ _ _ ys16 hyl (by omega))) (GL.ret ?_)
  rintro _ _ _ ⟨rfl, rfl, rfl⟩
  refine GL.pure rfl (p_assign rfl) ?_
  refine GL.nil (?_ : GC _ _ _ _)
  rw [show ddF ys16 = ackF l node num from dd_ack hs16.1 hs16.2]
  refine GCprReps (ackF l node num) ?_
  refine GC.freezeR (i := 0) (j := 0) rfl rfl (by decide) ?_
  refine GC.ret ?_
  refine fun a w h => Fin.back (rs := [.tmp 6]) (vs := [_]) (is := []) (js := [0]) rfl ⟨rfl, trivial⟩ rfl rfl ?_ h
  clear h
  exact ⟨_, _, rfl, rfl, rfl⟩
end Go.Proofs.Ytmjfkjajedhciaa
