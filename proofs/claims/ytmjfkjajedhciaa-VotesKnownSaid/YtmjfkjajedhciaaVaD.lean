/- VOTES: the order of acknowledgements. -/
import Derived.Test.YtmjfkjajedhciaaVa3
import Derived.Test.YtmjfkjajedhciaaLy
import Derived.Handy
import Derived.Test.YtmjfkjajedhciaaSx22
set_option linter.unusedVariables false
set_option linter.unusedSimpArgs false
set_option maxRecDepth 100000
namespace Go.Proofs.Ytmjfkjajedhciaa
open Go Go.Sx Go.Proofs Go.Sort Go.Lib
theorem or_calls (x y : Int) (g : Nat) (el : TypeId) (fr : Nat × Nat) (W : World) (hb : W.heap[g]? = some (.cells #[.int .i64 x, .int .i64 y] el fr)) : Calls Try.prog 27 #[.slice (some ⟨g, 0, none⟩) 2 2] W fun e w' => e = .returned (.int .i64 (if x = 0 then y else x)) ∧ ∃ q os', w' = grow (W.drewN q) os' := by
  have h0 : W.cell? ⟨g, 0, none⟩ = some (.int .i64 x) := by simp [World.cell?, hb]
  have h1 : W.cell? ⟨g, 1, none⟩ = some (.int .i64 y) := by simp [World.cell?, hb]
  clear hb
  by_cases hx : x = 0
  · subst hx
    by_cases hy : y = 0
    · subst hy
      go_enter Try.func27, Try.ntmps27
      go_wp2
      go_rounds 3
      go_ret
      exact ⟨rfl, 0, #[], by simp [grow, World.drewN_zero]⟩
    · go_enter Try.func27, Try.ntmps27
      go_wp2
      go_rounds 3
      all_goals first | (exfalso; simp_all; done) | (go_ret; exact ⟨by simp, 0, #[], by simp [grow, World.drewN_zero]⟩)
  · go_enter Try.func27, Try.ntmps27
    go_wp2
    go_rounds 2
    all_goals first | (exfalso; simp_all; done) | (go_ret; exact ⟨by simp [hx], 0, #[], by simp [grow, World.drewN_zero]⟩)
instance : Inhabited kAck.Y := ⟨((), ())⟩
def cmpA (x y : Ack) : Int := if Lib.compareInt x.node y.node = 0 then Lib.compareInt y.num x.num else Lib.compareInt x.node y.node
theorem cmpA_calls (x y : Ack × kAck.Y) (W : World) : Calls Try.prog 26 (#[.agg (kAck.cells x.1 x.2).toArray, .agg (kAck.cells y.1 y.2).toArray] ++ #[]) W fun e w' => e = .returned (.int .i64 (cmpA x.1 y.1)) ∧ ∃ q os', w' = grow (W.drewN q) os' := by
  obtain ⟨⟨n1, m1⟩, ⟨⟨⟩, ⟨⟩⟩⟩ := x
  obtain ⟨⟨n2, m2⟩, ⟨⟨⟩, ⟨⟩⟩⟩ := y
  show Calls Try.prog 26 #[.agg #[.int .i64 n1, .int .i64 m1], .agg #[.int .i64 n2, .int .i64 m2]] W fun e w' => e = .returned (.int .i64 (if Lib.compareInt n1 n2 = 0 then Lib.compareInt m2 m1 else Lib.compareInt n1 n2)) ∧ ∃ q os', w' = grow (W.drewN q) os'
  have hcmp : ∀ (i j : Int) (w : World), Calls Try.prog 28 #[.int .i64 i, .int .i64 j] w fun e w' => e = .returned (.int .i64 (Lib.compareInt i j)) ∧ IW w w' := fun i j w => (AnyG.cmp_Compare_int Try.cmpInt i j w).mono (by rintro e w' ⟨h, rfl⟩; exact ⟨h, IW.refl _⟩)
  go_enter Try.func26, Try.ntmps26
  go_wp2
  rename_i Q' K hK
  generalize hW : (W.alloc (Obj.cells #[Value.int IntKind.i64 n1, Value.int IntKind.i64 m1] 44)).alloc (Obj.cells #[Value.int IntKind.i64 n2, Value.int IntKind.i64 m2] 44) = W2
  have hg : W2 = grow W #[Obj.cells #[Value.int IntKind.i64 n1, Value.int IntKind.i64 m1] 44, Obj.cells #[Value.int IntKind.i64 n2, Value.int IntKind.i64 m2] 44] := by rw [← hW, alloc_eq_grow, alloc_eq_grow, grow_grow]; rfl
  have hb1 : W2.heap[W.heap.size]? = some (.cells [Value.int IntKind.i64 n1, Value.int IntKind.i64 m1].toArray 44 (0, 0)) := by
    rw [hg]; unfold grow; simp only [Array.getElem?_append, Nat.lt_irrefl, if_false, Nat.sub_self]; rfl
  have hb2 : W2.heap[W.heap.size + 1]? = some (.cells [Value.int IntKind.i64 n2, Value.int IntKind.i64 m2].toArray 44 (0, 0)) := by
    rw [hg]; unfold grow; simp only [Array.getElem?_append, show ¬ W.heap.size + 1 < W.heap.size by omega, if_false, Nat.add_sub_cancel_left]; rfl
  clear hW
  refine GC.regionA (P := Try.prog) (A := XS W2 17 [(2, .pointer (some ⟨W.heap.size, 0, none⟩)), (3, .pointer (some ⟨W.heap.size + 1, 0, none⟩))]) (M := fun a w => ∃ e, XS W2 17 ((4, .int .i64 (if Lib.compareInt n1 n2 = 0 then Lib.compareInt m2 m1 else Lib.compareInt n1 n2)) :: e) a w) (I := IW W2) wide_ rfl (fun a w h => ⟨h.1, h.2.drew⟩) ?_ ?_ _ _ ?_
  · refine XA.take 0 rfl (by kernel_rfl) (by kernel_rfl) (by kernel_rfl) rfl (i_pure (p_fieldAddr fo_44_0 rfl)) ?_
    refine XA.take 1 rfl (by kernel_rfl) (by kernel_rfl) (by kernel_rfl) rfl (x_load (o := 0) hb1 rfl ag_3 rfl) ?_
    refine XA.take 2 rfl (by kernel_rfl) (by kernel_rfl) (by kernel_rfl) rfl (i_pure (p_fieldAddr fo_44_0 rfl)) ?_
    refine XA.take 3 rfl (by kernel_rfl) (by kernel_rfl) (by kernel_rfl) rfl (x_load (o := 0) hb2 rfl ag_3 rfl) ?_
    refine XA.take 5 rfl (by kernel_rfl) (by kernel_rfl) (by kernel_rfl) rfl (i_pure (p_fieldAddr fo_44_1 rfl)) ?_
    refine XA.take 6 rfl (by kernel_rfl) (by kernel_rfl) (by kernel_rfl) rfl (x_load (o := 1) hb2 rfl ag_3 rfl) ?_
    refine XA.take 7 rfl (by kernel_rfl) (by kernel_rfl) (by kernel_rfl) rfl (i_pure (p_fieldAddr fo_44_1 rfl)) ?_
    refine XA.take 8 rfl (by kernel_rfl) (by kernel_rfl) (by kernel_rfl) rfl (x_load (o := 1) hb1 rfl ag_3 rfl) ?_
    refine GA.all (rs := [4]) (by kernel_rfl) (by simp) ?_
    refine GAs.cons (i := 4) rfl rfl (x_call rfl fn_28 rfl (fun _ _ h => h) (fun _ w h => hcmp n1 n2 w)) (fun a w h => h.2) ?_ GAs.nil
    refine GA.all (rs := [9]) (by kernel_rfl) (by simp) ?_
    refine GAs.cons (i := 9) rfl rfl (x_call rfl fn_28 rfl (fun _ _ h => h) (fun _ w h => hcmp m2 m1 w)) (fun a w h => h.2) ?_ GAs.nil
    refine GA.all (rs := [10]) (by kernel_rfl) (by simp) ?_
    refine GAs.cons (i := 10) rfl rfl (x_buildSlice rfl Try.underlying22 sz_3 ze_3 rfl rfl rfl rfl (by decide) rfl rfl) (fun a w ⟨_, h, _⟩ => h.2) (GA.ex fun g => ?_) GAs.nil
    refine GA.all (rs := [11]) (by kernel_rfl) (by simp) ?_
    refine GAs.cons (i := 11) rfl rfl (x_call rfl fn_27 rfl (fun _ _ h => h.1) (fun _ w h => or_calls _ _ g _ _ w h.2)) (fun a w h => h.2) ?_ GAs.nil
    refine XA.take 12 rfl (by kernel_rfl) (by kernel_rfl) (by kernel_rfl) rfl (i_pure (p_assign rfl)) ?_
    exact GA.done (by kernel_rfl) (fun a w h => ⟨_, h⟩)
  · rintro a w ⟨e, he, hi⟩
    refine hK a w (wp_ret ?_)
    refine bodyPost_ret (results_tmp rfl _ _ _) he.defers ⟨?_, ?_⟩
    · have := he.has 4 _ rfl
      simp [this]
    · have hi0 : IW W W2 := ⟨0, _, by rw [World.drewN_zero]; exact hg⟩
      exact hi0.trans hi
  · refine ⟨⟨rfl, rfl, fun i v h => ?_⟩, IW.refl _⟩
    rcases i with _ | _ | _ | _ | i
    · cases h
    · cases h
    · exact h
    · exact h
    · cases h
end Go.Proofs.Ytmjfkjajedhciaa
