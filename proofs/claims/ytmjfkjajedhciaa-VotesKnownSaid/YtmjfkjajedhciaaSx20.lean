/- ROWS OF ONE's OWN as blocks, in the midst of a walk. Plain theorems over any program. -/
import Derived.Test.YtmjfkjajedhciaaSx18
set_option linter.unusedVariables false
set_option linter.unusedSimpArgs false
namespace Go.Sx
open Go Go.Proofs
section
variable {P : Program} {c : Cx} {n : Nat} {env : List (Nat × Value)} {G G' : List Own} {Q : List Pers} {R : Exit → Asr} {cd : Code} {ops : Array Oper} {rest : List Oper} {a : Act} {w : World}
theorem St.recastW {i : Nat} {o o' : Own} (h : St c n env G Q a w) (hi : nthO G i = some o) (hr : repl G i o' = some G') (hk : o'.keys = o.keys) (ho : o.holds w → o'.holds w) : St c n env G' Q a w := by
  obtain ⟨S, he, hh, hrel⟩ := h
  have hn : o'.keys.Nodup := by
    rw [hk]
    obtain ⟨x, y, rfl, _⟩ := repl_split hi hr
    have := hh.nod
    simp only [keysOf, List.flatMap_append, List.flatMap_cons, List.nodup_append] at this
    exact this.2.1.1
  exact St.write ⟨S, he, hh, hrel⟩ hi hr (Fr.refl _ _) (ho (hh.own o (nthO_mem hi))) (fun k hkk => .inl (hk ▸ hkk)) hn he
theorem GL.unrow {i m cp e sz : Nat} {A : Option Addr} {cs : List Value} {F : Nat → List Value → List Own} (hi : nthO G i = some (.row (.slice A m cp) e sz m cs)) (hm : m ≠ 0) (hr : ∀ b sp, repl G i (.cells b (cs ++ sp) e) = some (F b sp))
    (k : ∀ b sp, A = some ⟨b, 0, none⟩ → (cs ++ sp).length = cp * sz → m ≤ cp → cp ≤ 9223372036854775807 → GL P ops R rest (St c n env (F b sp) Q)) : GL P ops R rest (St c n env G Q) := fun a w h => by
  obtain ⟨b, sp, hA, g1, g2, g3, g4⟩ := ownsRow_cells (h.own hi) hm
  exact k b sp hA g1 g2 g3 a w (h.recastW hi (hr b sp) (by rw [hA]; rfl) (fun _ => g4))
theorem GC.unrow {i m cp e sz : Nat} {A : Option Addr} {cs : List Value} {F : Nat → List Value → List Own} (hi : nthO G i = some (.row (.slice A m cp) e sz m cs)) (hm : m ≠ 0) (hr : ∀ b sp, repl G i (.cells b (cs ++ sp) e) = some (F b sp))
    (k : ∀ b sp, A = some ⟨b, 0, none⟩ → (cs ++ sp).length = cp * sz → m ≤ cp → cp ≤ 9223372036854775807 → GC P R cd (St c n env (F b sp) Q)) : GC P R cd (St c n env G Q) := fun a w h => by
  obtain ⟨b, sp, hA, g1, g2, g3, g4⟩ := ownsRow_cells (h.own hi) hm
  exact k b sp hA g1 g2 g3 a w (h.recastW hi (hr b sp) (by rw [hA]; rfl) (fun _ => g4))
/-- A row said in other words. -/
theorem St.rowIs {i m m' e sz : Nat} {v : Value} {cs cs' : List Value} (h : St c n env G Q a w) (hi : nthO G i = some (.row v e sz m cs)) (hm : m = m') (hc : cs = cs') (hr : repl G i (.row v e sz m' cs') = some G') : St c n env G' Q a w :=
  h.recast hi hr rfl (fun w h => by subst hm hc; exact h)
theorem GL.rowIs {i m m' e sz : Nat} {v : Value} {cs cs' : List Value} (hi : nthO G i = some (.row v e sz m cs)) (hm : m = m') (hc : cs = cs') (hr : repl G i (.row v e sz m' cs') = some G') (k : GL P ops R rest (St c n env G' Q)) : GL P ops R rest (St c n env G Q) := GL.imp (fun a w h => h.rowIs hi hm hc hr) k
theorem GC.rowIs {i m m' e sz : Nat} {v : Value} {cs cs' : List Value} (hi : nthO G i = some (.row v e sz m cs)) (hm : m = m') (hc : cs = cs') (hr : repl G i (.row v e sz m' cs') = some G') (k : GC P R cd (St c n env G' Q)) : GC P R cd (St c n env G Q) := GC.imp (fun a w h => h.rowIs hi hm hc hr) k
theorem GA.rowIs {M : Asr} {I : World → Prop} {fuel : Nat} {listed : Array Bool} {i m m' e sz : Nat} {v : Value} {cs cs' : List Value} (hi : nthO G i = some (.row v e sz m cs)) (hm : m = m') (hc : cs = cs') (hr : repl G i (.row v e sz m' cs') = some G') (k : GA P ops M I fuel listed (St c n env G' Q)) : GA P ops M I fuel listed (St c n env G Q) := GA.st (fun a w h => h.rowIs hi hm hc hr) k
end
end Go.Sx
