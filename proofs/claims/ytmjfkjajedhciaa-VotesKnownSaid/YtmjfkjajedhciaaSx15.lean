/- LOOPS THAT KEEP WHAT THEY DO NOT TURN; regions of any order that go on at each leaf. Plain theorems over any program. -/
import Derived.Test.YtmjfkjajedhciaaSx14
set_option linter.unusedVariables false
set_option linter.unusedSimpArgs false
namespace Go.Sx
open Go
def kept (env : List (Nat × Value)) : List Nat → Option (List (Nat × Value))
  | [] => some []
  | i :: is => match look env i, kept env is with
    | some v, some r => some ((i, v) :: r)
    | _, _ => none
theorem kept_sub {env : List (Nat × Value)} : ∀ {is : List Nat} {e : List (Nat × Value)}, kept env is = some e → sub env e
  | [], e, h => by simp only [kept, Option.some.injEq] at h; subst h; trivial
  | i :: is, e, h => by
    simp only [kept] at h
    split at h
    · rename_i v r h1 h2
      simp only [Option.some.injEq] at h
      subst h
      exact ⟨h1, kept_sub h2⟩
    · cases h
theorem sub_app {env : List (Nat × Value)} : ∀ {a b : List (Nat × Value)}, sub env a → sub env b → sub env (a ++ b)
  | [], b, _, h => h
  | (i, v) :: r, b, ⟨h1, h2⟩, h => ⟨h1, sub_app h2 h⟩
section
variable {P : Program} {c : Cx} {n : Nat} {env env' envK E : List (Nat × Value)} {G G' Gr GK : List Own} {Q Q' QK : List Pers} {a : Act} {w : World}
theorem St.cutK {is js ks : List Nat} (h : St c n env G Q a w) (hs : Sx.sub env E) (hk : kept env ks = some envK) (hsel : sel G is = some (G', Gr)) (hq : pickQ Q js = some Q') : St c n (E ++ envK) G' Q' a w :=
  h.cut (sub_app hs (kept_sub hk)) hsel hq
theorem GC.regionC {R : Exit → Asr} {id m : Nat} {l : List Oper} {is js : List Nat} {GI : List Own} {QI : List Pers} (hm : P.follows .mixedOrders = true) (hsz : l.length = m) (hsel : sel G is = some (GI, Gr)) (hq : pickQ Q js = some QI) (h : GA P l.toArray (R .normal) (Mem c GI QI) m (Array.replicate m false) (St c n env G Q)) : GC P R (.region id l.toArray true) (St c n env G Q) :=
  GC.regionM hm hsz hsel hq h fun _ _ h => h
theorem GA.retL {ops : Array Oper} {M : Asr} {I : World → Prop} {fuel : Nat} {listed : Array Bool} {F : Value → List Own → List Pers → Prop} {Z : Value → List Own → Asr} (k : ∀ v G2, F v G2 [] → GA P ops M I fuel listed (Z v G2)) : GA P ops M I fuel listed (fun a w => ∃ v G2, F v G2 [] ∧ Z v G2 a w) := fun a w ⟨v, G2, hF, hZ⟩ => k v G2 hF a w hZ
theorem GC.layQ {α : Type} {kd : Kd α} {R : Exit → Asr} {cd : Code} {y : Operand} {j : Nat} {k : IntKind} {m : Int} {A : Option Addr} {xs : List α} {z : α} (hy : ev env y = some (.int k m)) (hj : nthO Q j = some (Pers.row kd A xs)) (h0 : 0 ≤ m) (hz : xs[m.toNat]? = some z)
    (kk : ∀ p r, A = some p → kd.ok z r → GC P R cd (St c n env G (Pers.at (p.add (m.toNat * kd.sz)) (kd.cells z r) :: (kd.pers z r ++ Q)))) : GC P R cd (St c n env G Q) :=
  GC.lay (x := .const (.slice A xs.length 0)) (y := y) rfl hy hj h0 hz kk
section
variable {ops : Array Oper} {M A B : Asr} {I : World → Prop} {fuel : Nat} {listed : Array Bool}
theorem GA.st (h : ∀ a w, St c n env G Q a w → St c n env' G' Q' a w) (k : GA P ops M I fuel listed (St c n env' G' Q')) : GA P ops M I fuel listed (St c n env G Q) := GA.imp h k
theorem GA.snoc {α : Type} {kd : Kd α} {xs : List α} {cs : List Value} {j : Nat} {js : List Nat} (z : α) (r : kd.Y) (hj : nthO Q j = some (Pers.reps kd xs cs)) (hq : pickQ Q js = some (kd.pers z r)) (hok : kd.ok z r)
    (k : GA P ops M I fuel listed (St c n env G (Pers.reps kd (xs ++ [z]) (cs ++ kd.cells z r) :: Q))) : GA P ops M I fuel listed (St c n env G Q) := GA.imp (fun a w h => h.snoc hj hq hok) k
theorem GA.freezeR {α : Type} {kd : Kd α} {i j e m cp : Nat} {A : Option Addr} {xs : List α} {cs : List Value} (ht : takeO G i = some (.row (.slice A m cp) e kd.sz m cs, G')) (hj : nthO Q j = some (Pers.reps kd xs cs)) (hp : 0 < kd.sz)
    (k : GA P ops M I fuel listed (St c n env G' (Pers.row kd A xs :: Q))) : GA P ops M I fuel listed (St c n env G Q) := GA.imp (fun a w h => h.freezeR ht hj hp) k
end
theorem GC.post {x : Code} {R R' : Exit → Asr} {A : Asr} (h : GC P R x A) (hr : ∀ e a w, R e a w → R' e a w) : GC P R' x A := fun a w ha => Code.wp_mono (fun e a w he => hr e a w he) (h a w ha)
theorem Exit.then_mono {M M' : Asr} {R : Exit → Asr} (h : ∀ a w, M a w → M' a w) : ∀ e a w, Exit.then M R e a w → Exit.then M' R e a w := by
  intro e a w he
  cases e <;> first | exact h a w he | exact he
section
variable {α β γ δ ε ζ η θ : Type} {x : Code} {R : Exit → Asr} {ks is js : List Nat}
theorem GC.loopK1 (φ : α → Prop) (F : α → List (Nat × Value)) (GF : α → List Own) (QF : α → List Pers) (μ : α → Nat) (y : α) (hK : kept env ks = some envK) (hG : pickQ G is = some GK) (hQ : pickQ Q js = some QK)
    (h0 : ∀ a w, St c n env G Q a w → φ y ∧ St c n (F y ++ envK) (GF y ++ GK) (QF y ++ QK) a w)
    (h : ∀ y, φ y → GC P (Exit.then (fun a w => ∃ z, μ z < μ y ∧ φ z ∧ St c n (F z ++ envK) (GF z ++ GK) (QF z ++ QK) a w) R) x (St c n (F y ++ envK) (GF y ++ GK) (QF y ++ QK))) : GC P R (.loop x) (St c n env G Q) :=
  GC.imp h0 (GC.loop (fun y a w => φ y ∧ St c n (F y ++ envK) (GF y ++ GK) (QF y ++ QK) a w) μ y fun y => GC.and fun hy => h y hy)
theorem GC.loopK2 (φ : α → β → Prop) (F : α → β → List (Nat × Value)) (GF : α → β → List Own) (QF : α → β → List Pers) (μ : α → β → Nat) (y1 : α) (y2 : β) (hK : kept env ks = some envK) (hG : pickQ G is = some GK) (hQ : pickQ Q js = some QK)
    (h0 : ∀ a w, St c n env G Q a w → φ y1 y2 ∧ St c n (F y1 y2 ++ envK) (GF y1 y2 ++ GK) (QF y1 y2 ++ QK) a w)
    (h : ∀ y1 y2, φ y1 y2 → GC P (Exit.then (fun a w => ∃ z1 z2, μ z1 z2 < μ y1 y2 ∧ φ z1 z2 ∧ St c n (F z1 z2 ++ envK) (GF z1 z2 ++ GK) (QF z1 z2 ++ QK) a w) R) x (St c n (F y1 y2 ++ envK) (GF y1 y2 ++ GK) (QF y1 y2 ++ QK))) : GC P R (.loop x) (St c n env G Q) :=
  GC.loopK1 (fun y : α × β => φ y.1 y.2) (fun y => F y.1 y.2) (fun y => GF y.1 y.2) (fun y => QF y.1 y.2) (fun y => μ y.1 y.2) (y1, y2) hK hG hQ h0 fun y hy => GC.post (h y.1 y.2 hy) (Exit.then_mono fun a w ⟨z1, z2, hz⟩ => ⟨(z1, z2), hz⟩)
theorem GC.loopK3 (φ : α → β → γ → Prop) (F : α → β → γ → List (Nat × Value)) (GF : α → β → γ → List Own) (QF : α → β → γ → List Pers) (μ : α → β → γ → Nat) (y1 : α) (y2 : β) (y3 : γ) (hK : kept env ks = some envK) (hG : pickQ G is = some GK) (hQ : pickQ Q js = some QK)
    (h0 : ∀ a w, St c n env G Q a w → φ y1 y2 y3 ∧ St c n (F y1 y2 y3 ++ envK) (GF y1 y2 y3 ++ GK) (QF y1 y2 y3 ++ QK) a w)
    (h : ∀ y1 y2 y3, φ y1 y2 y3 → GC P (Exit.then (fun a w => ∃ z1 z2 z3, μ z1 z2 z3 < μ y1 y2 y3 ∧ φ z1 z2 z3 ∧ St c n (F z1 z2 z3 ++ envK) (GF z1 z2 z3 ++ GK) (QF z1 z2 z3 ++ QK) a w) R) x (St c n (F y1 y2 y3 ++ envK) (GF y1 y2 y3 ++ GK) (QF y1 y2 y3 ++ QK))) : GC P R (.loop x) (St c n env G Q) :=
  GC.loopK2 (fun (y : α × β) z => φ y.1 y.2 z) (fun y => F y.1 y.2) (fun y => GF y.1 y.2) (fun y => QF y.1 y.2) (fun y => μ y.1 y.2) (y1, y2) y3 hK hG hQ h0 fun y y3 hy => GC.post (h y.1 y.2 y3 hy) (Exit.then_mono fun a w ⟨z1, z2, z3, hz⟩ => ⟨(z1, z2), z3, hz⟩)
theorem GC.loopK4 (φ : α → β → γ → δ → Prop) (F : α → β → γ → δ → List (Nat × Value)) (GF : α → β → γ → δ → List Own) (QF : α → β → γ → δ → List Pers) (μ : α → β → γ → δ → Nat) (y1 : α) (y2 : β) (y3 : γ) (y4 : δ) (hK : kept env ks = some envK) (hG : pickQ G is = some GK) (hQ : pickQ Q js = some QK)
    (h0 : ∀ a w, St c n env G Q a w → φ y1 y2 y3 y4 ∧ St c n (F y1 y2 y3 y4 ++ envK) (GF y1 y2 y3 y4 ++ GK) (QF y1 y2 y3 y4 ++ QK) a w)
    (h : ∀ y1 y2 y3 y4, φ y1 y2 y3 y4 → GC P (Exit.then (fun a w => ∃ z1 z2 z3 z4, μ z1 z2 z3 z4 < μ y1 y2 y3 y4 ∧ φ z1 z2 z3 z4 ∧ St c n (F z1 z2 z3 z4 ++ envK) (GF z1 z2 z3 z4 ++ GK) (QF z1 z2 z3 z4 ++ QK) a w) R) x (St c n (F y1 y2 y3 y4 ++ envK) (GF y1 y2 y3 y4 ++ GK) (QF y1 y2 y3 y4 ++ QK))) : GC P R (.loop x) (St c n env G Q) :=
  GC.loopK3 (fun (y : α × β) z => φ y.1 y.2 z) (fun y => F y.1 y.2) (fun y => GF y.1 y.2) (fun y => QF y.1 y.2) (fun y => μ y.1 y.2) (y1, y2) y3 y4 hK hG hQ h0 fun y y3 y4 hy => GC.post (h y.1 y.2 y3 y4 hy) (Exit.then_mono fun a w ⟨z1, z2, z3, z4, hz⟩ => ⟨(z1, z2), z3, z4, hz⟩)
theorem GC.loopK5 (φ : α → β → γ → δ → ε → Prop) (F : α → β → γ → δ → ε → List (Nat × Value)) (GF : α → β → γ → δ → ε → List Own) (QF : α → β → γ → δ → ε → List Pers) (μ : α → β → γ → δ → ε → Nat) (y1 : α) (y2 : β) (y3 : γ) (y4 : δ) (y5 : ε) (hK : kept env ks = some envK) (hG : pickQ G is = some GK) (hQ : pickQ Q js = some QK)
    (h0 : ∀ a w, St c n env G Q a w → φ y1 y2 y3 y4 y5 ∧ St c n (F y1 y2 y3 y4 y5 ++ envK) (GF y1 y2 y3 y4 y5 ++ GK) (QF y1 y2 y3 y4 y5 ++ QK) a w)
    (h : ∀ y1 y2 y3 y4 y5, φ y1 y2 y3 y4 y5 → GC P (Exit.then (fun a w => ∃ z1 z2 z3 z4 z5, μ z1 z2 z3 z4 z5 < μ y1 y2 y3 y4 y5 ∧ φ z1 z2 z3 z4 z5 ∧ St c n (F z1 z2 z3 z4 z5 ++ envK) (GF z1 z2 z3 z4 z5 ++ GK) (QF z1 z2 z3 z4 z5 ++ QK) a w) R) x (St c n (F y1 y2 y3 y4 y5 ++ envK) (GF y1 y2 y3 y4 y5 ++ GK) (QF y1 y2 y3 y4 y5 ++ QK))) : GC P R (.loop x) (St c n env G Q) :=
  GC.loopK4 (fun (y : α × β) z => φ y.1 y.2 z) (fun y => F y.1 y.2) (fun y => GF y.1 y.2) (fun y => QF y.1 y.2) (fun y => μ y.1 y.2) (y1, y2) y3 y4 y5 hK hG hQ h0 fun y y3 y4 y5 hy => GC.post (h y.1 y.2 y3 y4 y5 hy) (Exit.then_mono fun a w ⟨z1, z2, z3, z4, z5, hz⟩ => ⟨(z1, z2), z3, z4, z5, hz⟩)
theorem GC.loopK6 (φ : α → β → γ → δ → ε → ζ → Prop) (F : α → β → γ → δ → ε → ζ → List (Nat × Value)) (GF : α → β → γ → δ → ε → ζ → List Own) (QF : α → β → γ → δ → ε → ζ → List Pers) (μ : α → β → γ → δ → ε → ζ → Nat) (y1 : α) (y2 : β) (y3 : γ) (y4 : δ) (y5 : ε) (y6 : ζ) (hK : kept env ks = some envK) (hG : pickQ G is = some GK) (hQ : pickQ Q js = some QK)
    (h0 : ∀ a w, St c n env G Q a w → φ y1 y2 y3 y4 y5 y6 ∧ St c n (F y1 y2 y3 y4 y5 y6 ++ envK) (GF y1 y2 y3 y4 y5 y6 ++ GK) (QF y1 y2 y3 y4 y5 y6 ++ QK) a w)
    (h : ∀ y1 y2 y3 y4 y5 y6, φ y1 y2 y3 y4 y5 y6 → GC P (Exit.then (fun a w => ∃ z1 z2 z3 z4 z5 z6, μ z1 z2 z3 z4 z5 z6 < μ y1 y2 y3 y4 y5 y6 ∧ φ z1 z2 z3 z4 z5 z6 ∧ St c n (F z1 z2 z3 z4 z5 z6 ++ envK) (GF z1 z2 z3 z4 z5 z6 ++ GK) (QF z1 z2 z3 z4 z5 z6 ++ QK) a w) R) x (St c n (F y1 y2 y3 y4 y5 y6 ++ envK) (GF y1 y2 y3 y4 y5 y6 ++ GK) (QF y1 y2 y3 y4 y5 y6 ++ QK))) : GC P R (.loop x) (St c n env G Q) :=
  GC.loopK5 (fun (y : α × β) => φ y.1 y.2) (fun y => F y.1 y.2) (fun y => GF y.1 y.2) (fun y => QF y.1 y.2) (fun y => μ y.1 y.2) (y1, y2) y3 y4 y5 y6 hK hG hQ h0 fun y y3 y4 y5 y6 hy => GC.post (h y.1 y.2 y3 y4 y5 y6 hy) (Exit.then_mono fun a w ⟨z1, z2, z3, z4, z5, z6, hz⟩ => ⟨(z1, z2), z3, z4, z5, z6, hz⟩)
theorem GC.loopK7 (φ : α → β → γ → δ → ε → ζ → η → Prop) (F : α → β → γ → δ → ε → ζ → η → List (Nat × Value)) (GF : α → β → γ → δ → ε → ζ → η → List Own) (QF : α → β → γ → δ → ε → ζ → η → List Pers) (μ : α → β → γ → δ → ε → ζ → η → Nat) (y1 : α) (y2 : β) (y3 : γ) (y4 : δ) (y5 : ε) (y6 : ζ) (y7 : η) (hK : kept env ks = some envK) (hG : pickQ G is = some GK) (hQ : pickQ Q js = some QK)
    (h0 : ∀ a w, St c n env G Q a w → φ y1 y2 y3 y4 y5 y6 y7 ∧ St c n (F y1 y2 y3 y4 y5 y6 y7 ++ envK) (GF y1 y2 y3 y4 y5 y6 y7 ++ GK) (QF y1 y2 y3 y4 y5 y6 y7 ++ QK) a w)
    (h : ∀ y1 y2 y3 y4 y5 y6 y7, φ y1 y2 y3 y4 y5 y6 y7 → GC P (Exit.then (fun a w => ∃ z1 z2 z3 z4 z5 z6 z7, μ z1 z2 z3 z4 z5 z6 z7 < μ y1 y2 y3 y4 y5 y6 y7 ∧ φ z1 z2 z3 z4 z5 z6 z7 ∧ St c n (F z1 z2 z3 z4 z5 z6 z7 ++ envK) (GF z1 z2 z3 z4 z5 z6 z7 ++ GK) (QF z1 z2 z3 z4 z5 z6 z7 ++ QK) a w) R) x (St c n (F y1 y2 y3 y4 y5 y6 y7 ++ envK) (GF y1 y2 y3 y4 y5 y6 y7 ++ GK) (QF y1 y2 y3 y4 y5 y6 y7 ++ QK))) : GC P R (.loop x) (St c n env G Q) :=
  GC.loopK6 (fun (y : α × β) => φ y.1 y.2) (fun y => F y.1 y.2) (fun y => GF y.1 y.2) (fun y => QF y.1 y.2) (fun y => μ y.1 y.2) (y1, y2) y3 y4 y5 y6 y7 hK hG hQ h0 fun y y3 y4 y5 y6 y7 hy => GC.post (h y.1 y.2 y3 y4 y5 y6 y7 hy) (Exit.then_mono fun a w ⟨z1, z2, z3, z4, z5, z6, z7, hz⟩ => ⟨(z1, z2), z3, z4, z5, z6, z7, hz⟩)
theorem GC.loopK8 (φ : α → β → γ → δ → ε → ζ → η → θ → Prop) (F : α → β → γ → δ → ε → ζ → η → θ → List (Nat × Value)) (GF : α → β → γ → δ → ε → ζ → η → θ → List Own) (QF : α → β → γ → δ → ε → ζ → η → θ → List Pers) (μ : α → β → γ → δ → ε → ζ → η → θ → Nat) (y1 : α) (y2 : β) (y3 : γ) (y4 : δ) (y5 : ε) (y6 : ζ) (y7 : η) (y8 : θ) (hK : kept env ks = some envK) (hG : pickQ G is = some GK) (hQ : pickQ Q js = some QK)
    (h0 : ∀ a w, St c n env G Q a w → φ y1 y2 y3 y4 y5 y6 y7 y8 ∧ St c n (F y1 y2 y3 y4 y5 y6 y7 y8 ++ envK) (GF y1 y2 y3 y4 y5 y6 y7 y8 ++ GK) (QF y1 y2 y3 y4 y5 y6 y7 y8 ++ QK) a w)
    (h : ∀ y1 y2 y3 y4 y5 y6 y7 y8, φ y1 y2 y3 y4 y5 y6 y7 y8 → GC P (Exit.then (fun a w => ∃ z1 z2 z3 z4 z5 z6 z7 z8, μ z1 z2 z3 z4 z5 z6 z7 z8 < μ y1 y2 y3 y4 y5 y6 y7 y8 ∧ φ z1 z2 z3 z4 z5 z6 z7 z8 ∧ St c n (F z1 z2 z3 z4 z5 z6 z7 z8 ++ envK) (GF z1 z2 z3 z4 z5 z6 z7 z8 ++ GK) (QF z1 z2 z3 z4 z5 z6 z7 z8 ++ QK) a w) R) x (St c n (F y1 y2 y3 y4 y5 y6 y7 y8 ++ envK) (GF y1 y2 y3 y4 y5 y6 y7 y8 ++ GK) (QF y1 y2 y3 y4 y5 y6 y7 y8 ++ QK))) : GC P R (.loop x) (St c n env G Q) :=
  GC.loopK7 (fun (y : α × β) => φ y.1 y.2) (fun y => F y.1 y.2) (fun y => GF y.1 y.2) (fun y => QF y.1 y.2) (fun y => μ y.1 y.2) (y1, y2) y3 y4 y5 y6 y7 y8 hK hG hQ h0 fun y y3 y4 y5 y6 y7 y8 hy => GC.post (h y.1 y.2 y3 y4 y5 y6 y7 y8 hy) (Exit.then_mono fun a w ⟨z1, z2, z3, z4, z5, z6, z7, z8, hz⟩ => ⟨(z1, z2), z3, z4, z5, z6, z7, z8, hz⟩)
end
end
end Go.Sx
