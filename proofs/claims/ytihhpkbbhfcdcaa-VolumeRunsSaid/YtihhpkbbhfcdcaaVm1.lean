/- THE VOLUME: what a request changes, and what a read tells behind it: plain words. -/
import Derived.Test.YtihhpkbbhfcdcaaVp7
set_option linter.unusedVariables false
set_option linter.unusedSimpArgs false
set_option maxRecDepth 100000
namespace Go.Proofs.Ytihhpkbbhfcdcaa
open Go Go.Sx Go.Proofs
def spanOf (o : OpD) : Int := if o.kind = 5 then 1 else o.n
def wantOf (sz : Int) (o : OpD) : List UInt8 := if o.kind = 3 then List.replicate (spanOf o * sz).toNat 0 else o.data
theorem doF_keep {v : Vol} {o : OpD} {num : Int} (h : ¬ ((doF v o num).1.2 = 0 ∧ (doF v o num).1.1.code = 1 ∧ chgP o.kind)) : (doF v o num).2.b = v.b := by
  by_cases g1 : num < max v.last 1 ∨ 4611686018427387904 < num
  · rw [doF_range g1]
  · by_cases g2 : (fitF v.bl v.sz o.kind o.at_ o.n o.data.length o.old.length).2 = 0
    · by_cases g3 : (fitF v.bl v.sz o.kind o.at_ o.n o.data.length o.old.length).1 = 1
      · rw [doF_do g1 g2 g3] at h ⊢
        obtain ⟨_, _, k⟩ := fit_one g3 g2
        by_cases k4 : o.kind = 4
        · rw [if_pos k4]
        · rw [if_neg k4] at h ⊢
          by_cases k1 : o.kind = 1
          · rw [if_pos k1]
          · rw [if_neg k1] at h ⊢
            by_cases k3 : o.kind = 3
            · exact absurd ⟨by rw [if_pos k3], by rw [if_pos k3], by simp only [chgP]; omega⟩ h
            · rw [if_neg k3] at h ⊢
              by_cases k5 : o.kind = 5
              · rw [if_pos k5] at h ⊢
                by_cases e : pc v o.at_ 1 = o.old
                · rw [if_pos e] at h
                  exact absurd ⟨rfl, rfl, by simp only [chgP]; omega⟩ h
                · rw [if_neg e]
              · rw [if_neg k5] at h
                by_cases k2 : o.kind = 2
                · exact absurd ⟨rfl, rfl, by simp only [chgP]; omega⟩ h
                · exfalso
                  obtain ⟨_, f, _⟩ := fit_one g3 g2
                  simp only [formP, bareP] at f
                  omega
      · rw [doF_code g1 g2 g3]
    · rw [doF_fit g1 g2]
structure Chg (v : Vol) (o : OpD) (num : Int) : Prop where
  at0 : 0 ≤ o.at_
  at1 : o.at_ ≤ 2147483647
  n0 : 1 ≤ spanOf o
  n1 : spanOf o ≤ 64
  fit : o.at_ + spanOf o ≤ v.bl
  len : ((wantOf v.sz o).length : Int) = spanOf o * v.sz
  b : (doF v o num).2.b = laid v.b (o.at_ * v.sz).toNat (wantOf v.sz o)
  bl : (doF v o num).2.bl = v.bl
  sz : (doF v o num).2.sz = v.sz
  last : (doF v o num).2.last = num
theorem doF_chg {v : Vol} {o : OpD} {num : Int} (hv : VolOk v) (h0 : (doF v o num).1.2 = 0) (h1 : (doF v o num).1.1.code = 1) (hc : chgP o.kind) : Chg v o num := by
  have hs := hv.shp
  simp only [shapeOk] at hs
  by_cases g1 : num < max v.last 1 ∨ 4611686018427387904 < num
  · rw [doF_range g1] at h0; simp at h0
  · by_cases g2 : (fitF v.bl v.sz o.kind o.at_ o.n o.data.length o.old.length).2 = 0
    · by_cases g3 : (fitF v.bl v.sz o.kind o.at_ o.n o.data.length o.old.length).1 = 1
      · have e := doF_do g1 g2 g3
        obtain ⟨_, f, k⟩ := fit_one g3 g2
        simp only [formP, bareP] at f
        simp only [chgP] at hc
        by_cases k3 : o.kind = 3
        · rw [if_neg (by omega), if_neg (by omega), if_pos k3] at e
          have es : spanOf o = o.n := by unfold spanOf; rw [if_neg (by omega)]
          have hp := pc_length hv (a := o.at_) (n := o.n) (by omega) (by omega) (by omega)
          have hm := mulB (x := o.n) (a := 64) (y := v.sz) (b := 4096) (by omega) (by omega) (by omega) (by omega)
          have ew : wantOf v.sz o = List.replicate (pc v o.at_ o.n).length 0 := by
            unfold wantOf; rw [if_pos k3, es]; congr 1; omega
          exact ⟨by omega, by omega, by omega, by omega, by omega, by rw [ew, es, List.length_replicate]; exact hp, by rw [e, ew]; rfl, by rw [e]; rfl, by rw [e]; rfl, by rw [e]; rfl⟩
        · have ew : wantOf v.sz o = o.data := by unfold wantOf; rw [if_neg k3]
          by_cases k5 : o.kind = 5
          · have es : spanOf o = 1 := by unfold spanOf; rw [if_pos k5]
            rw [if_neg (by omega), if_neg (by omega), if_neg k3, if_pos k5] at e
            by_cases q : pc v o.at_ 1 = o.old
            · rw [if_pos q] at e
              exact ⟨by omega, by omega, by omega, by omega, by omega, by rw [ew, es]; omega, by rw [e, ew]; rfl, by rw [e]; rfl, by rw [e]; rfl, by rw [e]; rfl⟩
            · rw [if_neg q] at e
              rw [e] at h1; simp at h1
          · have es : spanOf o = o.n := by unfold spanOf; rw [if_neg k5]
            rw [if_neg (by omega), if_neg (by omega), if_neg k3, if_neg k5] at e
            exact ⟨by omega, by omega, by omega, by omega, by omega, by rw [ew, es]; omega, by rw [e, ew]; rfl, by rw [e]; rfl, by rw [e]; rfl, by rw [e]; rfl⟩
      · rw [doF_code g1 g2 g3] at h1; exact absurd h1 g3
    · rw [doF_fit g1 g2] at h0; exact absurd h0 g2
theorem read_after {v : Vol} {o : OpD} (hv : VolOk v) (c : Chg v o 4611686018427387904) :
    doF (doF v o 4611686018427387904).2 ⟨1, o.at_, spanOf o, [], []⟩ 4611686018427387904 = ((⟨1, wantOf v.sz o⟩, 0), (doF v o 4611686018427387904).2) := by
  have hs := hv.shp
  have hu := doF_ok hv o 4611686018427387904
  have c1 := c.at0; have c2 := c.at1; have c3 := c.n0; have c4 := c.n1; have c5 := c.fit; have c6 := c.len
  have hfit : fitF v.bl v.sz 1 o.at_ (spanOf o) 0 0 = (1, 0) := by
    unfold fitF
    rw [if_neg (fun g => g hs), if_neg (fun g => g (by unfold formP bareP; exact ⟨by omega, by omega, by omega, by omega, by omega, by omega, .inr (.inl ⟨.inl rfl, rfl, rfl⟩)⟩)), if_neg (by decide), if_neg (by decide), if_neg (show ¬ (spanOf o < 1 ∨ spanOf o > 64 ∨ o.at_ > v.bl - spanOf o) by omega), if_neg (fun g => absurd g.1 (by decide))]
  have hB := atB hs c1 c3 c5
  have e1 : (o.at_ + spanOf o) * v.sz = o.at_ * v.sz + spanOf o * v.sz := Int.add_mul _ _ _
  have hl := hv.lb
  have hp : pc (doF v o 4611686018427387904).2 o.at_ (spanOf o) = wantOf v.sz o := by
    unfold pc
    rw [c.b, c.sz]
    apply List.ext_getElem?
    intro j
    rw [seg_get, laid_get (by omega)]
    by_cases hj : j < (wantOf v.sz o).length
    · rw [if_pos (by omega), if_neg (by omega), if_pos (by omega)]
      congr 1; omega
    · rw [if_neg (by omega)]
      exact (List.getElem?_eq_none (by omega)).symm
  have e := doF_do (v := (doF v o 4611686018427387904).2) (o := ⟨1, o.at_, spanOf o, [], []⟩) (num := 4611686018427387904) (by rw [c.last]; omega) (by rw [c.bl, c.sz]; exact congrArg Prod.snd hfit) (by rw [c.bl, c.sz]; exact congrArg Prod.fst hfit)
  rw [e, if_neg (show ¬ (1 : Int) = 4 by decide), if_pos rfl]
  simp only [hp]
  have hla := c.last
  generalize (doF v o 4611686018427387904).2 = u at *
  cases u
  simp only at hla
  subst hla
  rfl
theorem read_at {v : Vol} {o : OpD} {s : Int} (hv : VolOk v) (c : Chg v o 4611686018427387904) (es : spanOf o = s) :
    doF (doF v o 4611686018427387904).2 ⟨1, o.at_, s, [], []⟩ 4611686018427387904 = ((⟨1, wantOf v.sz o⟩, 0), (doF v o 4611686018427387904).2) := es ▸ read_after hv c
theorem laid_before {α : Type} {xs ys : List α} {o : Nat} (h : o + ys.length ≤ xs.length) : seg (laid xs o ys) 0 o = seg xs 0 o := by
  apply List.ext_getElem?
  intro j
  rw [seg_get, seg_get, laid_get h]
  by_cases hj : 0 + j < o
  · rw [if_pos hj, if_pos hj, if_pos hj]
  · rw [if_neg hj, if_neg hj]
theorem laid_behind {α : Type} {xs ys : List α} {o t : Nat} (h : o + ys.length ≤ xs.length) (ht : t = o + ys.length) : seg (laid xs o ys) t (laid xs o ys).length = seg xs t xs.length := by
  rw [laid_length h]
  apply List.ext_getElem?
  intro j
  rw [seg_get, seg_get, laid_get h]
  by_cases hj : t + j < xs.length
  · have h1 : ¬ t + j < o := by omega
    have h2 : ¬ t + j < o + ys.length := by omega
    simp only [if_pos hj, if_neg h1, if_neg h2]
  · simp only [if_neg hj]
theorem put_shape : ∀ (l : List Page) (v : Vol), (putF v l).bl = v.bl ∧ (putF v l).sz = v.sz
  | [], v => ⟨rfl, rfl⟩
  | p :: r, v => put_shape r (put1 v p)
theorem doF_shape (v : Vol) (o : OpD) (num : Int) : (doF v o num).2.bl = v.bl ∧ (doF v o num).2.sz = v.sz := by
  unfold doF
  (repeat' split) <;> exact ⟨rfl, rfl⟩
theorem stepF_shape (v : Vol) (x : Step) : (stepF v x).bl = v.bl ∧ (stepF v x).sz = v.sz := by
  unfold stepF patchF
  split
  · split
    · exact put_shape _ _
    · exact ⟨rfl, rfl⟩
  · exact doF_shape _ _ _
section
variable {P : Program} {n : Nat} {env : List (Nat × Value)} {d : Nat} {ty : TypeId} {pos : String} {aft : Array Edge} {g : Option (Nat × Bool)} {x y : Operand} {t u : TypeId}
theorem p_seqT {s r : ByteArray} (hx : ev env x = some (.string s)) (hy : ev env y = some (.string r)) (h : s = r) : Pv P n env ⟨some d, .binOp .eql t x y u, ty, pos, aft, g⟩ (.bool true) := by
  have := p_seql (P := P) (n := n) (d := d) (ty := ty) (pos := pos) (aft := aft) (g := g) (t := t) (u := u) hx hy
  rwa [decide_eq_true h] at this
end
end Go.Proofs.Ytihhpkbbhfcdcaa
