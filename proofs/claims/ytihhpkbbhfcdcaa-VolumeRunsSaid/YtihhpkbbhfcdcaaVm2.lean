/- THE VOLUME: a volume as it was, with the blocks that were changed since, is the later one: plain words. -/
import Derived.Test.YtihhpkbbhfcdcaaVm1
set_option linter.unusedVariables false
set_option linter.unusedSimpArgs false
set_option maxRecDepth 100000
namespace Go.Sx
open Go
theorem GA.freezeR {P : Program} {c : Cx} {n : Nat} {env : List (Nat × Value)} {G G' : List Own} {Q : List Pers} {ops : Array Oper} {M : Asr} {I : World → Prop} {fuel : Nat} {listed : Array Bool} {α : Type} {kd : Kd α} {i j e m cp : Nat} {A : Option Addr} {xs : List α} {cs : List Value}
    (ht : takeO G i = some (.row (.slice A m cp) e kd.sz m cs, G')) (hj : nthO Q j = some (Pers.reps kd xs cs)) (hp : 0 < kd.sz) (k : GA P ops M I fuel listed (St c n env G' (Pers.row kd A xs :: Q))) : GA P ops M I fuel listed (St c n env G Q) := GA.imp (fun a w h => h.freezeR ht hj hp) k
end Go.Sx
namespace Go.Proofs.Ytihhpkbbhfcdcaa
open Go Go.Sx Go.Proofs

/-- w as it was at number m, v the later one: blocks of an old version are the same in both. -/
structure Later (m : Int) (w v : Vol) : Prop where
  bl : v.bl = w.bl
  sz : v.sz = w.sz
  same : ∀ i : Int, 0 ≤ i → i < v.bl → gt v.vs i ≤ m → gt v.vs i = gt w.vs i ∧ pc v i 1 = pc w i 1
theorem gt_set {xs : List Int} {k : Nat} {x : Int} {i : Int} (h0 : 0 ≤ i) (h : i < xs.length) : gt (xs.set k x) i = if k = i.toNat then x else gt xs i := by
  have h1 := gt_ok (xs := xs.set k x) (i := i) h0 (by simpa using h)
  have h2 := gt_ok (xs := xs) (i := i) h0 h
  rw [List.getElem?_set] at h1
  split at h1
  · rename_i e
    rw [if_pos e]
    split at h1
    · exact (Option.some.inj h1).symm
    · cases h1
  · rename_i e
    rw [if_neg e, h2] at *
    exact (Option.some.inj h1).symm
theorem gt_laid {vs : List Int} {o k : Nat} {x : Int} {i : Int} (h0 : 0 ≤ i) (h : i < vs.length) (hf : o + k ≤ vs.length) : gt (laid vs o (List.replicate k x)) i = if o ≤ i.toNat ∧ i.toNat < o + k then x else gt vs i := by
  have h1 := gt_ok (xs := laid vs o (List.replicate k x)) (i := i) h0 (by rw [laid_length (by simpa using hf)]; exact h)
  have h2 := gt_ok (xs := vs) (i := i) h0 h
  rw [laid_get (by simpa using hf), List.length_replicate] at h1
  by_cases c1 : i.toNat < o
  · rw [if_pos c1, h2] at h1
    rw [if_neg (by omega)]
    exact (Option.some.inj h1).symm
  · rw [if_neg c1] at h1
    by_cases c2 : i.toNat < o + k
    · rw [if_pos c2, List.getElem?_replicate, if_pos (by omega)] at h1
      rw [if_pos ⟨by omega, c2⟩]
      exact (Option.some.inj h1).symm
    · rw [if_neg c2, h2] at h1
      rw [if_neg (by omega)]
      exact (Option.some.inj h1).symm
/-- Another block than those that are written is as it was. -/
theorem pc_laid {v u : Vol} (hv : VolOk v) (hb : u.bl = v.bl) (hs : u.sz = v.sz) {a n i : Int} {data : List UInt8} (ha : 0 ≤ a) (hn : 1 ≤ n) (hf : a + n ≤ v.bl) (hd : (data.length : Int) = n * v.sz) (h : u.b = laid v.b (a * v.sz).toNat data) (h0 : 0 ≤ i) (h1 : i < v.bl) (ho : i < a ∨ a + n ≤ i) : pc u i 1 = pc v i 1 := by
  have hsh := hv.shp
  have hlb := hv.lb
  have hB := atB hsh ha hn hf
  have hI := atB hsh h0 (n := 1) (by omega) (by omega)
  have e1 : (a + n) * v.sz = a * v.sz + n * v.sz := Int.add_mul _ _ _
  have e2 : (i + 1) * v.sz = i * v.sz + v.sz := by rw [Int.add_mul, Int.one_mul]
  have hord : (i + 1) * v.sz ≤ a * v.sz ∨ (a + n) * v.sz ≤ i * v.sz := by
    simp only [shapeOk] at hsh
    rcases ho with g | g
    · exact .inl (Int.mul_le_mul_of_nonneg_right (by omega) (by omega))
    · exact .inr (Int.mul_le_mul_of_nonneg_right g (by omega))
  unfold pc
  rw [h, hs]
  apply List.ext_getElem?
  intro j
  rw [seg_get, seg_get, laid_get (by omega)]
  by_cases hj : (i * v.sz).toNat + j < ((i + 1) * v.sz).toNat
  · simp only [if_pos hj]
    rcases hord with g | g
    · rw [if_pos (by omega)]
    · rw [if_neg (by omega), if_neg (by omega)]
  · simp only [if_neg hj]

theorem doF_alt {v : Vol} (hv : VolOk v) (o : OpD) (num : Int) : ((doF v o num).2.b = v.b ∧ (doF v o num).2.vs = v.vs) ∨
    ∃ a n data, 0 ≤ a ∧ 1 ≤ n ∧ a + n ≤ v.bl ∧ ((data : List UInt8).length : Int) = n * v.sz ∧ (doF v o num).2 = wr v num a n data := by
  by_cases g1 : num < max v.last 1 ∨ 4611686018427387904 < num
  · rw [doF_range g1]; exact .inl ⟨rfl, rfl⟩
  · by_cases g2 : (fitF v.bl v.sz o.kind o.at_ o.n o.data.length o.old.length).2 = 0
    · by_cases g3 : (fitF v.bl v.sz o.kind o.at_ o.n o.data.length o.old.length).1 = 1
      · rw [doF_do g1 g2 g3]
        obtain ⟨_, f, k⟩ := fit_one g3 g2
        simp only [formP, bareP] at f
        by_cases k4 : o.kind = 4
        · rw [if_pos k4]; exact .inl ⟨rfl, rfl⟩
        · rw [if_neg k4]
          by_cases k1 : o.kind = 1
          · rw [if_pos k1]; exact .inl ⟨rfl, rfl⟩
          · rw [if_neg k1]
            by_cases k3 : o.kind = 3
            · rw [if_pos k3]
              exact .inr ⟨_, _, _, by omega, by omega, by omega, by rw [List.length_replicate]; exact pc_length hv (by omega) (by omega) (by omega), rfl⟩
            · rw [if_neg k3]
              by_cases k5 : o.kind = 5
              · rw [if_pos k5]
                by_cases e : pc v o.at_ 1 = o.old
                · rw [if_pos e]
                  exact .inr ⟨_, _, _, by omega, by omega, by omega, by omega, rfl⟩
                · rw [if_neg e]; exact .inl ⟨rfl, rfl⟩
              · rw [if_neg k5]
                exact .inr ⟨_, _, _, by omega, by omega, by omega, by omega, rfl⟩
      · rw [doF_code g1 g2 g3]; exact .inl ⟨rfl, rfl⟩
    · rw [doF_fit g1 g2]; exact .inl ⟨rfl, rfl⟩
theorem Later.refl (m : Int) (v : Vol) : Later m v v := ⟨rfl, rfl, fun _ _ _ _ => ⟨rfl, rfl⟩⟩
theorem Later.step {m : Int} {w v : Vol} (h : Later m w v) (hv : VolOk v) (o : OpD) {num : Int} (hm : m < num) : Later m w (doF v o num).2 := by
  have hsh := doF_shape v o num
  refine ⟨hsh.1.trans h.bl, hsh.2.trans h.sz, fun i h0 h1 hi => ?_⟩
  rw [hsh.1] at h1
  rcases doF_alt hv o num with ⟨e1, e2⟩ | ⟨a, n, data, ha, hn, hf, hd, e⟩
  · have ep : pc (doF v o num).2 i 1 = pc v i 1 := by unfold pc; rw [e1, hsh.2]
    rw [e2] at hi ⊢
    rw [ep]
    exact h.same i h0 h1 hi
  · have hlv := hv.lv
    have hs := hv.shp
    simp only [shapeOk] at hs
    have eg : gt (doF v o num).2.vs i = if a.toNat ≤ i.toNat ∧ i.toNat < a.toNat + n.toNat then num else gt v.vs i := by
      rw [e]; exact gt_laid h0 (by omega) (by omega)
    by_cases c : a.toNat ≤ i.toNat ∧ i.toNat < a.toNat + n.toNat
    · rw [eg, if_pos c] at hi; omega
    · rw [eg, if_neg c] at hi ⊢
      have ep : pc (doF v o num).2 i 1 = pc v i 1 := by
        rw [e]
        exact pc_laid (u := wr v num a n data) hv rfl rfl ha hn hf hd rfl h0 h1 (by omega)
      rw [ep]
      exact h.same i h0 h1 hi

theorem pc_put {u : Vol} {p : Page} (hu : VolOk u) (hp : pageOk u.bl u.sz p) : pc (put1 u p) p.at_ 1 = p.data := by
  obtain ⟨q0, q1, q2, q3, q4⟩ := hp
  have hB := atB hu.shp q0 (n := 1) (by omega) (by omega)
  have e1 : (p.at_ + 1) * u.sz = p.at_ * u.sz + u.sz := by rw [Int.add_mul, Int.one_mul]
  have hlb := hu.lb
  show seg (laid u.b (p.at_ * u.sz).toNat p.data) (p.at_ * u.sz).toNat ((p.at_ + 1) * u.sz).toNat = p.data
  apply List.ext_getElem?
  intro j
  rw [seg_get, laid_get (by omega)]
  by_cases hj : j < p.data.length
  · rw [if_pos (by omega), if_neg (by omega), if_pos (by omega)]
    congr 1; omega
  · rw [if_neg (by omega)]
    exact (List.getElem?_eq_none (by omega)).symm
theorem putF_app (w : Vol) (p : Page) : ∀ (l : List Page), putF w (l ++ [p]) = put1 (putF w l) p := by
  intro l
  induction l generalizing w with
  | nil => rfl
  | cons q r ih => exact ih (put1 w q)
theorem pagesA_at (v : Vol) (m : Int) : ∀ k, ∀ p ∈ pagesA v m k, p.at_ < (k : Int)
  | 0, p, hp => by cases hp
  | k + 1, p, hp => by
    rw [pagesA] at hp
    split at hp
    · rcases List.mem_append.1 hp with hp | hp
      · have := pagesA_at v m k p hp; omega
      · rw [List.mem_singleton.1 hp]; show (k : Int) < _; omega
    · have := pagesA_at v m k p hp; omega
theorem laidF_snoc {bl sz : Int} {p : Page} : ∀ {l : List Page} {last : Int}, laidF bl sz last l = true → (∀ q ∈ l, q.at_ < p.at_) → last < p.at_ → pageOk bl sz p → laidF bl sz last (l ++ [p]) = true
  | [], last, _, _, hl, hp => by
    simp only [pageOk] at hp
    show (if badP bl sz last p then false else laidF bl sz p.at_ []) = true
    rw [if_neg (by simp only [badP]; omega)]; rfl
  | q :: r, last, h, hq, hl, hp => by
    rw [laidF] at h
    split at h
    · cases h
    · rename_i hb
      show (if badP bl sz last q then false else laidF bl sz q.at_ (r ++ [p])) = true
      rw [if_neg hb]
      exact laidF_snoc h (fun x hx => hq x (.tail _ hx)) (hq q (.head _)) hp
theorem pages_laid {v : Vol} (hv : VolOk v) (m : Int) : ∀ k : Nat, k ≤ v.bl.toNat → laidF v.bl v.sz (-1) (pagesA v m k) = true
  | 0, _ => rfl
  | k + 1, hk => by
    have ih := pages_laid hv m k (by omega)
    have hs := hv.shp
    have hlv := hv.lv
    simp only [shapeOk] at hs
    rw [pagesA]
    split
    · rename_i g
      have hmem := gt_mem (l := v.vs) (k := k) (by omega)
      have hver := hv.ver _ hmem
      have hp := pc_length hv (a := (k : Int)) (n := 1) (by omega) (by omega) (by omega)
      exact laidF_snoc ih (fun q hq => pagesA_at v m k q hq) (show (-1 : Int) < (k : Int) by omega) ⟨show (0 : Int) ≤ (k : Int) by omega, show (k : Int) < v.bl by omega, show 1 ≤ gt v.vs (k : Int) by omega, hver.2, by show ((pc v (k : Int) 1).length : Int) = v.sz; omega⟩
    · exact ih
/-- The later volume, block by block. -/
theorem put_pages {m : Int} {w v : Vol} (hw : VolOk w) (hv : VolOk v) (h : Later m w v) (hm : 0 ≤ m) : ∀ k : Nat, k ≤ v.bl.toNat →
    VolOk (putF w (pagesA v m k)) ∧ ∀ i : Int, 0 ≤ i → i < v.bl → if i < k then gt (putF w (pagesA v m k)).vs i = gt v.vs i ∧ pc (putF w (pagesA v m k)) i 1 = pc v i 1 else gt (putF w (pagesA v m k)).vs i = gt w.vs i ∧ pc (putF w (pagesA v m k)) i 1 = pc w i 1
  | 0, _ => ⟨hw, fun i h0 _ => by rw [if_neg (by omega)]; exact ⟨rfl, rfl⟩⟩
  | k + 1, hk => by
    obtain ⟨ok, ih⟩ := put_pages hw hv h hm k (by omega)
    have hs := hv.shp
    simp only [shapeOk] at hs
    have hlv := hv.lv
    by_cases g : gt v.vs k > max m 0
    · rw [pages_yes g, putF_app]
      have hsh := put_shape (pagesA v m k) w
      have hmem := gt_mem (l := v.vs) (k := k) (by omega)
      have hver := hv.ver _ hmem
      have hp := pc_length hv (a := (k : Int)) (n := 1) (by omega) (by omega) (by omega)
      have hbl := h.bl
      have hsz := h.sz
      have hpo : pageOk (putF w (pagesA v m k)).bl (putF w (pagesA v m k)).sz ⟨k, gt v.vs k, pc v k 1⟩ := by
        rw [hsh.1, hsh.2]
        exact ⟨show (0 : Int) ≤ (k : Int) by omega, show (k : Int) < w.bl by omega, show 1 ≤ gt v.vs (k : Int) by omega, hver.2, by show ((pc v (k : Int) 1).length : Int) = w.sz; omega⟩
      refine ⟨put1_ok ok hpo, fun i h0 h1 => ?_⟩
      have hlu := ok.lv
      have eg : gt (put1 (putF w (pagesA v m k)) ⟨k, gt v.vs k, pc v k 1⟩).vs i = if ((k : Int)).toNat ≤ i.toNat ∧ i.toNat < ((k : Int)).toNat + 1 then gt v.vs k else gt (putF w (pagesA v m k)).vs i :=
        gt_laid (o := ((k : Int)).toNat) (k := 1) h0 (by omega) (by omega)
      have old := ih i h0 h1
      have hdl : ((pc v (k : Int) 1).length : Int) = 1 * (putF w (pagesA v m k)).sz := by rw [hsh.2, hp, hsz]
      by_cases c : i = k
      · subst c
        rw [if_pos (by omega)]
        refine ⟨by rw [eg, if_pos (by omega)], ?_⟩
        exact pc_put ok hpo
      · have ep : pc (put1 (putF w (pagesA v m k)) ⟨k, gt v.vs k, pc v k 1⟩) i 1 = pc (putF w (pagesA v m k)) i 1 :=
          pc_laid (u := put1 (putF w (pagesA v m k)) ⟨k, gt v.vs k, pc v k 1⟩) ok rfl rfl (a := (k : Int)) (n := 1) (by omega) (by omega) (by omega) hdl rfl h0 (by omega) (by omega)
        rw [if_neg (by omega)] at eg
        rw [eg, ep]
        by_cases c2 : i < k
        · rw [if_pos c2] at old
          rw [if_pos (by omega)]; exact old
        · rw [if_neg c2] at old
          rw [if_neg (by omega)]; exact old
    · rw [pages_no g]
      refine ⟨ok, fun i h0 h1 => ?_⟩
      have old := ih i h0 h1
      by_cases c : i = k
      · subst c
        rw [if_neg (by omega)] at old
        rw [if_pos (by omega)]
        have := h.same (k : Int) h0 h1 (by omega)
        exact ⟨old.1.trans this.1.symm, old.2.trans this.2.symm⟩
      · by_cases c2 : i < k
        · rw [if_pos c2] at old
          rw [if_pos (by omega)]; exact old
        · rw [if_neg c2] at old
          rw [if_neg (by omega)]; exact old
theorem list_gt {xs ys : List Int} (hl : xs.length = ys.length) (h : ∀ i : Int, 0 ≤ i → i < xs.length → gt xs i = gt ys i) : xs = ys := by
  apply List.ext_getElem?
  intro j
  by_cases hj : j < xs.length
  · have a1 := gt_ok (xs := xs) (i := (j : Int)) (by omega) (by omega)
    have a2 := gt_ok (xs := ys) (i := (j : Int)) (by omega) (by omega)
    simp only [Int.toNat_natCast] at a1 a2
    rw [a1, a2, h j (by omega) (by omega)]
  · rw [List.getElem?_eq_none (by omega), List.getElem?_eq_none (by omega)]
theorem b_pc {u v : Vol} (hu : VolOk u) (hv : VolOk v) (hb : u.bl = v.bl) (hs : u.sz = v.sz) (h : ∀ i : Int, 0 ≤ i → i < v.bl → pc u i 1 = pc v i 1) : u.b = v.b := by
  have hsh := hv.shp
  simp only [shapeOk] at hsh
  have l1 := hu.lb'
  have l2 := hv.lb'
  rw [hb, hs] at l1
  apply List.ext_getElem?
  intro j
  by_cases hj : j < v.b.length
  · have hs0 : 0 < v.sz.toNat := by omega
    have hq : j / v.sz.toNat < v.bl.toNat := by rw [Nat.div_lt_iff_lt_mul hs0, ← l2]; exact hj
    have hm := Nat.div_add_mod j v.sz.toNat
    have hlt := Nat.mod_lt j hs0
    generalize j / v.sz.toNat = q at hq hm
    generalize j % v.sz.toNat = r at hm hlt
    have hp := h (q : Int) (by omega) (by omega)
    have e1 := pc_nat (v := u) (by omega) q 1
    have e2 := pc_nat (v := v) (by omega) q 1
    rw [hs] at e1
    have hp2 : seg u.b (q * v.sz.toNat) ((q + 1) * v.sz.toNat) = seg v.b (q * v.sz.toNat) ((q + 1) * v.sz.toNat) := e1.symm.trans (hp.trans e2)
    have hj2 := congrArg (fun l : List UInt8 => l[r]?) hp2
    simp only [seg_get] at hj2
    have e3 : q * v.sz.toNat + r = j := by rw [Nat.mul_comm]; exact hm
    have e4 : q * v.sz.toNat + r < (q + 1) * v.sz.toNat := by rw [Nat.add_mul, Nat.one_mul]; omega
    rw [if_pos e4, if_pos e4, e3] at hj2
    exact hj2
  · rw [List.getElem?_eq_none (by omega), List.getElem?_eq_none (by omega)]
theorem pagesA_congr {u v : Vol} (hb : u.b = v.b) (hvs : u.vs = v.vs) (hs : u.sz = v.sz) (m : Int) : ∀ k, pagesA u m k = pagesA v m k
  | 0 => rfl
  | k + 1 => by
    have ep : pc u k 1 = pc v k 1 := by unfold pc; rw [hb, hs]
    rw [pagesA, pagesA, pagesA_congr hb hvs hs m k, hvs, ep]
theorem changed {m : Int} {w v : Vol} (hw : VolOk w) (hv : VolOk v) (h : Later m w v) (hm : 0 ≤ m) :
    patchF w (pagesF v m) = (0, putF w (pagesF v m)) ∧ VolOk (putF w (pagesF v m)) ∧ (putF w (pagesF v m)).b = v.b ∧ ∀ s, pagesF (putF w (pagesF v m)) s = pagesF v s := by
  have hl := pages_laid hv m v.bl.toNat (Nat.le_refl _)
  have hp : patchF w (pagesF v m) = (0, putF w (pagesF v m)) := by
    unfold patchF; rw [if_pos (by rw [← h.bl, ← h.sz]; exact hl)]
  obtain ⟨ok, all⟩ := put_pages hw hv h hm v.bl.toNat (Nat.le_refl _)
  have hsh := put_shape (pagesF v m) w
  have hb : (putF w (pagesF v m)).bl = v.bl := hsh.1.trans h.bl.symm
  have hs : (putF w (pagesF v m)).sz = v.sz := hsh.2.trans h.sz.symm
  have hB : (putF w (pagesF v m)).b = v.b := b_pc ok hv hb hs fun i h0 h1 => by
    have := all i h0 h1
    rw [if_pos (by omega)] at this
    exact this.2
  have l1 := ok.lv
  have l2 := hv.lv
  have hV : (putF w (pagesF v m)).vs = v.vs := list_gt (by rw [show (putF w (pagesF v m)).vs.length = (putF w (pagesF v m)).bl.toNat from l1, hb, l2]) fun i h0 h1 => by
    have hi : i < v.bl := by
      have l3 : (putF w (pagesF v m)).vs.length = (putF w (pagesF v m)).bl.toNat := l1
      rw [hb] at l3
      omega
    have := all i h0 hi
    rw [if_pos (by omega)] at this
    exact this.1
  exact ⟨hp, ok, hB, fun s => by
    show pagesA (putF w (pagesF v m)) s (putF w (pagesF v m)).bl.toNat = pagesA v s v.bl.toNat
    rw [hb]; exact pagesA_congr hB hV hs s _⟩
end Go.Proofs.Ytihhpkbbhfcdcaa
