/- THE VOLUME: what a request does, in plain words, and its contract. -/
import Derived.Test.YtihhpkbbhfcdcaaVb3
set_option linter.unusedVariables false
set_option linter.unusedSimpArgs false
set_option maxRecDepth 100000
namespace Go.Proofs.Ytihhpkbbhfcdcaa
open Go Go.Sx Go.Proofs

/-- Blocks are written. -/
def wr (v : Vol) (num a n : Int) (data : List UInt8) : Vol := { v with b := laid v.b (a * v.sz).toNat data, vs := laid v.vs a.toNat (List.replicate n.toNat num), last := num }
def pc (v : Vol) (a n : Int) : List UInt8 := seg v.b (a * v.sz).toNat ((a + n) * v.sz).toNat
def doF (v : Vol) (o : OpD) (num : Int) : (Res × Int) × Vol :=
  if num < max v.last 1 ∨ 4611686018427387904 < num then ((rz, 5), v)
  else if (fitF v.bl v.sz o.kind o.at_ o.n o.data.length o.old.length).2 ≠ 0 then ((rz, (fitF v.bl v.sz o.kind o.at_ o.n o.data.length o.old.length).2), v)
  else if (fitF v.bl v.sz o.kind o.at_ o.n o.data.length o.old.length).1 ≠ 1 then ((⟨(fitF v.bl v.sz o.kind o.at_ o.n o.data.length o.old.length).1, []⟩, 0), { v with last := num })
  else if o.kind = 4 then ((⟨1, []⟩, 0), { v with last := num })
  else if o.kind = 1 then ((⟨1, pc v o.at_ o.n⟩, 0), { v with last := num })
  else if o.kind = 3 then ((⟨1, []⟩, 0), wr v num o.at_ o.n (List.replicate (pc v o.at_ o.n).length 0))
  else if o.kind = 5 then (if pc v o.at_ 1 = o.old then ((⟨1, []⟩, 0), wr v num o.at_ 1 o.data) else ((⟨4, pc v o.at_ 1⟩, 0), { v with last := num }))
  else ((⟨1, []⟩, 0), wr v num o.at_ o.n o.data)

theorem fit_one {bl sz kind a n : Int} {dl ol : Nat} (h1 : (fitF bl sz kind a n dl ol).1 = 1) (h2 : (fitF bl sz kind a n dl ol).2 = 0) : shapeOk bl sz ∧ formP kind a n dl ol ∧
    (kind = 4 ∨ (kind = 5 ∧ a + 1 ≤ bl ∧ (dl : Int) = sz ∧ (ol : Int) = sz) ∨ (kind ≠ 5 ∧ kind ≠ 4 ∧ 1 ≤ n ∧ n ≤ 64 ∧ a + n ≤ bl ∧ (kind = 2 → (dl : Int) = n * sz))) := by
  unfold fitF at h1 h2
  by_cases s : shapeOk bl sz
  · by_cases f : formP kind a n dl ol
    · refine ⟨s, f, ?_⟩
      rw [if_neg (fun g => g s), if_neg (fun g => g f)] at h1
      by_cases k4 : kind = 4
      · exact .inl k4
      · rw [if_neg k4] at h1
        by_cases k5 : kind = 5
        · rw [if_pos k5] at h1
          (iterate 3 all_goals try split at h1) <;> first | (exfalso; omega) | exact .inr (.inl (by omega))
        · rw [if_neg k5] at h1
          split at h1
          · simp at h1
          · split at h1
            · simp at h1
            · exact .inr (.inr (by omega))
    · rw [if_neg (fun g => g s), if_pos f] at h1; simp at h1
  · rw [if_pos s] at h1; simp at h1

theorem VolOk.last' {v : Vol} (h : VolOk v) {num : Int} (h0 : 0 ≤ num) (h1 : num ≤ 4611686018427387904) : VolOk { v with last := num } := ⟨h.shp, h.lb, h.lv, h.ver, h0, h1⟩
theorem VolOk.setb {v : Vol} (h : VolOk v) {o : Nat} {ys : List UInt8} (hf : o + ys.length ≤ v.b.length) : VolOk { v with b := laid v.b o ys } := ⟨h.shp, by rw [laid_length hf]; exact h.lb, h.lv, h.ver, h.last⟩
theorem mem_laid {α : Type} {xs ys : List α} {o : Nat} {x : α} (h : x ∈ laid xs o ys) : x ∈ xs ∨ x ∈ ys := by
  unfold laid at h
  simp only [List.mem_append] at h
  rcases h with (h | h) | h
  · exact .inl (List.mem_of_mem_take h)
  · exact .inr h
  · exact .inl (List.mem_of_mem_drop h)
theorem VolOk.setv {v : Vol} (h : VolOk v) {o k : Nat} {num : Int} (hf : o + k ≤ v.vs.length) (h0 : 0 ≤ num) (h1 : num ≤ 4611686018427387904) : VolOk { v with vs := laid v.vs o (List.replicate k num) } :=
  ⟨h.shp, h.lb, by rw [laid_length (by simpa using hf)]; exact h.lv, fun x hx => by
    rcases mem_laid hx with hx | hx
    · exact h.ver x hx
    · rw [List.eq_of_mem_replicate hx]; exact ⟨h0, h1⟩, h.last⟩
theorem VolOk.wr {v : Vol} (h : VolOk v) {num a n : Int} {data : List UInt8} (ha : 0 ≤ a) (hn : 1 ≤ n) (hb : a + n ≤ v.bl) (hd : (data.length : Int) = n * v.sz) (h0 : 0 ≤ num) (h1 : num ≤ 4611686018427387904) : VolOk (wr v num a n data) := by
  have hB := atB h.shp ha hn hb
  have hs := h.shp
  have hl := h.lb
  have hv := h.lv
  have e : (a + n) * v.sz = a * v.sz + n * v.sz := Int.add_mul _ _ _
  have := (((h.last' h0 h1).setb (o := (a * v.sz).toNat) (ys := data) (by show _ ≤ v.b.length; omega)).setv (o := a.toNat) (k := n.toNat) (num := num) (by show _ ≤ v.vs.length; omega) h0 h1)
  exact this
theorem pc_length {v : Vol} (h : VolOk v) {a n : Int} (ha : 0 ≤ a) (hn : 1 ≤ n) (hb : a + n ≤ v.bl) : ((pc v a n).length : Int) = n * v.sz := by
  have hB := atB h.shp ha hn hb
  have hl := h.lb
  have e : (a + n) * v.sz = a * v.sz + n * v.sz := Int.add_mul _ _ _
  unfold pc
  rw [seg_length (by omega)]
  omega
theorem seg_full {α : Type} {xs : List α} {l h : Nat} (hl : l = 0) (hh : h = xs.length) : seg xs l h = xs := by subst hl hh; exact seg_all xs

theorem doF_ok {v : Vol} (h : VolOk v) (o : OpD) (num : Int) : VolOk (doF v o num).2 := by
  unfold doF
  by_cases g1 : num < max v.last 1 ∨ 4611686018427387904 < num
  · rw [if_pos g1]; exact h
  · rw [if_neg g1]
    have h0 : 0 ≤ num := by omega
    have h1 : num ≤ 4611686018427387904 := by omega
    by_cases g2 : (fitF v.bl v.sz o.kind o.at_ o.n o.data.length o.old.length).2 ≠ 0
    · rw [if_pos g2]; exact h
    · rw [if_neg g2]
      by_cases g3 : (fitF v.bl v.sz o.kind o.at_ o.n o.data.length o.old.length).1 ≠ 1
      · rw [if_pos g3]; exact h.last' h0 h1
      · rw [if_neg g3]
        obtain ⟨s, f, k⟩ := fit_one (Decidable.not_not.1 g3) (Decidable.not_not.1 g2)
        have f' := f
        simp only [formP, bareP] at f'
        by_cases k4 : o.kind = 4
        · rw [if_pos k4]; exact h.last' h0 h1
        · rw [if_neg k4]
          by_cases k1 : o.kind = 1
          · rw [if_pos k1]; exact h.last' h0 h1
          · rw [if_neg k1]
            by_cases k3 : o.kind = 3
            · rw [if_pos k3]
              exact h.wr (by omega) (by omega) (by omega) (by rw [List.length_replicate]; exact pc_length h (by omega) (by omega) (by omega)) h0 h1
            · rw [if_neg k3]
              by_cases k5 : o.kind = 5
              · rw [if_pos k5]
                split
                · exact h.wr (by omega) (by omega) (by omega) (by omega) h0 h1
                · exact h.last' h0 h1
              · rw [if_neg k5]
                exact h.wr (by omega) (by omega) (by omega) (by omega) h0 h1

section
variable {v : Vol} {o : OpD} {num : Int}
theorem doF_range (h : num < max v.last 1 ∨ 4611686018427387904 < num) : doF v o num = ((rz, 5), v) := by unfold doF; rw [if_pos h]
theorem doF_fit (h : ¬ (num < max v.last 1 ∨ 4611686018427387904 < num)) (h2 : ¬ (fitF v.bl v.sz o.kind o.at_ o.n o.data.length o.old.length).2 = 0) : doF v o num = ((rz, (fitF v.bl v.sz o.kind o.at_ o.n o.data.length o.old.length).2), v) := by unfold doF; rw [if_neg h, if_pos h2]
theorem doF_code (h : ¬ (num < max v.last 1 ∨ 4611686018427387904 < num)) (h2 : (fitF v.bl v.sz o.kind o.at_ o.n o.data.length o.old.length).2 = 0) (h3 : ¬ (fitF v.bl v.sz o.kind o.at_ o.n o.data.length o.old.length).1 = 1) :
    doF v o num = ((⟨(fitF v.bl v.sz o.kind o.at_ o.n o.data.length o.old.length).1, []⟩, 0), { v with last := num }) := by unfold doF; rw [if_neg h, if_neg (fun g => g h2), if_pos h3]
theorem doF_do (h : ¬ (num < max v.last 1 ∨ 4611686018427387904 < num)) (h2 : (fitF v.bl v.sz o.kind o.at_ o.n o.data.length o.old.length).2 = 0) (h3 : (fitF v.bl v.sz o.kind o.at_ o.n o.data.length o.old.length).1 = 1) :
    doF v o num = if o.kind = 4 then ((⟨1, []⟩, 0), { v with last := num })
  else if o.kind = 1 then ((⟨1, pc v o.at_ o.n⟩, 0), { v with last := num })
  else if o.kind = 3 then ((⟨1, []⟩, 0), wr v num o.at_ o.n (List.replicate (pc v o.at_ o.n).length 0))
  else if o.kind = 5 then (if pc v o.at_ 1 = o.old then ((⟨1, []⟩, 0), wr v num o.at_ 1 o.data) else ((⟨4, pc v o.at_ 1⟩, 0), { v with last := num }))
  else ((⟨1, []⟩, 0), wr v num o.at_ o.n o.data) := by unfold doF; rw [if_neg h, if_neg (fun g => g h2), if_neg (fun g => g h3)]
end
end Go.Proofs.Ytihhpkbbhfcdcaa
