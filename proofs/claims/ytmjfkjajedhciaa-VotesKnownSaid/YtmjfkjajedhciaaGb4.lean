/- GROUPS: the group of the next epoch: walks of both. -/
import Derived.Test.YtmjfkjajedhciaaGb3
import Derived.Test.YtmjfkjajedhciaaLy
set_option linter.unusedVariables false
set_option linter.unusedSimpArgs false
set_option maxRecDepth 100000
namespace Go.Proofs.Ytmjfkjajedhciaa
open Go Go.Sx Go.Proofs
/-! ### the library -/
theorem sortI_ct (A : Option Addr) (n cp : Nat) (xs : List Int) (hn : xs.length = n) (hbig : n < 4611686018427387904) : Ct Try.prog 22 [.slice A n cp] [.row (.slice A n cp) 3 1 n (xs.map iv)] []
    (fun u G Q => u = .tuple #[] ∧ G = [.row (.slice A n cp) 3 1 n ((xs.mergeSort fun x y => decide (x ≤ y)).map iv)] ∧ Q = []) := ct_sortI Try.sortInt A n cp _ xs hn hbig
theorem compact_succ {zs : List Int} {m : Nat} (hm : m < zs.length) : Lib.compactUpTo zs.toArray (m + 1) = Lib.compactUpTo zs.toArray m ++ (if Lib.keeps zs.toArray m then [gt zs (m : Int)] else []) := by
  rw [Lib.compactUpTo_succ]
  have : zs.toArray[m]! = gt zs (m : Int) := by
    rw [gt_get hm, getElem!_pos zs.toArray m (by simpa using hm)]; simp
  rw [this]
theorem compact_le (zs : List Int) : ∀ m, (Lib.compactUpTo zs.toArray m).length ≤ m := by
  intro m
  unfold Lib.compactUpTo
  rw [List.length_map]
  exact Nat.le_trans (List.length_filter_le _ _) (by simp)
theorem compactI_ct (A : Option Addr) (n cp : Nat) (xs : List Int) (hn : xs.length = n) : Ct Try.prog 23 [.slice A n cp] [.row (.slice A n cp) 3 1 n (xs.map iv)] []
    (fun u G Q => u = .slice A (Lib.compact xs).length cp ∧ G = [.row (.slice A (Lib.compact xs).length cp) 3 1 (Lib.compact xs).length ((Lib.compact xs).map iv)] ∧ Q = []) := ct_compactI Try.compactInt A n cp _ xs hn (compact_le xs xs.length)
/-! ### the closure -/
/-! ### the next group -/
def outF (l add drop : List Int) : List Int := Lib.compact (((l ++ add).filter fun x => !decide (x ∈ drop)).mergeSort fun x y => decide (x ≤ y))
def nextF (e : Int) (l add drop : List Int) : Int × List Int × Int :=
  if groupOk e l = true then
    if e = 4611686018427387904 then (0, [], 130)
    else if groupOk (e + 1) (outF l add drop) = true then (e + 1, outF l add drop, 0) else (0, [], 130)
  else (0, [], 130)
abbrev nextV (r : Int × List Int × Int) (A : Option Addr) (cp : Nat) : Value := .tuple #[grpV r.1 A r.2.1.length cp, .int .i64 r.2.2]
end Go.Proofs.Ytmjfkjajedhciaa

